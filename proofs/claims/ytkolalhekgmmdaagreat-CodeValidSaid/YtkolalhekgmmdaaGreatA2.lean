/- Contracts of the functions, part 2. -/
import Derived.Test.YtkolalhekgmmdaaGreatA1
import Derived.Test.YtkolalhekgmmdaaGreatA1
import Derived.Test.YtkolalhekgmmdaaGreatS2
import Derived.Recover
namespace Go.Proofs.YtkolalhekgmmdaaGreat
open Go.RowKit Go.SX
set_option maxRecDepth 100000
set_option maxHeartbeats 4000000
set_option linter.unusedVariables false
set_option linter.unusedSimpArgs false
def fldB (A : Ar) (fl regs : Int) (s : GStmt) : Bool :=
  let u := useOf s.Kind
  zeroB s && (!u.f || inr fl s.F) && (!(u.g && decide (s.Kind ≠ 4)) || inr fl s.G) && (!decide (s.Kind = 4) || (decide (s.G = 0) || decide (s.G = 1))) && (!u.r || inr regs s.R) && (decide (0 ≤ s.N) && decide (s.N ≤ 12)) && (!u.lit || litB A regs s.Lit) && inB regs s.Regs && (!u.name || (A s.Name).isSome) && (!u.regs || decide ((A s.Name).getD 0 = s.Regs.length)) && (!u.frm || (A s.From).isSome && decide ((A s.Name).getD 0 = (A s.From).getD 0))
theorem fld_0 (A : Ar) (fl regs : Int) (s : GStmt) (hk : s.Kind = 0) : fldB A fl regs s = (plainB s ⟨#[70, 108]⟩ && inB fl [s.F] && litB A regs s.Lit) := by
  unfold fldB zeroB plainB
  rw [hk, show useOf 0 = ⟨true, false, false, false, false, false, true, false, false, false⟩ from rfl]
  simp only [show hasB ⟨#[70, 108]⟩ 70 = true from rfl, show hasB ⟨#[70, 108]⟩ 71 = false from rfl, show hasB ⟨#[70, 108]⟩ 82 = false from rfl, show hasB ⟨#[70, 108]⟩ 78 = false from rfl, show hasB ⟨#[70, 108]⟩ 110 = false from rfl, show hasB ⟨#[70, 108]⟩ 102 = false from rfl, show hasB ⟨#[70, 108]⟩ 108 = true from rfl, show hasB ⟨#[70, 108]⟩ 114 = false from rfl, show hasB ⟨#[70, 108]⟩ 98 = false from rfl, show hasB ⟨#[70, 108]⟩ 101 = false from rfl]
  rw [Bool.eq_iff_iff]
  simp only [inB, inr, List.all_cons, List.all_nil, Bool.and_true, Bool.true_or, Bool.or_true, Bool.false_or, Bool.or_false, Bool.true_and, Bool.not_true, Bool.not_false, Bool.false_and, Bool.and_false, bA, Bool.or_eq_true, Bool.not_eq_true', dT, dF]
  constructor <;> intro h <;> simp_all [inB] <;> omega
theorem fld_1 (A : Ar) (fl regs : Int) (s : GStmt) (hk : s.Kind = 1) : fldB A fl regs s = (plainB s ⟨#[70, 71]⟩ && inB fl [s.F, s.G]) := by
  unfold fldB zeroB plainB
  rw [hk, show useOf 1 = ⟨true, true, false, false, false, false, false, false, false, false⟩ from rfl]
  simp only [show hasB ⟨#[70, 71]⟩ 70 = true from rfl, show hasB ⟨#[70, 71]⟩ 71 = true from rfl, show hasB ⟨#[70, 71]⟩ 82 = false from rfl, show hasB ⟨#[70, 71]⟩ 78 = false from rfl, show hasB ⟨#[70, 71]⟩ 110 = false from rfl, show hasB ⟨#[70, 71]⟩ 102 = false from rfl, show hasB ⟨#[70, 71]⟩ 108 = false from rfl, show hasB ⟨#[70, 71]⟩ 114 = false from rfl, show hasB ⟨#[70, 71]⟩ 98 = false from rfl, show hasB ⟨#[70, 71]⟩ 101 = false from rfl]
  rw [Bool.eq_iff_iff]
  simp only [inB, inr, List.all_cons, List.all_nil, Bool.and_true, Bool.true_or, Bool.or_true, Bool.false_or, Bool.or_false, Bool.true_and, Bool.not_true, Bool.not_false, Bool.false_and, Bool.and_false, bA, Bool.or_eq_true, Bool.not_eq_true', dT, dF]
  constructor <;> intro h <;> simp_all [inB] <;> omega
theorem fld_2 (A : Ar) (fl regs : Int) (s : GStmt) (hk : s.Kind = 2) : fldB A fl regs s = (plainB s ⟨#[70, 71]⟩ && inB fl [s.F, s.G]) := by
  unfold fldB zeroB plainB
  rw [hk, show useOf 2 = ⟨true, true, false, false, false, false, false, false, false, false⟩ from rfl]
  simp only [show hasB ⟨#[70, 71]⟩ 70 = true from rfl, show hasB ⟨#[70, 71]⟩ 71 = true from rfl, show hasB ⟨#[70, 71]⟩ 82 = false from rfl, show hasB ⟨#[70, 71]⟩ 78 = false from rfl, show hasB ⟨#[70, 71]⟩ 110 = false from rfl, show hasB ⟨#[70, 71]⟩ 102 = false from rfl, show hasB ⟨#[70, 71]⟩ 108 = false from rfl, show hasB ⟨#[70, 71]⟩ 114 = false from rfl, show hasB ⟨#[70, 71]⟩ 98 = false from rfl, show hasB ⟨#[70, 71]⟩ 101 = false from rfl]
  rw [Bool.eq_iff_iff]
  simp only [inB, inr, List.all_cons, List.all_nil, Bool.and_true, Bool.true_or, Bool.or_true, Bool.false_or, Bool.or_false, Bool.true_and, Bool.not_true, Bool.not_false, Bool.false_and, Bool.and_false, bA, Bool.or_eq_true, Bool.not_eq_true', dT, dF]
  constructor <;> intro h <;> simp_all [inB] <;> omega
theorem fld_3 (A : Ar) (fl regs : Int) (s : GStmt) (hk : s.Kind = 3) : fldB A fl regs s = (plainB s ⟨#[70, 71]⟩ && inB fl [s.F, s.G]) := by
  unfold fldB zeroB plainB
  rw [hk, show useOf 3 = ⟨true, true, false, false, false, false, false, false, false, false⟩ from rfl]
  simp only [show hasB ⟨#[70, 71]⟩ 70 = true from rfl, show hasB ⟨#[70, 71]⟩ 71 = true from rfl, show hasB ⟨#[70, 71]⟩ 82 = false from rfl, show hasB ⟨#[70, 71]⟩ 78 = false from rfl, show hasB ⟨#[70, 71]⟩ 110 = false from rfl, show hasB ⟨#[70, 71]⟩ 102 = false from rfl, show hasB ⟨#[70, 71]⟩ 108 = false from rfl, show hasB ⟨#[70, 71]⟩ 114 = false from rfl, show hasB ⟨#[70, 71]⟩ 98 = false from rfl, show hasB ⟨#[70, 71]⟩ 101 = false from rfl]
  rw [Bool.eq_iff_iff]
  simp only [inB, inr, List.all_cons, List.all_nil, Bool.and_true, Bool.true_or, Bool.or_true, Bool.false_or, Bool.or_false, Bool.true_and, Bool.not_true, Bool.not_false, Bool.false_and, Bool.and_false, bA, Bool.or_eq_true, Bool.not_eq_true', dT, dF]
  constructor <;> intro h <;> simp_all [inB] <;> omega
theorem fld_4 (A : Ar) (fl regs : Int) (s : GStmt) (hk : s.Kind = 4) : fldB A fl regs s = (plainB s ⟨#[70, 71]⟩ && inB fl [s.F] && inB 2 [s.G]) := by
  unfold fldB zeroB plainB
  rw [hk, show useOf 4 = ⟨true, true, false, false, false, false, false, false, false, false⟩ from rfl]
  simp only [show hasB ⟨#[70, 71]⟩ 70 = true from rfl, show hasB ⟨#[70, 71]⟩ 71 = true from rfl, show hasB ⟨#[70, 71]⟩ 82 = false from rfl, show hasB ⟨#[70, 71]⟩ 78 = false from rfl, show hasB ⟨#[70, 71]⟩ 110 = false from rfl, show hasB ⟨#[70, 71]⟩ 102 = false from rfl, show hasB ⟨#[70, 71]⟩ 108 = false from rfl, show hasB ⟨#[70, 71]⟩ 114 = false from rfl, show hasB ⟨#[70, 71]⟩ 98 = false from rfl, show hasB ⟨#[70, 71]⟩ 101 = false from rfl]
  rw [Bool.eq_iff_iff]
  simp only [inB, inr, List.all_cons, List.all_nil, Bool.and_true, Bool.true_or, Bool.or_true, Bool.false_or, Bool.or_false, Bool.true_and, Bool.not_true, Bool.not_false, Bool.false_and, Bool.and_false, bA, Bool.or_eq_true, Bool.not_eq_true', dT, dF]
  constructor <;> intro h <;> simp_all [inB] <;> omega
theorem fld_5 (A : Ar) (fl regs : Int) (s : GStmt) (hk : s.Kind = 5) : fldB A fl regs s = (plainB s ⟨#[70, 71]⟩ && inB fl [s.F, s.G]) := by
  unfold fldB zeroB plainB
  rw [hk, show useOf 5 = ⟨true, true, false, false, false, false, false, false, false, false⟩ from rfl]
  simp only [show hasB ⟨#[70, 71]⟩ 70 = true from rfl, show hasB ⟨#[70, 71]⟩ 71 = true from rfl, show hasB ⟨#[70, 71]⟩ 82 = false from rfl, show hasB ⟨#[70, 71]⟩ 78 = false from rfl, show hasB ⟨#[70, 71]⟩ 110 = false from rfl, show hasB ⟨#[70, 71]⟩ 102 = false from rfl, show hasB ⟨#[70, 71]⟩ 108 = false from rfl, show hasB ⟨#[70, 71]⟩ 114 = false from rfl, show hasB ⟨#[70, 71]⟩ 98 = false from rfl, show hasB ⟨#[70, 71]⟩ 101 = false from rfl]
  rw [Bool.eq_iff_iff]
  simp only [inB, inr, List.all_cons, List.all_nil, Bool.and_true, Bool.true_or, Bool.or_true, Bool.false_or, Bool.or_false, Bool.true_and, Bool.not_true, Bool.not_false, Bool.false_and, Bool.and_false, bA, Bool.or_eq_true, Bool.not_eq_true', dT, dF]
  constructor <;> intro h <;> simp_all [inB] <;> omega
theorem fld_6 (A : Ar) (fl regs : Int) (s : GStmt) (hk : s.Kind = 6) : fldB A fl regs s = (plainB s ⟨#[70, 110, 114]⟩ && inB fl [s.F] && (A s.Name).isSome && decide ((s.Regs.length : Int) = (A s.Name).getD 0) && inB regs s.Regs) := by
  unfold fldB zeroB plainB
  rw [hk, show useOf 6 = ⟨true, false, false, false, true, false, false, true, false, false⟩ from rfl]
  simp only [show hasB ⟨#[70, 110, 114]⟩ 70 = true from rfl, show hasB ⟨#[70, 110, 114]⟩ 71 = false from rfl, show hasB ⟨#[70, 110, 114]⟩ 82 = false from rfl, show hasB ⟨#[70, 110, 114]⟩ 78 = false from rfl, show hasB ⟨#[70, 110, 114]⟩ 110 = true from rfl, show hasB ⟨#[70, 110, 114]⟩ 102 = false from rfl, show hasB ⟨#[70, 110, 114]⟩ 108 = false from rfl, show hasB ⟨#[70, 110, 114]⟩ 114 = true from rfl, show hasB ⟨#[70, 110, 114]⟩ 98 = false from rfl, show hasB ⟨#[70, 110, 114]⟩ 101 = false from rfl]
  rw [Bool.eq_iff_iff]
  simp only [inB, inr, List.all_cons, List.all_nil, Bool.and_true, Bool.true_or, Bool.or_true, Bool.false_or, Bool.or_false, Bool.true_and, Bool.not_true, Bool.not_false, Bool.false_and, Bool.and_false, bA, Bool.or_eq_true, Bool.not_eq_true', dT, dF]
  constructor <;> intro h <;> simp_all [inB] <;> omega
theorem fld_7 (A : Ar) (fl regs : Int) (s : GStmt) (hk : s.Kind = 7) : fldB A fl regs s = (plainB s ⟨#[82, 98]⟩ && inB regs [s.R]) := by
  unfold fldB zeroB plainB
  rw [hk, show useOf 7 = ⟨false, false, true, false, false, false, false, false, true, false⟩ from rfl]
  simp only [show hasB ⟨#[82, 98]⟩ 70 = false from rfl, show hasB ⟨#[82, 98]⟩ 71 = false from rfl, show hasB ⟨#[82, 98]⟩ 82 = true from rfl, show hasB ⟨#[82, 98]⟩ 78 = false from rfl, show hasB ⟨#[82, 98]⟩ 110 = false from rfl, show hasB ⟨#[82, 98]⟩ 102 = false from rfl, show hasB ⟨#[82, 98]⟩ 108 = false from rfl, show hasB ⟨#[82, 98]⟩ 114 = false from rfl, show hasB ⟨#[82, 98]⟩ 98 = true from rfl, show hasB ⟨#[82, 98]⟩ 101 = false from rfl]
  rw [Bool.eq_iff_iff]
  simp only [inB, inr, List.all_cons, List.all_nil, Bool.and_true, Bool.true_or, Bool.or_true, Bool.false_or, Bool.or_false, Bool.true_and, Bool.not_true, Bool.not_false, Bool.false_and, Bool.and_false, bA, Bool.or_eq_true, Bool.not_eq_true', dT, dF]
  constructor <;> intro h <;> simp_all [inB] <;> omega
theorem fld_8 (A : Ar) (fl regs : Int) (s : GStmt) (hk : s.Kind = 8) : fldB A fl regs s = (plainB s ⟨#[70, 98, 101]⟩ && inB fl [s.F]) := by
  unfold fldB zeroB plainB
  rw [hk, show useOf 8 = ⟨true, false, false, false, false, false, false, false, true, true⟩ from rfl]
  simp only [show hasB ⟨#[70, 98, 101]⟩ 70 = true from rfl, show hasB ⟨#[70, 98, 101]⟩ 71 = false from rfl, show hasB ⟨#[70, 98, 101]⟩ 82 = false from rfl, show hasB ⟨#[70, 98, 101]⟩ 78 = false from rfl, show hasB ⟨#[70, 98, 101]⟩ 110 = false from rfl, show hasB ⟨#[70, 98, 101]⟩ 102 = false from rfl, show hasB ⟨#[70, 98, 101]⟩ 108 = false from rfl, show hasB ⟨#[70, 98, 101]⟩ 114 = false from rfl, show hasB ⟨#[70, 98, 101]⟩ 98 = true from rfl, show hasB ⟨#[70, 98, 101]⟩ 101 = true from rfl]
  rw [Bool.eq_iff_iff]
  simp only [inB, inr, List.all_cons, List.all_nil, Bool.and_true, Bool.true_or, Bool.or_true, Bool.false_or, Bool.or_false, Bool.true_and, Bool.not_true, Bool.not_false, Bool.false_and, Bool.and_false, bA, Bool.or_eq_true, Bool.not_eq_true', dT, dF]
  constructor <;> intro h <;> simp_all [inB] <;> omega
theorem fld_9 (A : Ar) (fl regs : Int) (s : GStmt) (hk : s.Kind = 9) : fldB A fl regs s = (plainB s ⟨#[78, 98]⟩ && inB 13 [s.N]) := by
  unfold fldB zeroB plainB
  rw [hk, show useOf 9 = ⟨false, false, false, true, false, false, false, false, true, false⟩ from rfl]
  simp only [show hasB ⟨#[78, 98]⟩ 70 = false from rfl, show hasB ⟨#[78, 98]⟩ 71 = false from rfl, show hasB ⟨#[78, 98]⟩ 82 = false from rfl, show hasB ⟨#[78, 98]⟩ 78 = true from rfl, show hasB ⟨#[78, 98]⟩ 110 = false from rfl, show hasB ⟨#[78, 98]⟩ 102 = false from rfl, show hasB ⟨#[78, 98]⟩ 108 = false from rfl, show hasB ⟨#[78, 98]⟩ 114 = false from rfl, show hasB ⟨#[78, 98]⟩ 98 = true from rfl, show hasB ⟨#[78, 98]⟩ 101 = false from rfl]
  rw [Bool.eq_iff_iff]
  simp only [inB, inr, List.all_cons, List.all_nil, Bool.and_true, Bool.true_or, Bool.or_true, Bool.false_or, Bool.or_false, Bool.true_and, Bool.not_true, Bool.not_false, Bool.false_and, Bool.and_false, bA, Bool.or_eq_true, Bool.not_eq_true', dT, dF]
  constructor <;> intro h <;> simp_all [inB] <;> omega
theorem fld_10 (A : Ar) (fl regs : Int) (s : GStmt) (hk : s.Kind = 10) : fldB A fl regs s = (plainB s ⟨#[70, 98]⟩ && inB fl [s.F]) := by
  unfold fldB zeroB plainB
  rw [hk, show useOf 10 = ⟨true, false, false, false, false, false, false, false, true, false⟩ from rfl]
  simp only [show hasB ⟨#[70, 98]⟩ 70 = true from rfl, show hasB ⟨#[70, 98]⟩ 71 = false from rfl, show hasB ⟨#[70, 98]⟩ 82 = false from rfl, show hasB ⟨#[70, 98]⟩ 78 = false from rfl, show hasB ⟨#[70, 98]⟩ 110 = false from rfl, show hasB ⟨#[70, 98]⟩ 102 = false from rfl, show hasB ⟨#[70, 98]⟩ 108 = false from rfl, show hasB ⟨#[70, 98]⟩ 114 = false from rfl, show hasB ⟨#[70, 98]⟩ 98 = true from rfl, show hasB ⟨#[70, 98]⟩ 101 = false from rfl]
  rw [Bool.eq_iff_iff]
  simp only [inB, inr, List.all_cons, List.all_nil, Bool.and_true, Bool.true_or, Bool.or_true, Bool.false_or, Bool.or_false, Bool.true_and, Bool.not_true, Bool.not_false, Bool.false_and, Bool.and_false, bA, Bool.or_eq_true, Bool.not_eq_true', dT, dF]
  constructor <;> intro h <;> simp_all [inB] <;> omega
theorem fld_11 (A : Ar) (fl regs : Int) (s : GStmt) (hk : s.Kind = 11) : fldB A fl regs s = (plainB s ⟨#[110]⟩ && (A s.Name).isSome) := by
  unfold fldB zeroB plainB
  rw [hk, show useOf 11 = ⟨false, false, false, false, true, false, false, false, false, false⟩ from rfl]
  simp only [show hasB ⟨#[110]⟩ 70 = false from rfl, show hasB ⟨#[110]⟩ 71 = false from rfl, show hasB ⟨#[110]⟩ 82 = false from rfl, show hasB ⟨#[110]⟩ 78 = false from rfl, show hasB ⟨#[110]⟩ 110 = true from rfl, show hasB ⟨#[110]⟩ 102 = false from rfl, show hasB ⟨#[110]⟩ 108 = false from rfl, show hasB ⟨#[110]⟩ 114 = false from rfl, show hasB ⟨#[110]⟩ 98 = false from rfl, show hasB ⟨#[110]⟩ 101 = false from rfl]
  rw [Bool.eq_iff_iff]
  simp only [inB, inr, List.all_cons, List.all_nil, Bool.and_true, Bool.true_or, Bool.or_true, Bool.false_or, Bool.or_false, Bool.true_and, Bool.not_true, Bool.not_false, Bool.false_and, Bool.and_false, bA, Bool.or_eq_true, Bool.not_eq_true', dT, dF]
  constructor <;> intro h <;> simp_all [inB] <;> omega
theorem fld_12 (A : Ar) (fl regs : Int) (s : GStmt) (hk : s.Kind = 12) : fldB A fl regs s = (plainB s ⟨#[110]⟩ && (A s.Name).isSome) := by
  unfold fldB zeroB plainB
  rw [hk, show useOf 12 = ⟨false, false, false, false, true, false, false, false, false, false⟩ from rfl]
  simp only [show hasB ⟨#[110]⟩ 70 = false from rfl, show hasB ⟨#[110]⟩ 71 = false from rfl, show hasB ⟨#[110]⟩ 82 = false from rfl, show hasB ⟨#[110]⟩ 78 = false from rfl, show hasB ⟨#[110]⟩ 110 = true from rfl, show hasB ⟨#[110]⟩ 102 = false from rfl, show hasB ⟨#[110]⟩ 108 = false from rfl, show hasB ⟨#[110]⟩ 114 = false from rfl, show hasB ⟨#[110]⟩ 98 = false from rfl, show hasB ⟨#[110]⟩ 101 = false from rfl]
  rw [Bool.eq_iff_iff]
  simp only [inB, inr, List.all_cons, List.all_nil, Bool.and_true, Bool.true_or, Bool.or_true, Bool.false_or, Bool.or_false, Bool.true_and, Bool.not_true, Bool.not_false, Bool.false_and, Bool.and_false, bA, Bool.or_eq_true, Bool.not_eq_true', dT, dF]
  constructor <;> intro h <;> simp_all [inB] <;> omega
theorem fld_13 (A : Ar) (fl regs : Int) (s : GStmt) (hk : s.Kind = 13) : fldB A fl regs s = (plainB s ⟨#[110, 102]⟩ && (A s.Name).isSome && (A s.From).isSome && decide ((A s.Name).getD 0 = (A s.From).getD 0)) := by
  unfold fldB zeroB plainB
  rw [hk, show useOf 13 = ⟨false, false, false, false, true, true, false, false, false, false⟩ from rfl]
  simp only [show hasB ⟨#[110, 102]⟩ 70 = false from rfl, show hasB ⟨#[110, 102]⟩ 71 = false from rfl, show hasB ⟨#[110, 102]⟩ 82 = false from rfl, show hasB ⟨#[110, 102]⟩ 78 = false from rfl, show hasB ⟨#[110, 102]⟩ 110 = true from rfl, show hasB ⟨#[110, 102]⟩ 102 = true from rfl, show hasB ⟨#[110, 102]⟩ 108 = false from rfl, show hasB ⟨#[110, 102]⟩ 114 = false from rfl, show hasB ⟨#[110, 102]⟩ 98 = false from rfl, show hasB ⟨#[110, 102]⟩ 101 = false from rfl]
  rw [Bool.eq_iff_iff]
  simp only [inB, inr, List.all_cons, List.all_nil, Bool.and_true, Bool.true_or, Bool.or_true, Bool.false_or, Bool.or_false, Bool.true_and, Bool.not_true, Bool.not_false, Bool.false_and, Bool.and_false, bA, Bool.or_eq_true, Bool.not_eq_true', dT, dF]
  constructor <;> intro h <;> simp_all [inB] <;> omega
theorem fld_14 (A : Ar) (fl regs : Int) (s : GStmt) (hk : s.Kind = 14) : fldB A fl regs s = (plainB s ⟨#[70, 110, 102]⟩ && inB fl [s.F] && (A s.Name).isSome && (A s.From).isSome && decide ((A s.Name).getD 0 = (A s.From).getD 0)) := by
  unfold fldB zeroB plainB
  rw [hk, show useOf 14 = ⟨true, false, false, false, true, true, false, false, false, false⟩ from rfl]
  simp only [show hasB ⟨#[70, 110, 102]⟩ 70 = true from rfl, show hasB ⟨#[70, 110, 102]⟩ 71 = false from rfl, show hasB ⟨#[70, 110, 102]⟩ 82 = false from rfl, show hasB ⟨#[70, 110, 102]⟩ 78 = false from rfl, show hasB ⟨#[70, 110, 102]⟩ 110 = true from rfl, show hasB ⟨#[70, 110, 102]⟩ 102 = true from rfl, show hasB ⟨#[70, 110, 102]⟩ 108 = false from rfl, show hasB ⟨#[70, 110, 102]⟩ 114 = false from rfl, show hasB ⟨#[70, 110, 102]⟩ 98 = false from rfl, show hasB ⟨#[70, 110, 102]⟩ 101 = false from rfl]
  rw [Bool.eq_iff_iff]
  simp only [inB, inr, List.all_cons, List.all_nil, Bool.and_true, Bool.true_or, Bool.or_true, Bool.false_or, Bool.or_false, Bool.true_and, Bool.not_true, Bool.not_false, Bool.false_and, Bool.and_false, bA, Bool.or_eq_true, Bool.not_eq_true', dT, dF]
  constructor <;> intro h <;> simp_all [inB] <;> omega
def refS (A : Ar) (fl regs : Int) (s : GStmt) : Bool := decide (0 ≤ s.Kind) && decide (s.Kind < 15) && fldB A fl regs s
theorem fldAll (A : Ar) (fl regs : Int) (s : GStmt) : refS A fl regs s =
    (if s.Kind = 0 then plainB s ⟨#[70, 108]⟩ && inB fl [s.F] && litB A regs s.Lit else
    if s.Kind = 1 ∨ s.Kind = 2 ∨ s.Kind = 3 ∨ s.Kind = 5 then plainB s ⟨#[70, 71]⟩ && inB fl [s.F, s.G] else
    if s.Kind = 4 then plainB s ⟨#[70, 71]⟩ && inB fl [s.F] && inB 2 [s.G] else
    if s.Kind = 6 then plainB s ⟨#[70, 110, 114]⟩ && inB fl [s.F] && (A s.Name).isSome && decide ((s.Regs.length : Int) = (A s.Name).getD 0) && inB regs s.Regs else
    if s.Kind = 7 then plainB s ⟨#[82, 98]⟩ && inB regs [s.R] else
    if s.Kind = 8 then plainB s ⟨#[70, 98, 101]⟩ && inB fl [s.F] else
    if s.Kind = 9 then plainB s ⟨#[78, 98]⟩ && inB 13 [s.N] else
    if s.Kind = 10 then plainB s ⟨#[70, 98]⟩ && inB fl [s.F] else
    if s.Kind = 11 ∨ s.Kind = 12 then plainB s ⟨#[110]⟩ && (A s.Name).isSome else
    if s.Kind = 13 then plainB s ⟨#[110, 102]⟩ && (A s.Name).isSome && (A s.From).isSome && decide ((A s.Name).getD 0 = (A s.From).getD 0) else
    if s.Kind = 14 then plainB s ⟨#[70, 110, 102]⟩ && inB fl [s.F] && (A s.Name).isSome && (A s.From).isSome && decide ((A s.Name).getD 0 = (A s.From).getD 0) else false) := by
  unfold refS
  by_cases h0 : 0 ≤ s.Kind ∧ s.Kind < 15
  · have : s.Kind = 0 ∨ s.Kind = 1 ∨ s.Kind = 2 ∨ s.Kind = 3 ∨ s.Kind = 4 ∨ s.Kind = 5 ∨ s.Kind = 6 ∨ s.Kind = 7 ∨ s.Kind = 8 ∨ s.Kind = 9 ∨ s.Kind = 10 ∨ s.Kind = 11 ∨ s.Kind = 12 ∨ s.Kind = 13 ∨ s.Kind = 14 := by omega
    rw [decide_eq_true h0.1, decide_eq_true h0.2, Bool.true_and, Bool.true_and]
    rcases this with h | h | h | h | h | h | h | h | h | h | h | h | h | h | h
    · rw [fld_0 A fl regs s h, h]; simp only [Bool.and_assoc]; rfl
    · rw [fld_1 A fl regs s h, h]; rfl
    · rw [fld_2 A fl regs s h, h]; rfl
    · rw [fld_3 A fl regs s h, h]; rfl
    · rw [fld_4 A fl regs s h, h]; rfl
    · rw [fld_5 A fl regs s h, h]; rfl
    · rw [fld_6 A fl regs s h, h]; rfl
    · rw [fld_7 A fl regs s h, h]; rfl
    · rw [fld_8 A fl regs s h, h]; rfl
    · rw [fld_9 A fl regs s h, h]; rfl
    · rw [fld_10 A fl regs s h, h]; rfl
    · rw [fld_11 A fl regs s h, h]; rfl
    · rw [fld_12 A fl regs s h, h]; rfl
    · rw [fld_13 A fl regs s h, h]; rfl
    · rw [fld_14 A fl regs s h, h]; rfl
  · have e1 : (decide (0 ≤ s.Kind) && decide (s.Kind < 15)) = false := by
      rw [Bool.eq_false_iff]; intro h; simp at h; exact h0 h
    rw [e1, Bool.false_and]
    have n := fun (k : Int) (hk : 0 ≤ k ∧ k < 15) => show s.Kind ≠ k from fun e => h0 (by rw [e]; exact hk)
    simp only [n 0 (by omega), n 1 (by omega), n 2 (by omega), n 3 (by omega), n 4 (by omega), n 5 (by omega), n 6 (by omega), n 7 (by omega), n 8 (by omega), n 9 (by omega), n 10 (by omega), n 11 (by omega), n 12 (by omega), n 13 (by omega), n 14 (by omega), false_or, if_false]
theorem ref_stmt (c : GCode) (hc : c.Ok) (s : GStmt) (hs : s.Ok) : Tri Tryz.prog 41 [c.av, s.st] [] (D (.bool (refS (arOf c.Arrays) c.Flags c.Regs s)) []) := by
  have hLit := ref_literal c hc s.Lit (by obtain ⟨h, _, _, _, _⟩ := hs; exact h.2.2.2.2.2.2.2.1)
  obtain ⟨_, _, hca, hcb⟩ := hc
  have hal : c.Arrays.length ≤ 4611686018427387904 := by have := hca.1; omega
  have hP : ∀ u, strOk u → Tri Tryz.prog 86 [s.st, .str u] [] (D (.bool (plainB s u)) []) := ref_plain s
  have i1 := ref_in c.Flags [s.F] (by simp)
  have i2 := ref_in c.Flags [s.F, s.G] (by simp)
  have i3 := ref_in 2 [s.G] (by simp)
  have i4 := ref_in c.Regs [s.R] (by simp)
  have i5 := ref_in 13 [s.N] (by simp)
  have i6 := ref_in c.Regs s.Regs (by obtain ⟨h, _, _, _, _⟩ := hs; have := h.2.2.2.2.2.2.2.2.1; omega)
  have f1 := ref_find c.Arrays s.Name hal
  have f2 := ref_find c.Arrays s.From hal
  have hF := fldAll (arOf c.Arrays) c.Flags c.Regs s
  generalize refS (arOf c.Arrays) c.Flags c.Regs s = v at hF ⊢
  have hA : decide (findJ s.Name c.Arrays 0 ≥ 0) = (arOf c.Arrays s.Name).isSome ∧ (0 ≤ findJ s.Name c.Arrays 0 → ∃ a : GSym, (c.Arrays.map GSym.av)[(findJ s.Name c.Arrays 0).toNat]? = some a.av ∧ a.Arity = (arOf c.Arrays s.Name).getD 0) := by
    rcases findJ_spec s.Name c.Arrays 0 with ⟨e1, e2⟩ | ⟨k, a, e1, ha, -, e2⟩
    · rw [e1, e2]; exact ⟨rfl, fun h => absurd h (by omega)⟩
    · rw [e1, e2]; exact ⟨by simp, fun _ => ⟨a, by simpa using map_get ha, rfl⟩⟩
  have hB : decide (findJ s.From c.Arrays 0 ≥ 0) = (arOf c.Arrays s.From).isSome ∧ (0 ≤ findJ s.From c.Arrays 0 → ∃ a : GSym, (c.Arrays.map GSym.av)[(findJ s.From c.Arrays 0).toNat]? = some a.av ∧ a.Arity = (arOf c.Arrays s.From).getD 0) := by
    rcases findJ_spec s.From c.Arrays 0 with ⟨e1, e2⟩ | ⟨k, a, e1, ha, -, e2⟩
    · rw [e1, e2]; exact ⟨rfl, fun h => absurd h (by omega)⟩
    · rw [e1, e2]; exact ⟨by simp, fun _ => ⟨a, by simpa using map_get ha, rfl⟩⟩
  generalize findJ s.Name c.Arrays 0 = ja at *
  generalize findJ s.From c.Arrays 0 = jb at *
  obtain ⟨hA1, hA2⟩ := hA
  obtain ⟨hB1, hB2⟩ := hB
  obtain ⟨xa, hxa⟩ : ∃ a : GSym, 0 ≤ ja → (c.Arrays.map GSym.av)[ja.toNat]? = some a.av ∧ a.Arity = (arOf c.Arrays s.Name).getD 0 := by
    by_cases h : 0 ≤ ja
    · obtain ⟨a, h1, h2⟩ := hA2 h; exact ⟨a, fun _ => ⟨h1, h2⟩⟩
    · exact ⟨⟨⟨#[]⟩, 0⟩, fun h' => absurd h' h⟩
  obtain ⟨xb, hxb⟩ : ∃ a : GSym, 0 ≤ jb → (c.Arrays.map GSym.av)[jb.toNat]? = some a.av ∧ a.Arity = (arOf c.Arrays s.From).getD 0 := by
    by_cases h : 0 ≤ jb
    · obtain ⟨a, h1, h2⟩ := hB2 h; exact ⟨a, fun _ => ⟨h1, h2⟩⟩
    · exact ⟨⟨⟨#[]⟩, 0⟩, fun h' => absurd h' h⟩
  clear hA2 hB2
  refine Tri.enter 224 Tryz.func41 rfl rfl rfl rfl fun Fr w0 => ?_
  repeat' (first | (refine AW.r 0 ?_; (first | refine AL.d (AOp.box_ro rfl rfl) ?_ | refine AL.d (AOp.box_ro rfl rfl) ?_) <;> (first | refine AL.d (AOp.box_ro rfl rfl) ?_ | refine AL.d (AOp.box_ro rfl rfl) ?_) <;> refine AL.es 1 ?_ <;> refine AL.nil ?_) | (refine AW.dq 1 ?_; refine AQ.es 4 ?_; (first | refine AQ.p rfl (AOp.call rfl rfl f1) ?_ | refine AQ.p rfl (AOp.call rfl rfl f2) ?_) <;> refine AQ.es 4 ?_ <;> (first | refine AQ.p rfl (AOp.call rfl rfl f1) ?_ | refine AQ.p rfl (AOp.call rfl rfl f2) ?_) <;> refine AQ.es 2 ?_ <;> refine AQ.nil ?_) | refine AW.re 2 2 ?_ | refine AW.re 3 2 ?_ | refine AW.re 5 2 ?_ | refine AW.re 6 2 ?_ | refine AW.re 7 2 ?_ | refine AW.re 8 2 ?_ | refine AW.re 10 2 ?_ | refine AW.re 12 2 ?_ | refine AW.re 14 2 ?_ | refine AW.re 16 2 ?_ | refine AW.re 18 2 ?_ | refine AW.re 20 2 ?_ | refine AW.re 22 2 ?_ | refine AW.re 23 2 ?_ | refine AW.re 25 2 ?_ | refine AW.re 27 2 ?_ | refine AW.re 29 1 ?_ | refine AW.jt ?_ | refine AW.jf ?_ | refine AW.jj (fun hb => ?_) (fun hb => ?_) | refine AW.go ?_ | fail)
  all_goals try first | exact absurd ((by assumption : (s.Kind == 1) = false).symm.trans (by assumption : (s.Kind == 1) = true)) (by decide) | exact absurd ((by assumption : (s.Kind == 2) = false).symm.trans (by assumption : (s.Kind == 2) = true)) (by decide) | exact absurd ((by assumption : (s.Kind == 3) = false).symm.trans (by assumption : (s.Kind == 3) = true)) (by decide) | exact absurd ((by assumption : (s.Kind == 5) = false).symm.trans (by assumption : (s.Kind == 5) = true)) (by decide) | exact absurd ((by assumption : (s.Kind == 11) = false).symm.trans (by assumption : (s.Kind == 11) = true)) (by decide) | exact absurd ((by assumption : (s.Kind == 12) = false).symm.trans (by assumption : (s.Kind == 12) = true)) (by decide)
  · have hk := eq_of_beq hb
    repeat' (first | (refine xS 4 1 ?_; (first | (refine AL.d (AOp.call rfl rfl (hP _ (by show (2 : Nat) ≤ _; omega))) ?_) | refine AL.d (AOp.call rfl rfl i1) ?_ | refine AL.d (AOp.call rfl rfl hLit) ?_) <;> refine AL.es 1 ?_ <;> (first | refine AL.es 4 ?_ | (refine AL.gx (fun hb => ?_) (fun hb => ?_) <;> refine AL.es 4 ?_)) <;> (first | (refine AL.gd ?_; refine AL.d (AOp.lit (e := 3) (sz := 1) (by kernel_rfl) rfl rfl rfl (by simp [AV.size, ofConst]) (by decide)) ?_) | refine AL.gs ?_ | refine AL.gu ?_) <;> (first | (refine AL.gd ?_; (first | (refine AL.d (AOp.call rfl rfl (hP _ (by show (2 : Nat) ≤ _; omega))) ?_) | refine AL.d (AOp.call rfl rfl i1) ?_ | refine AL.d (AOp.call rfl rfl hLit) ?_)) | refine AL.gs ?_ | refine AL.gu ?_) <;> refine AL.es 2 ?_ <;> (first | refine AL.es 3 ?_ | (refine AL.gx (fun hb => ?_) (fun hb => ?_) <;> refine AL.es 3 ?_)) <;> (first | (refine AL.gd ?_; (first | (refine AL.d (AOp.call rfl rfl (hP _ (by show (2 : Nat) ≤ _; omega))) ?_) | refine AL.d (AOp.call rfl rfl i1) ?_ | refine AL.d (AOp.call rfl rfl hLit) ?_)) | refine AL.gs ?_ | refine AL.gu ?_) <;> refine AL.es 2 ?_ <;> refine AL.nil ?_) | refine AW.jt ?_ | refine AW.jf ?_ | refine AW.jj (fun hb => ?_) (fun hb => ?_) | refine AW.go ?_ | fail)
    all_goals refine AW.retv rfl ⟨?_, rfl⟩
    all_goals (clear hP i1 i2 i3 i4 i5 i6 f1 f2 hLit hs hca hcb hal; rw [hk] at hF; subst hF; show AEnd.ret (.bool _) = AEnd.ret (.bool _); congr 2; simp only [ge_iff_le, dT, dF, lM, Int.reduceEq, if_true, if_false, or_true, true_or, or_false, false_or] at *)
    all_goals simp_all [ofConst]
    all_goals (rw [Bool.eq_iff_iff]; simp)
  · have hk := eq_of_beq hb
    repeat' (first | (refine xS 9 1 ?_; (first | (refine AL.d (AOp.call rfl rfl (hP _ (by show (2 : Nat) ≤ _; omega))) ?_) | refine AL.d (AOp.call rfl rfl i2) ?_) <;> refine AL.es 1 ?_ <;> (first | refine AL.es 6 ?_ | (refine AL.gx (fun hb => ?_) (fun hb => ?_) <;> refine AL.es 6 ?_)) <;> (first | (refine AL.gd ?_; refine AL.d (AOp.lit (e := 3) (sz := 1) (by kernel_rfl) rfl rfl rfl (by simp [AV.size, ofConst]) (by decide)) ?_) | refine AL.gs ?_ | refine AL.gu ?_) <;> (first | (refine AL.gd ?_; (first | (refine AL.d (AOp.call rfl rfl (hP _ (by show (2 : Nat) ≤ _; omega))) ?_) | refine AL.d (AOp.call rfl rfl i2) ?_)) | refine AL.gs ?_ | refine AL.gu ?_) <;> refine AL.es 2 ?_ <;> refine AL.nil ?_) | refine AW.jt ?_ | refine AW.jf ?_ | refine AW.jj (fun hb => ?_) (fun hb => ?_) | refine AW.go ?_ | fail)
    all_goals refine AW.retv rfl ⟨?_, rfl⟩
    all_goals (clear hP i1 i2 i3 i4 i5 i6 f1 f2 hLit hs hca hcb hal; rw [hk] at hF; subst hF; show AEnd.ret (.bool _) = AEnd.ret (.bool _); congr 2; simp only [ge_iff_le, dT, dF, lM, Int.reduceEq, if_true, if_false, or_true, true_or, or_false, false_or] at *)
    all_goals simp_all [ofConst]
    all_goals (rw [Bool.eq_iff_iff]; simp)
  · have hk := eq_of_beq hb
    repeat' (first | (refine xS 9 1 ?_; (first | (refine AL.d (AOp.call rfl rfl (hP _ (by show (2 : Nat) ≤ _; omega))) ?_) | refine AL.d (AOp.call rfl rfl i2) ?_) <;> refine AL.es 1 ?_ <;> (first | refine AL.es 6 ?_ | (refine AL.gx (fun hb => ?_) (fun hb => ?_) <;> refine AL.es 6 ?_)) <;> (first | (refine AL.gd ?_; refine AL.d (AOp.lit (e := 3) (sz := 1) (by kernel_rfl) rfl rfl rfl (by simp [AV.size, ofConst]) (by decide)) ?_) | refine AL.gs ?_ | refine AL.gu ?_) <;> (first | (refine AL.gd ?_; (first | (refine AL.d (AOp.call rfl rfl (hP _ (by show (2 : Nat) ≤ _; omega))) ?_) | refine AL.d (AOp.call rfl rfl i2) ?_)) | refine AL.gs ?_ | refine AL.gu ?_) <;> refine AL.es 2 ?_ <;> refine AL.nil ?_) | refine AW.jt ?_ | refine AW.jf ?_ | refine AW.jj (fun hb => ?_) (fun hb => ?_) | refine AW.go ?_ | fail)
    all_goals refine AW.retv rfl ⟨?_, rfl⟩
    all_goals (clear hP i1 i2 i3 i4 i5 i6 f1 f2 hLit hs hca hcb hal; rw [hk] at hF; subst hF; show AEnd.ret (.bool _) = AEnd.ret (.bool _); congr 2; simp only [ge_iff_le, dT, dF, lM, Int.reduceEq, if_true, if_false, or_true, true_or, or_false, false_or] at *)
    all_goals simp_all [ofConst]
    all_goals (rw [Bool.eq_iff_iff]; simp)
  · have hk := eq_of_beq hb
    repeat' (first | (refine xS 9 1 ?_; (first | (refine AL.d (AOp.call rfl rfl (hP _ (by show (2 : Nat) ≤ _; omega))) ?_) | refine AL.d (AOp.call rfl rfl i2) ?_) <;> refine AL.es 1 ?_ <;> (first | refine AL.es 6 ?_ | (refine AL.gx (fun hb => ?_) (fun hb => ?_) <;> refine AL.es 6 ?_)) <;> (first | (refine AL.gd ?_; refine AL.d (AOp.lit (e := 3) (sz := 1) (by kernel_rfl) rfl rfl rfl (by simp [AV.size, ofConst]) (by decide)) ?_) | refine AL.gs ?_ | refine AL.gu ?_) <;> (first | (refine AL.gd ?_; (first | (refine AL.d (AOp.call rfl rfl (hP _ (by show (2 : Nat) ≤ _; omega))) ?_) | refine AL.d (AOp.call rfl rfl i2) ?_)) | refine AL.gs ?_ | refine AL.gu ?_) <;> refine AL.es 2 ?_ <;> refine AL.nil ?_) | refine AW.jt ?_ | refine AW.jf ?_ | refine AW.jj (fun hb => ?_) (fun hb => ?_) | refine AW.go ?_ | fail)
    all_goals refine AW.retv rfl ⟨?_, rfl⟩
    all_goals (clear hP i1 i2 i3 i4 i5 i6 f1 f2 hLit hs hca hcb hal; rw [hk] at hF; subst hF; show AEnd.ret (.bool _) = AEnd.ret (.bool _); congr 2; simp only [ge_iff_le, dT, dF, lM, Int.reduceEq, if_true, if_false, or_true, true_or, or_false, false_or] at *)
    all_goals simp_all [ofConst]
    all_goals (rw [Bool.eq_iff_iff]; simp)
  · have hk := eq_of_beq hb
    repeat' (first | (refine xS 9 1 ?_; (first | (refine AL.d (AOp.call rfl rfl (hP _ (by show (2 : Nat) ≤ _; omega))) ?_) | refine AL.d (AOp.call rfl rfl i2) ?_) <;> refine AL.es 1 ?_ <;> (first | refine AL.es 6 ?_ | (refine AL.gx (fun hb => ?_) (fun hb => ?_) <;> refine AL.es 6 ?_)) <;> (first | (refine AL.gd ?_; refine AL.d (AOp.lit (e := 3) (sz := 1) (by kernel_rfl) rfl rfl rfl (by simp [AV.size, ofConst]) (by decide)) ?_) | refine AL.gs ?_ | refine AL.gu ?_) <;> (first | (refine AL.gd ?_; (first | (refine AL.d (AOp.call rfl rfl (hP _ (by show (2 : Nat) ≤ _; omega))) ?_) | refine AL.d (AOp.call rfl rfl i2) ?_)) | refine AL.gs ?_ | refine AL.gu ?_) <;> refine AL.es 2 ?_ <;> refine AL.nil ?_) | refine AW.jt ?_ | refine AW.jf ?_ | refine AW.jj (fun hb => ?_) (fun hb => ?_) | refine AW.go ?_ | fail)
    all_goals refine AW.retv rfl ⟨?_, rfl⟩
    all_goals (clear hP i1 i2 i3 i4 i5 i6 f1 f2 hLit hs hca hcb hal; rw [hk] at hF; subst hF; show AEnd.ret (.bool _) = AEnd.ret (.bool _); congr 2; simp only [ge_iff_le, dT, dF, lM, Int.reduceEq, if_true, if_false, or_true, true_or, or_false, false_or] at *)
    all_goals simp_all [ofConst]
    all_goals (rw [Bool.eq_iff_iff]; simp)
  · have hk := eq_of_beq hb
    repeat' (first | (refine xS 11 1 ?_; (first | (refine AL.d (AOp.call rfl rfl (hP _ (by show (2 : Nat) ≤ _; omega))) ?_) | refine AL.d (AOp.call rfl rfl i1) ?_ | refine AL.d (AOp.call rfl rfl i3) ?_) <;> refine AL.es 1 ?_ <;> (first | refine AL.es 4 ?_ | (refine AL.gx (fun hb => ?_) (fun hb => ?_) <;> refine AL.es 4 ?_)) <;> (first | (refine AL.gd ?_; refine AL.d (AOp.lit (e := 3) (sz := 1) (by kernel_rfl) rfl rfl rfl (by simp [AV.size, ofConst]) (by decide)) ?_) | refine AL.gs ?_ | refine AL.gu ?_) <;> (first | (refine AL.gd ?_; (first | (refine AL.d (AOp.call rfl rfl (hP _ (by show (2 : Nat) ≤ _; omega))) ?_) | refine AL.d (AOp.call rfl rfl i1) ?_ | refine AL.d (AOp.call rfl rfl i3) ?_)) | refine AL.gs ?_ | refine AL.gu ?_) <;> refine AL.es 2 ?_ <;> (first | refine AL.es 2 ?_ | (refine AL.gx (fun hb => ?_) (fun hb => ?_) <;> refine AL.es 2 ?_)) <;> (first | (refine AL.gd ?_; refine AL.d (AOp.lit (e := 3) (sz := 1) (by kernel_rfl) rfl rfl rfl (by simp [AV.size, ofConst]) (by decide)) ?_) | refine AL.gs ?_ | refine AL.gu ?_) <;> (first | (refine AL.gd ?_; (first | (refine AL.d (AOp.call rfl rfl (hP _ (by show (2 : Nat) ≤ _; omega))) ?_) | refine AL.d (AOp.call rfl rfl i1) ?_ | refine AL.d (AOp.call rfl rfl i3) ?_)) | refine AL.gs ?_ | refine AL.gu ?_) <;> refine AL.es 2 ?_ <;> refine AL.nil ?_) | refine AW.jt ?_ | refine AW.jf ?_ | refine AW.jj (fun hb => ?_) (fun hb => ?_) | refine AW.go ?_ | fail)
    all_goals refine AW.retv rfl ⟨?_, rfl⟩
    all_goals (clear hP i1 i2 i3 i4 i5 i6 f1 f2 hLit hs hca hcb hal; rw [hk] at hF; subst hF; show AEnd.ret (.bool _) = AEnd.ret (.bool _); congr 2; simp only [ge_iff_le, dT, dF, lM, Int.reduceEq, if_true, if_false, or_true, true_or, or_false, false_or] at *)
    all_goals simp_all [ofConst]
    all_goals (rw [Bool.eq_iff_iff]; simp)
  · have hk := eq_of_beq hb
    repeat' (first | (refine AW.dq 13 ?_; refine AQ.es 1 ?_; (first | (refine AQ.p rfl (AOp.call rfl rfl (hP _ (by show (3 : Nat) ≤ _; omega))) ?_) | refine AQ.p rfl (AOp.call rfl rfl i1) ?_ | refine AQ.p rfl (AOp.call rfl rfl i6) ?_) <;> refine AQ.es 1 ?_ <;> (first | refine AQ.es 4 ?_ | (refine AQ.x (fun hb => ?_) (fun hb => ?_) <;> refine AQ.es 4 ?_)) <;> (first | refine AQ.gp rfl (AOp.lit (e := 3) (sz := 1) (by kernel_rfl) rfl rfl rfl (by simp [AV.size, ofConst]) (by decide)) ?_ | refine AQ.k ?_) <;> (first | refine AQ.gp rfl (AOp.call rfl rfl (hP _ (by show (3 : Nat) ≤ _; omega))) ?_ | refine AQ.gp rfl (AOp.call rfl rfl i1) ?_ | refine AQ.gp rfl (AOp.call rfl rfl i6) ?_ | refine AQ.k ?_) <;> refine AQ.es 2 ?_ <;> (first | refine AQ.es 4 ?_ | (refine AQ.x (fun hb => ?_) (fun hb => ?_) <;> refine AQ.es 4 ?_)) <;> (first | refine AQ.es 6 ?_ | (refine AQ.x (fun hb => ?_) (fun hb => ?_) <;> refine AQ.es 6 ?_)) <;> (first | refine AQ.gp rfl (AOp.index_sl rfl rfl (of_decide_eq_true (by assumption)) (hxa (of_decide_eq_true (by assumption))).1 (by kernel_rfl) rfl) ?_ | refine AQ.k ?_) <;> refine AQ.es 5 ?_ <;> (first | refine AQ.es 4 ?_ | (refine AQ.x (fun hb => ?_) (fun hb => ?_) <;> refine AQ.es 4 ?_)) <;> (first | refine AQ.gp rfl (AOp.call rfl rfl (hP _ (by show (3 : Nat) ≤ _; omega))) ?_ | refine AQ.gp rfl (AOp.call rfl rfl i1) ?_ | refine AQ.gp rfl (AOp.call rfl rfl i6) ?_ | refine AQ.k ?_) <;> refine AQ.es 2 ?_ <;> refine AQ.nil ?_) | refine AW.jt ?_ | refine AW.jf ?_ | refine AW.jj (fun hb => ?_) (fun hb => ?_) | refine AW.go ?_ | fail)
    all_goals refine AW.retv rfl ⟨?_, rfl⟩
    all_goals (clear hP i1 i2 i3 i4 i5 i6 f1 f2 hLit hs hca hcb hal; rw [hk] at hF; subst hF; show AEnd.ret (.bool _) = AEnd.ret (.bool _); congr 2; simp only [ge_iff_le, dT, dF, lM, Int.reduceEq, if_true, if_false, or_true, true_or, or_false, false_or] at *)
    all_goals simp_all [ofConst]
    all_goals (rw [Bool.eq_iff_iff]; simp)
  · have hk := eq_of_beq hb
    repeat' (first | (refine xS 15 1 ?_; (first | (refine AL.d (AOp.call rfl rfl (hP _ (by show (2 : Nat) ≤ _; omega))) ?_) | refine AL.d (AOp.call rfl rfl i4) ?_) <;> refine AL.es 1 ?_ <;> (first | refine AL.es 4 ?_ | (refine AL.gx (fun hb => ?_) (fun hb => ?_) <;> refine AL.es 4 ?_)) <;> (first | (refine AL.gd ?_; refine AL.d (AOp.lit (e := 3) (sz := 1) (by kernel_rfl) rfl rfl rfl (by simp [AV.size, ofConst]) (by decide)) ?_) | refine AL.gs ?_ | refine AL.gu ?_) <;> (first | (refine AL.gd ?_; (first | (refine AL.d (AOp.call rfl rfl (hP _ (by show (2 : Nat) ≤ _; omega))) ?_) | refine AL.d (AOp.call rfl rfl i4) ?_)) | refine AL.gs ?_ | refine AL.gu ?_) <;> refine AL.es 2 ?_ <;> refine AL.nil ?_) | refine AW.jt ?_ | refine AW.jf ?_ | refine AW.jj (fun hb => ?_) (fun hb => ?_) | refine AW.go ?_ | fail)
    all_goals refine AW.retv rfl ⟨?_, rfl⟩
    all_goals (clear hP i1 i2 i3 i4 i5 i6 f1 f2 hLit hs hca hcb hal; rw [hk] at hF; subst hF; show AEnd.ret (.bool _) = AEnd.ret (.bool _); congr 2; simp only [ge_iff_le, dT, dF, lM, Int.reduceEq, if_true, if_false, or_true, true_or, or_false, false_or] at *)
    all_goals simp_all [ofConst]
    all_goals (rw [Bool.eq_iff_iff]; simp)
  · have hk := eq_of_beq hb
    repeat' (first | (refine xS 17 1 ?_; (first | (refine AL.d (AOp.call rfl rfl (hP _ (by show (3 : Nat) ≤ _; omega))) ?_) | refine AL.d (AOp.call rfl rfl i1) ?_) <;> refine AL.es 1 ?_ <;> (first | refine AL.es 4 ?_ | (refine AL.gx (fun hb => ?_) (fun hb => ?_) <;> refine AL.es 4 ?_)) <;> (first | (refine AL.gd ?_; refine AL.d (AOp.lit (e := 3) (sz := 1) (by kernel_rfl) rfl rfl rfl (by simp [AV.size, ofConst]) (by decide)) ?_) | refine AL.gs ?_ | refine AL.gu ?_) <;> (first | (refine AL.gd ?_; (first | (refine AL.d (AOp.call rfl rfl (hP _ (by show (3 : Nat) ≤ _; omega))) ?_) | refine AL.d (AOp.call rfl rfl i1) ?_)) | refine AL.gs ?_ | refine AL.gu ?_) <;> refine AL.es 2 ?_ <;> refine AL.nil ?_) | refine AW.jt ?_ | refine AW.jf ?_ | refine AW.jj (fun hb => ?_) (fun hb => ?_) | refine AW.go ?_ | fail)
    all_goals refine AW.retv rfl ⟨?_, rfl⟩
    all_goals (clear hP i1 i2 i3 i4 i5 i6 f1 f2 hLit hs hca hcb hal; rw [hk] at hF; subst hF; show AEnd.ret (.bool _) = AEnd.ret (.bool _); congr 2; simp only [ge_iff_le, dT, dF, lM, Int.reduceEq, if_true, if_false, or_true, true_or, or_false, false_or] at *)
    all_goals simp_all [ofConst]
    all_goals (rw [Bool.eq_iff_iff]; simp)
  · have hk := eq_of_beq hb
    repeat' (first | (refine xS 19 1 ?_; (first | (refine AL.d (AOp.call rfl rfl (hP _ (by show (2 : Nat) ≤ _; omega))) ?_) | refine AL.d (AOp.call rfl rfl i5) ?_) <;> refine AL.es 1 ?_ <;> (first | refine AL.es 2 ?_ | (refine AL.gx (fun hb => ?_) (fun hb => ?_) <;> refine AL.es 2 ?_)) <;> (first | (refine AL.gd ?_; refine AL.d (AOp.lit (e := 3) (sz := 1) (by kernel_rfl) rfl rfl rfl (by simp [AV.size, ofConst]) (by decide)) ?_) | refine AL.gs ?_ | refine AL.gu ?_) <;> (first | (refine AL.gd ?_; (first | (refine AL.d (AOp.call rfl rfl (hP _ (by show (2 : Nat) ≤ _; omega))) ?_) | refine AL.d (AOp.call rfl rfl i5) ?_)) | refine AL.gs ?_ | refine AL.gu ?_) <;> refine AL.es 2 ?_ <;> refine AL.nil ?_) | refine AW.jt ?_ | refine AW.jf ?_ | refine AW.jj (fun hb => ?_) (fun hb => ?_) | refine AW.go ?_ | fail)
    all_goals refine AW.retv rfl ⟨?_, rfl⟩
    all_goals (clear hP i1 i2 i3 i4 i5 i6 f1 f2 hLit hs hca hcb hal; rw [hk] at hF; subst hF; show AEnd.ret (.bool _) = AEnd.ret (.bool _); congr 2; simp only [ge_iff_le, dT, dF, lM, Int.reduceEq, if_true, if_false, or_true, true_or, or_false, false_or] at *)
    all_goals simp_all [ofConst]
    all_goals (rw [Bool.eq_iff_iff]; simp)
  · have hk := eq_of_beq hb
    repeat' (first | (refine xS 21 1 ?_; (first | (refine AL.d (AOp.call rfl rfl (hP _ (by show (2 : Nat) ≤ _; omega))) ?_) | refine AL.d (AOp.call rfl rfl i1) ?_) <;> refine AL.es 1 ?_ <;> (first | refine AL.es 4 ?_ | (refine AL.gx (fun hb => ?_) (fun hb => ?_) <;> refine AL.es 4 ?_)) <;> (first | (refine AL.gd ?_; refine AL.d (AOp.lit (e := 3) (sz := 1) (by kernel_rfl) rfl rfl rfl (by simp [AV.size, ofConst]) (by decide)) ?_) | refine AL.gs ?_ | refine AL.gu ?_) <;> (first | (refine AL.gd ?_; (first | (refine AL.d (AOp.call rfl rfl (hP _ (by show (2 : Nat) ≤ _; omega))) ?_) | refine AL.d (AOp.call rfl rfl i1) ?_)) | refine AL.gs ?_ | refine AL.gu ?_) <;> refine AL.es 2 ?_ <;> refine AL.nil ?_) | refine AW.jt ?_ | refine AW.jf ?_ | refine AW.jj (fun hb => ?_) (fun hb => ?_) | refine AW.go ?_ | fail)
    all_goals refine AW.retv rfl ⟨?_, rfl⟩
    all_goals (clear hP i1 i2 i3 i4 i5 i6 f1 f2 hLit hs hca hcb hal; rw [hk] at hF; subst hF; show AEnd.ret (.bool _) = AEnd.ret (.bool _); congr 2; simp only [ge_iff_le, dT, dF, lM, Int.reduceEq, if_true, if_false, or_true, true_or, or_false, false_or] at *)
    all_goals simp_all [ofConst]
    all_goals (rw [Bool.eq_iff_iff]; simp)
  · have hk := eq_of_beq hb
    repeat' (first | (refine xS 24 1 ?_; refine AL.d (AOp.call rfl rfl (hP _ (by show (1 : Nat) ≤ _; omega))) ?_ <;> refine AL.es 1 ?_ <;> (first | refine AL.es 4 ?_ | (refine AL.gx (fun hb => ?_) (fun hb => ?_) <;> refine AL.es 4 ?_)) <;> refine AL.nil ?_) | refine AW.jt ?_ | refine AW.jf ?_ | refine AW.jj (fun hb => ?_) (fun hb => ?_) | refine AW.go ?_ | fail)
    all_goals refine AW.retv rfl ⟨?_, rfl⟩
    all_goals (clear hP i1 i2 i3 i4 i5 i6 f1 f2 hLit hs hca hcb hal; rw [hk] at hF; subst hF; show AEnd.ret (.bool _) = AEnd.ret (.bool _); congr 2; simp only [ge_iff_le, dT, dF, lM, Int.reduceEq, if_true, if_false, or_true, true_or, or_false, false_or] at *)
    all_goals simp_all [ofConst]
    all_goals (rw [Bool.eq_iff_iff]; simp)
  · have hk := eq_of_beq hb
    repeat' (first | (refine xS 24 1 ?_; refine AL.d (AOp.call rfl rfl (hP _ (by show (1 : Nat) ≤ _; omega))) ?_ <;> refine AL.es 1 ?_ <;> (first | refine AL.es 4 ?_ | (refine AL.gx (fun hb => ?_) (fun hb => ?_) <;> refine AL.es 4 ?_)) <;> refine AL.nil ?_) | refine AW.jt ?_ | refine AW.jf ?_ | refine AW.jj (fun hb => ?_) (fun hb => ?_) | refine AW.go ?_ | fail)
    all_goals refine AW.retv rfl ⟨?_, rfl⟩
    all_goals (clear hP i1 i2 i3 i4 i5 i6 f1 f2 hLit hs hca hcb hal; rw [hk] at hF; subst hF; show AEnd.ret (.bool _) = AEnd.ret (.bool _); congr 2; simp only [ge_iff_le, dT, dF, lM, Int.reduceEq, if_true, if_false, or_true, true_or, or_false, false_or] at *)
    all_goals simp_all [ofConst]
    all_goals (rw [Bool.eq_iff_iff]; simp)
  · have hk := eq_of_beq hb
    repeat' (first | (refine AW.dq 26 ?_; refine AQ.es 1 ?_; refine AQ.p rfl (AOp.call rfl rfl (hP _ (by show (2 : Nat) ≤ _; omega))) ?_ <;> refine AQ.es 1 ?_ <;> (first | refine AQ.es 4 ?_ | (refine AQ.x (fun hb => ?_) (fun hb => ?_) <;> refine AQ.es 4 ?_)) <;> (first | refine AQ.es 4 ?_ | (refine AQ.x (fun hb => ?_) (fun hb => ?_) <;> refine AQ.es 4 ?_)) <;> (first | refine AQ.es 3 ?_ | (refine AQ.x (fun hb => ?_) (fun hb => ?_) <;> refine AQ.es 3 ?_)) <;> (first | refine AQ.gp rfl (AOp.index_sl rfl rfl (of_decide_eq_true (by assumption)) (hxa (of_decide_eq_true (by assumption))).1 (by kernel_rfl) rfl) ?_ | refine AQ.gp rfl (AOp.index_sl rfl rfl (of_decide_eq_true (by assumption)) (hxb (of_decide_eq_true (by assumption))).1 (by kernel_rfl) rfl) ?_ | refine AQ.k ?_) <;> refine AQ.es 5 ?_ <;> (first | refine AQ.gp rfl (AOp.index_sl rfl rfl (of_decide_eq_true (by assumption)) (hxa (of_decide_eq_true (by assumption))).1 (by kernel_rfl) rfl) ?_ | refine AQ.gp rfl (AOp.index_sl rfl rfl (of_decide_eq_true (by assumption)) (hxb (of_decide_eq_true (by assumption))).1 (by kernel_rfl) rfl) ?_ | refine AQ.k ?_) <;> refine AQ.es 5 ?_ <;> refine AQ.nil ?_) | refine AW.jt ?_ | refine AW.jf ?_ | refine AW.jj (fun hb => ?_) (fun hb => ?_) | refine AW.go ?_ | fail)
    all_goals refine AW.retv rfl ⟨?_, rfl⟩
    all_goals (clear hP i1 i2 i3 i4 i5 i6 f1 f2 hLit hs hca hcb hal; rw [hk] at hF; subst hF; show AEnd.ret (.bool _) = AEnd.ret (.bool _); congr 2; simp only [ge_iff_le, dT, dF, lM, Int.reduceEq, if_true, if_false, or_true, true_or, or_false, false_or] at *)
    all_goals simp_all [ofConst]
    all_goals (rw [Bool.eq_iff_iff]; simp)
  · have hk := eq_of_beq hb
    repeat' (first | (refine AW.dq 28 ?_; refine AQ.es 1 ?_; (first | (refine AQ.p rfl (AOp.call rfl rfl (hP _ (by show (3 : Nat) ≤ _; omega))) ?_) | refine AQ.p rfl (AOp.call rfl rfl i1) ?_) <;> refine AQ.es 1 ?_ <;> (first | refine AQ.es 4 ?_ | (refine AQ.x (fun hb => ?_) (fun hb => ?_) <;> refine AQ.es 4 ?_)) <;> (first | refine AQ.gp rfl (AOp.lit (e := 3) (sz := 1) (by kernel_rfl) rfl rfl rfl (by simp [AV.size, ofConst]) (by decide)) ?_ | refine AQ.k ?_) <;> (first | refine AQ.gp rfl (AOp.call rfl rfl (hP _ (by show (3 : Nat) ≤ _; omega))) ?_ | refine AQ.gp rfl (AOp.call rfl rfl i1) ?_ | refine AQ.k ?_) <;> refine AQ.es 2 ?_ <;> (first | refine AQ.es 4 ?_ | (refine AQ.x (fun hb => ?_) (fun hb => ?_) <;> refine AQ.es 4 ?_)) <;> (first | refine AQ.es 4 ?_ | (refine AQ.x (fun hb => ?_) (fun hb => ?_) <;> refine AQ.es 4 ?_)) <;> (first | refine AQ.es 3 ?_ | (refine AQ.x (fun hb => ?_) (fun hb => ?_) <;> refine AQ.es 3 ?_)) <;> (first | refine AQ.gp rfl (AOp.index_sl rfl rfl (of_decide_eq_true (by assumption)) (hxa (of_decide_eq_true (by assumption))).1 (by kernel_rfl) rfl) ?_ | refine AQ.gp rfl (AOp.index_sl rfl rfl (of_decide_eq_true (by assumption)) (hxb (of_decide_eq_true (by assumption))).1 (by kernel_rfl) rfl) ?_ | refine AQ.k ?_) <;> refine AQ.es 5 ?_ <;> (first | refine AQ.gp rfl (AOp.index_sl rfl rfl (of_decide_eq_true (by assumption)) (hxa (of_decide_eq_true (by assumption))).1 (by kernel_rfl) rfl) ?_ | refine AQ.gp rfl (AOp.index_sl rfl rfl (of_decide_eq_true (by assumption)) (hxb (of_decide_eq_true (by assumption))).1 (by kernel_rfl) rfl) ?_ | refine AQ.k ?_) <;> refine AQ.es 5 ?_ <;> refine AQ.nil ?_) | refine AW.jt ?_ | refine AW.jf ?_ | refine AW.jj (fun hb => ?_) (fun hb => ?_) | refine AW.go ?_ | fail)
    all_goals refine AW.retv rfl ⟨?_, rfl⟩
    all_goals (clear hP i1 i2 i3 i4 i5 i6 f1 f2 hLit hs hca hcb hal; rw [hk] at hF; subst hF; show AEnd.ret (.bool _) = AEnd.ret (.bool _); congr 2; simp only [ge_iff_le, dT, dF, lM, Int.reduceEq, if_true, if_false, or_true, true_or, or_false, false_or] at *)
    all_goals simp_all [ofConst]
    all_goals (rw [Bool.eq_iff_iff]; simp)
  · have n := fun (k : Int) (h : (s.Kind == k) = false) => ne_of_beq_false h
    rw [if_neg (n 0 (by assumption)), if_neg (by rintro (h | h | h | h); exact n 1 (by assumption) h; exact n 2 (by assumption) h; exact n 3 (by assumption) h; exact n 5 (by assumption) h), if_neg (n 4 (by assumption)), if_neg (n 6 (by assumption)), if_neg (n 7 (by assumption)), if_neg (n 8 (by assumption)), if_neg (n 9 (by assumption)), if_neg (n 10 (by assumption)), if_neg (by rintro (h | h); exact n 11 (by assumption) h; exact n 12 (by assumption) h), if_neg (n 13 (by assumption)), if_neg (n 14 (by assumption))] at hF
    exact AW.retv rfl ⟨by rw [hF]; rfl, rfl⟩
theorem ieq (a b : Int) : (a == b) = decide (a = b) := by by_cases h : a = b <;> simp [h]
theorem ine (a b : Int) : (a != b) = !decide (a = b) := by by_cases h : a = b <;> simp [h]
theorem chk_stmt (b ba bs : Nat) (gA : MG) : ∀ (n : Nat) (s : GStmt) (hn : cntS s ≤ n) (hs : s.Ok) (level : Int) (hl : 0 ≤ level ∧ level ≤ 100) (st : Chk) (hc : 0 ≤ st.cnt ∧ st.cnt ≤ 20000),
    Tri Tryz.prog 49 [.ref b 0, s.st, .int .i64 level] (st.ah b ba bs gA) (D (.tup []) ((stmtP s level st).ah b ba bs gA)) := by
  intro n
  induction n using Nat.strongRecOn with
  | _ n ih =>
    intro s hn hs level hl st hc
    rw [stmtP_eq]
    refine Tri.enter 188 Tryz.func49 rfl rfl rfl rfl fun Fr w0 => ?_
    repeat' (first | (refine AW.r 0 ?_; refine AL.d (AOp.box_ro rfl rfl) ?_; refine AL.nil ?_) | refine AW.jt ?_ | refine AW.jf ?_ | refine AW.jj (fun hb => ?_) (fun hb => ?_) | refine AW.go ?_ | fail)
    refine AW.cut (fun af ah => af = [(0, .ref b 0), (2, .int .i64 level), (4, .at s.st)] ∧ ah = ({ st with cnt := st.cnt + 1 } : Chk).ah b ba bs gA) ?_ ?_
    · repeat' (first | (refine xS 1 2 ?_; (first | refine AL.d AOp.fa ?_ | refine AL.d (AOp.fr 6) ?_) <;> (first | refine AL.d AOp.la ?_ | refine AL.d (AOp.ll 0) ?_) <;> refine AL.d AOp.ad ?_ <;> refine AL.es 1 ?_ <;> (first | refine AL.d AOp.fa ?_ | refine AL.d (AOp.fr 6) ?_) <;> refine AL.sl 0 ?_ <;> refine AL.nil ?_) | refine AW.jt ?_ | refine AW.jf ?_ | refine AW.jj (fun hb => ?_) (fun hb => ?_) | refine AW.go ?_ | fail)
      exact AW.meet [0, 2, 4] ⟨rfl, rfl⟩
    rintro af ah ⟨rfl, rfl⟩
    refine AW.seq ?_
    refine AW.cut (fun af ah => af = [(0, .ref b 0), (2, .int .i64 level), (4, .at s.st)] ∧ ah = (st.enter s level).ah b ba bs gA) ?_ ?_
    · repeat' (first | (refine xS 2 1 ?_; (first | refine AL.d AOp.fa ?_ | refine AL.d (AOp.fr 0) ?_) <;> (first | refine AL.d AOp.la ?_ | refine AL.d (AOp.ll 0) ?_) <;> refine AL.es 2 ?_ <;> (first | (refine AL.gd ?_; (first | refine AL.d AOp.fa ?_ | refine AL.d (AOp.fr 0) ?_)) | refine AL.gs ?_ | refine AL.gu ?_ | (refine AL.gx (fun hb => ?_) (fun hb => ?_) <;> first | (refine AL.gd ?_; (first | refine AL.d AOp.fa ?_ | refine AL.d (AOp.fr 0) ?_)) | refine AL.gs ?_)) <;> (first | (refine AL.gd ?_; (first | refine AL.d AOp.la ?_ | refine AL.d (AOp.ll 0) ?_)) | refine AL.gs ?_ | refine AL.gu ?_) <;> refine AL.es 3 ?_ <;> (first | refine AL.es 2 ?_ | (refine AL.gx (fun hb => ?_) (fun hb => ?_) <;> refine AL.es 2 ?_)) <;> (first | (refine AL.gd ?_; (first | refine AL.d AOp.fa ?_ | refine AL.d (AOp.fr 6) ?_)) | refine AL.gs ?_ | refine AL.gu ?_) <;> (first | (refine AL.gd ?_; (first | refine AL.d AOp.la ?_ | refine AL.d (AOp.ll 0) ?_)) | refine AL.gs ?_ | refine AL.gu ?_) <;> refine AL.es 3 ?_ <;> (first | refine AL.es 3 ?_ | (refine AL.gx (fun hb => ?_) (fun hb => ?_) <;> refine AL.es 3 ?_)) <;> refine AL.d (AOp.call rfl rfl (chk_need b ba bs gA _ _)) ?_ <;> refine AL.nil ?_) | refine AW.jt ?_ | refine AW.jf ?_ | refine AW.jj (fun hb => ?_) (fun hb => ?_) | refine AW.go ?_ | fail)
      all_goals (refine AW.meet [0, 2, 4] ⟨rfl, ?_⟩; unfold Chk.enter; simp only [dT, dF] at *; congr 2; rw [Bool.eq_iff_iff]; simp; try omega)
    rintro af ah ⟨rfl, rfl⟩
    have hcnt : (st.enter s level).bad = false → (st.enter s level).cnt = st.cnt + 1 ∧ st.cnt + 1 ≤ 20000 ∧ level ≤ 60 := by
      intro h
      simp only [Chk.enter, Chk.need, Bool.or_eq_false_iff, Bool.not_eq_false', bA, dT] at h
      exact ⟨rfl, h.2.1.2, h.2.2⟩
    generalize st.enter s level = s1 at hcnt ⊢
    repeat' (first | (refine xS 3 2 ?_; (first | refine AL.d AOp.fa ?_ | refine AL.d (AOp.fr 7) ?_) <;> (first | refine AL.d AOp.la ?_ | refine AL.d (AOp.ll 0) ?_) <;> refine AL.nil ?_) | refine AW.jt ?_ | refine AW.jf ?_ | refine AW.jj (fun hb => ?_) (fun hb => ?_) | refine AW.go ?_ | fail)
    · exact AW.retv rfl ⟨rfl, by simp only [hb, if_true]⟩
    have hcnt := hcnt hb
    simp only [hb, Bool.false_eq_true, if_false]
    have hu := code_fields s.Kind
    have hz := code_spare s
    obtain ⟨u, hue⟩ : ∃ u, u = useOf s.Kind := ⟨_, rfl⟩
    rw [← hue] at hu
    repeat' (first | (refine AW.r 4 ?_; (first | refine AL.d AOp.fa ?_ | refine AL.d (AOp.fr 0) ?_) <;> (first | refine AL.d AOp.la ?_ | refine AL.d (AOp.ll 0) ?_) <;> (first | refine AL.d (AOp.call rfl rfl (hu.pure _)) ?_ | refine AL.d (AOp.call rfl rfl (hz.pure _)) ?_ | refine AL.d (AOp.call rfl rfl (chk_need b ba bs gA _ _)) ?_) <;> refine AL.alloc_store (by kernel_rfl) rfl rfl rfl rfl ?_ <;> refine AL.nil ?_) | (refine xS 5 1 ?_; (first | refine AL.d AOp.la ?_ | refine AL.d (AOp.lw 0) ?_) <;> (first | refine AL.d (AOp.call rfl rfl (hu.pure _)) ?_ | refine AL.d (AOp.call rfl rfl (hz.pure _)) ?_ | refine AL.d (AOp.call rfl rfl (chk_need b ba bs gA _ _)) ?_) <;> (first | refine AL.d (AOp.call rfl rfl (hu.pure _)) ?_ | refine AL.d (AOp.call rfl rfl (hz.pure _)) ?_ | refine AL.d (AOp.call rfl rfl (chk_need b ba bs gA _ _)) ?_) <;> refine AL.nil ?_) | refine AW.jt ?_ | refine AW.jf ?_ | refine AW.jj (fun hb => ?_) (fun hb => ?_) | refine AW.go ?_ | fail)
    obtain ⟨a1, ea1⟩ : ∃ x, x = s1.need (zeroB s) := ⟨_, rfl⟩
    rw [← ea1]
    have hlit : s.Lit.Ok := by cases hs; rename_i h _ _ _ _; exact h.2.2.2.2.2.2.2.1
    have hregs : s.Regs.length ≤ 4611686018427387904 := by cases hs; rename_i h _ _ _ _; have := h.2.2.2.2.2.2.2.2.1; omega
    repeat' (first | (refine AW.r 6 ?_; (first | refine AL.d AOp.fa ?_ | refine AL.d (AOp.fr 0) ?_) <;> (first | refine AL.d AOp.la ?_ | refine AL.d (AOp.ll 0) ?_) <;> refine AL.nil ?_) | refine AW.jt ?_ | refine AW.jf ?_ | refine AW.go ?_ | fail)
    refine AW.cut (fun af ah => af = [(0, .ref b 0), (2, .int .i64 level), (4, .at s.st), (6, .at u.av)] ∧ ah = (if u.f = true then a1.flag s.F else a1).ah b ba bs gA) ?_ ?_
    · repeat' (first | (refine xS 7 1 ?_; (first | refine AL.d AOp.fa ?_ | refine AL.d (AOp.fr 1) ?_) <;> (first | refine AL.d AOp.la ?_ | refine AL.d (AOp.ll 0) ?_) <;> refine AL.d (AOp.call rfl rfl (chk_flag b ba bs gA _ _)) ?_ <;> refine AL.nil ?_) | refine AW.jt ?_ | refine AW.jf ?_ | refine AW.jj (fun hb => ?_) (fun hb => ?_) | refine AW.go ?_ | fail)
      all_goals (refine AW.meet [0, 2, 4, 6] ⟨rfl, ?_⟩; simp only [hb]; rfl)
    rintro af ah ⟨rfl, rfl⟩
    obtain ⟨a2, ea2⟩ : ∃ x, x = (if u.f = true then a1.flag s.F else a1) := ⟨_, rfl⟩
    rw [← ea2]
    refine AW.seq ?_
    refine AW.seq ?_
    refine AW.cut (fun af ah => ∃ v : Bool, af = [(66, .bool v), (0, .ref b 0), (2, .int .i64 level), (4, .at s.st), (6, .at u.av)] ∧ ah = a2.ah b ba bs gA ∧ v = (u.g && decide (s.Kind ≠ 4))) ?_ ?_
    · repeat' (first | (refine AW.r 8 ?_; (first | refine AL.d AOp.fa ?_ | refine AL.d (AOp.fr 1) ?_) <;> (first | refine AL.d AOp.la ?_ | refine AL.d (AOp.ll 0) ?_) <;> refine AL.es 1 ?_ <;> (first | (refine AL.gd ?_; (first | refine AL.d AOp.fa ?_ | refine AL.d (AOp.fr 0) ?_)) | refine AL.gs ?_ | refine AL.gu ?_ | (refine AL.gx (fun hb => ?_) (fun hb => ?_) <;> first | (refine AL.gd ?_; (first | refine AL.d AOp.fa ?_ | refine AL.d (AOp.fr 0) ?_)) | refine AL.gs ?_)) <;> (first | (refine AL.gd ?_; (first | refine AL.d AOp.la ?_ | refine AL.d (AOp.ll 0) ?_)) | refine AL.gs ?_ | refine AL.gu ?_) <;> refine AL.es 2 ?_ <;> refine AL.nil ?_) | refine AW.jt ?_ | refine AW.jf ?_ | refine AW.jj (fun hb => ?_) (fun hb => ?_) | refine AW.go ?_ | fail)
      all_goals (refine AW.meet [66, 0, 2, 4, 6] ⟨_, rfl, rfl, ?_⟩; simp_all [ofConst, ieq, ine])
    rintro af ah ⟨v66, rfl, rfl, hv66⟩
    refine AW.cut (fun af ah => af = [(0, .ref b 0), (2, .int .i64 level), (4, .at s.st), (6, .at u.av)] ∧ ah = (if v66 = true then a2.flag s.G else a2).ah b ba bs gA) ?_ ?_
    · repeat' (first | (refine xS 9 1 ?_; (first | refine AL.d AOp.fa ?_ | refine AL.d (AOp.fr 2) ?_) <;> (first | refine AL.d AOp.la ?_ | refine AL.d (AOp.ll 0) ?_) <;> refine AL.d (AOp.call rfl rfl (chk_flag b ba bs gA _ _)) ?_ <;> refine AL.nil ?_) | refine AW.jt ?_ | refine AW.jf ?_ | refine AW.jj (fun hb => ?_) (fun hb => ?_) | refine AW.go ?_ | fail)
      all_goals (refine AW.meet [0, 2, 4, 6] ⟨rfl, ?_⟩; simp only [hb]; rfl)
    rintro af ah ⟨rfl, rfl⟩
    obtain ⟨a3, ea3⟩ : ∃ x, x = (if v66 = true then a2.flag s.G else a2) := ⟨_, rfl⟩
    rw [← ea3]
    refine AW.seq ?_
    repeat' (first | (refine AW.r 10 ?_; (first | refine AL.d AOp.fa ?_ | refine AL.d (AOp.fr 0) ?_) <;> (first | refine AL.d AOp.la ?_ | refine AL.d (AOp.ll 0) ?_) <;> refine AL.es 1 ?_ <;> refine AL.nil ?_) | refine AW.jt ?_ | refine AW.jf ?_ | refine AW.go ?_ | fail)
    refine AW.cut (fun af ah => af = [(0, .ref b 0), (2, .int .i64 level), (4, .at s.st), (6, .at u.av)] ∧ ah = (if s.Kind = 4 then a3.need (decide (s.G = 0) || decide (s.G = 1)) else a3).ah b ba bs gA) ?_ ?_
    · repeat' (first | (refine xS 11 1 ?_; (first | refine AL.d AOp.fa ?_ | refine AL.d (AOp.fr 2) ?_) <;> (first | refine AL.d AOp.la ?_ | refine AL.d (AOp.ll 0) ?_) <;> refine AL.es 2 ?_ <;> (first | (refine AL.gd ?_; (first | refine AL.d AOp.fa ?_ | refine AL.d (AOp.fr 2) ?_)) | refine AL.gs ?_ | refine AL.gu ?_ | (refine AL.gx (fun hb => ?_) (fun hb => ?_) <;> first | (refine AL.gd ?_; (first | refine AL.d AOp.fa ?_ | refine AL.d (AOp.fr 2) ?_)) | refine AL.gs ?_)) <;> (first | (refine AL.gd ?_; (first | refine AL.d AOp.la ?_ | refine AL.d (AOp.ll 0) ?_)) | refine AL.gs ?_ | refine AL.gu ?_) <;> refine AL.es 2 ?_ <;> refine AL.d (AOp.call rfl rfl (chk_need b ba bs gA _ _)) ?_ <;> refine AL.nil ?_) | refine AW.jt ?_ | refine AW.jf ?_ | refine AW.jj (fun hb => ?_) (fun hb => ?_) | refine AW.go ?_ | fail)
      all_goals (refine AW.meet [0, 2, 4, 6] ⟨rfl, ?_⟩; simp only [ieq, ine, dT, dF, ofConst, Bool.not_eq_true', Bool.not_eq_false'] at *; simp_all)
    rintro af ah ⟨rfl, rfl⟩
    obtain ⟨a4, ea4⟩ : ∃ x, x = (if s.Kind = 4 then a3.need (decide (s.G = 0) || decide (s.G = 1)) else a3) := ⟨_, rfl⟩
    rw [← ea4]
    refine AW.seq ?_
    repeat' (first | (refine AW.r 12 ?_; (first | refine AL.d AOp.fa ?_ | refine AL.d (AOp.fr 2) ?_) <;> (first | refine AL.d AOp.la ?_ | refine AL.d (AOp.ll 0) ?_) <;> refine AL.nil ?_) | refine AW.jt ?_ | refine AW.jf ?_ | refine AW.go ?_ | fail)
    refine AW.cut (fun af ah => af = [(0, .ref b 0), (2, .int .i64 level), (4, .at s.st), (6, .at u.av)] ∧ ah = (if u.r = true then a4.regs [s.R] else a4).ah b ba bs gA) ?_ ?_
    · repeat' (first | (refine xS 13 1 ?_; (first | refine AL.d AOp.fa ?_ | refine AL.d (AOp.fr 3) ?_) <;> (first | refine AL.d AOp.la ?_ | refine AL.d (AOp.ll 0) ?_) <;> refine AL.d (AOp.lit (e := 3) (sz := 1) (by kernel_rfl) rfl rfl rfl (by simp [AV.size]) (by decide)) ?_ <;> refine AL.d (AOp.call rfl rfl (chk_regs b ba bs gA _ [s.R] (by simp))) ?_ <;> refine AL.nil ?_) | refine AW.jt ?_ | refine AW.jf ?_ | refine AW.jj (fun hb => ?_) (fun hb => ?_) | refine AW.go ?_ | fail)
      all_goals (refine AW.meet [0, 2, 4, 6] ⟨rfl, ?_⟩; simp only [hb]; rfl)
    rintro af ah ⟨rfl, rfl⟩
    obtain ⟨a5, ea5⟩ : ∃ x, x = (if u.r = true then a4.regs [s.R] else a4) := ⟨_, rfl⟩
    rw [← ea5]
    refine AW.seq ?_
    refine AW.cut (fun af ah => af = [(0, .ref b 0), (2, .int .i64 level), (4, .at s.st), (6, .at u.av)] ∧ ah = (a5.need (decide (0 ≤ s.N) && decide (s.N ≤ 12))).ah b ba bs gA) ?_ ?_
    · repeat' (first | (refine xS 14 1 ?_; (first | refine AL.d AOp.fa ?_ | refine AL.d (AOp.fr 4) ?_) <;> (first | refine AL.d AOp.la ?_ | refine AL.d (AOp.ll 0) ?_) <;> refine AL.es 2 ?_ <;> (first | (refine AL.gd ?_; (first | refine AL.d AOp.fa ?_ | refine AL.d (AOp.fr 4) ?_)) | refine AL.gs ?_ | refine AL.gu ?_ | (refine AL.gx (fun hb => ?_) (fun hb => ?_) <;> first | (refine AL.gd ?_; (first | refine AL.d AOp.fa ?_ | refine AL.d (AOp.fr 4) ?_)) | refine AL.gs ?_)) <;> (first | (refine AL.gd ?_; (first | refine AL.d AOp.la ?_ | refine AL.d (AOp.ll 0) ?_)) | refine AL.gs ?_ | refine AL.gu ?_) <;> refine AL.es 2 ?_ <;> refine AL.d (AOp.call rfl rfl (chk_need b ba bs gA _ _)) ?_ <;> refine AL.nil ?_) | refine AW.jt ?_ | refine AW.jf ?_ | refine AW.jj (fun hb => ?_) (fun hb => ?_) | refine AW.go ?_ | fail)
      all_goals (refine AW.meet [0, 2, 4, 6] ⟨rfl, ?_⟩; simp only [ieq, ine, dT, dF, ofConst, Bool.not_eq_true', Bool.not_eq_false'] at *; congr 2; rw [Bool.eq_iff_iff]; simp; try omega)
    rintro af ah ⟨rfl, rfl⟩
    obtain ⟨a6, ea6⟩ : ∃ x, x = (a5.need (decide (0 ≤ s.N) && decide (s.N ≤ 12))) := ⟨_, rfl⟩
    rw [← ea6]
    refine AW.seq ?_
    repeat' (first | (refine AW.r 15 ?_; (first | refine AL.d AOp.fa ?_ | refine AL.d (AOp.fr 6) ?_) <;> (first | refine AL.d AOp.la ?_ | refine AL.d (AOp.ll 0) ?_) <;> refine AL.nil ?_) | refine AW.jt ?_ | refine AW.jf ?_ | refine AW.go ?_ | fail)
    refine AW.cut (fun af ah => af = [(0, .ref b 0), (2, .int .i64 level), (4, .at s.st), (6, .at u.av)] ∧ ah = (if u.lit = true then a6.lit s.Lit else a6).ah b ba bs gA) ?_ ?_
    · repeat' (first | (refine xS 16 1 ?_; (first | refine AL.d AOp.fa ?_ | refine AL.d (AOp.fr 7) ?_) <;> (first | refine AL.d AOp.la ?_ | refine AL.d (AOp.lw 0) ?_) <;> refine AL.d (AOp.call rfl rfl (chk_lit b ba bs gA _ s.Lit hlit)) ?_ <;> refine AL.nil ?_) | refine AW.jt ?_ | refine AW.jf ?_ | refine AW.jj (fun hb => ?_) (fun hb => ?_) | refine AW.go ?_ | fail)
      all_goals (refine AW.meet [0, 2, 4, 6] ⟨rfl, ?_⟩; simp only [hb]; rfl)
    rintro af ah ⟨rfl, rfl⟩
    obtain ⟨a7, ea7⟩ : ∃ x, x = (if u.lit = true then a6.lit s.Lit else a6) := ⟨_, rfl⟩
    rw [← ea7]
    refine AW.seq ?_
    refine AW.cut (fun af ah => af = [(0, .ref b 0), (2, .int .i64 level), (4, .at s.st), (6, .at u.av)] ∧ ah = (a7.regs s.Regs).ah b ba bs gA) ?_ ?_
    · repeat' (first | (refine xS 17 1 ?_; (first | refine AL.d AOp.fa ?_ | refine AL.d (AOp.fr 11) ?_) <;> (first | refine AL.d AOp.la ?_ | refine AL.d (AOp.ll 0) ?_) <;> refine AL.d (AOp.call rfl rfl (chk_regs b ba bs gA _ s.Regs hregs)) ?_ <;> refine AL.nil ?_) | refine AW.jt ?_ | refine AW.jf ?_ | refine AW.jj (fun hb => ?_) (fun hb => ?_) | refine AW.go ?_ | fail)
      all_goals (refine AW.meet [0, 2, 4, 6] ⟨rfl, ?_⟩; rfl)
    rintro af ah ⟨rfl, rfl⟩
    obtain ⟨a8, ea8⟩ : ∃ x, x = (a7.regs s.Regs) := ⟨_, rfl⟩
    rw [← ea8]
    refine AW.seq ?_
    refine AW.cut (fun af ah => ∃ (nn : Int) (ii : Bool), af = [(7, iav nn), (8, .bool ii), (0, .ref b 0), (2, .int .i64 level), (4, .at s.st), (6, .at u.av)] ∧ ah = a8.ah b ba bs gA ∧ nn = (lookA a8.A s.Name).getD 0 ∧ ii = (lookA a8.A s.Name).isSome) ?_ ?_
    · repeat' (first | (refine AW.dq 18 ?_; refine AQ.es 2 ?_; (first | refine AQ.p rfl AOp.fa ?_ | refine AQ.p rfl (AOp.fr 4) ?_) <;> (first | refine AQ.p rfl AOp.la ?_ | refine AQ.p rfl (AOp.ll 0) ?_) <;> (first | refine AQ.p rfl AOp.fa ?_ | refine AQ.p rfl (AOp.fr 5) ?_) <;> (first | refine AQ.p rfl AOp.la ?_ | refine AQ.p rfl (AOp.ll 0) ?_) <;> refine AQ.p rfl (AOp.lookS_int 1 3 rfl rfl rfl (by kernel_rfl) (by kernel_rfl)) ?_ <;> refine AQ.es 5 ?_ <;> refine AQ.nil ?_) | refine AW.jt ?_ | refine AW.jf ?_ | refine AW.jj (fun hb => ?_) (fun hb => ?_) | refine AW.go ?_ | fail)
      exact AW.meet [7, 8, 0, 2, 4, 6] ⟨_, _, rfl, rfl, rfl, rfl⟩
    rintro af ah ⟨nn, ii, rfl, rfl, hnn, hii⟩
    refine AW.seq ?_
    refine AW.cut (fun af ah => af = [(7, iav nn), (8, .bool ii), (0, .ref b 0), (2, .int .i64 level), (4, .at s.st), (6, .at u.av)] ∧ ah = (a8.need (!u.name || ii)).ah b ba bs gA) ?_ ?_
    · repeat' (first | (refine xS 19 1 ?_; (first | refine AL.d AOp.fa ?_ | refine AL.d (AOp.fr 4) ?_) <;> (first | refine AL.d AOp.la ?_ | refine AL.d (AOp.ll 0) ?_) <;> refine AL.es 2 ?_ <;> (first | refine AL.es 2 ?_ | (refine AL.gx (fun hb => ?_) (fun hb => ?_) <;> refine AL.es 2 ?_)) <;> refine AL.d (AOp.call rfl rfl (chk_need b ba bs gA _ _)) ?_ <;> refine AL.nil ?_) | refine AW.jt ?_ | refine AW.jf ?_ | refine AW.jj (fun hb => ?_) (fun hb => ?_) | refine AW.go ?_ | fail)
      all_goals (refine AW.meet [7, 8, 0, 2, 4, 6] ⟨rfl, ?_⟩; (try simp only [ieq, ine, ofConst, lM] at *); congr 2; simp_all [ofConst])
    rintro af ah ⟨rfl, rfl⟩
    obtain ⟨a9, ea9⟩ : ∃ x, x = (a8.need (!u.name || ii)) := ⟨_, rfl⟩
    rw [← ea9]
    refine AW.seq ?_
    refine AW.cut (fun af ah => af = [(7, iav nn), (8, .bool ii), (0, .ref b 0), (2, .int .i64 level), (4, .at s.st), (6, .at u.av)] ∧ ah = (a9.need (!u.regs || decide (nn = s.Regs.length))).ah b ba bs gA) ?_ ?_
    · repeat' (first | (refine xS 20 1 ?_; (first | refine AL.d AOp.fa ?_ | refine AL.d (AOp.fr 7) ?_) <;> (first | refine AL.d AOp.la ?_ | refine AL.d (AOp.ll 0) ?_) <;> refine AL.es 2 ?_ <;> (first | refine AL.es 1 ?_ | (refine AL.gx (fun hb => ?_) (fun hb => ?_) <;> refine AL.es 1 ?_)) <;> (first | (refine AL.gd ?_; (first | refine AL.d AOp.fa ?_ | refine AL.d (AOp.fr 11) ?_)) | refine AL.gs ?_ | refine AL.gu ?_) <;> (first | (refine AL.gd ?_; (first | refine AL.d AOp.la ?_ | refine AL.d (AOp.ll 0) ?_)) | refine AL.gs ?_ | refine AL.gu ?_) <;> refine AL.es 3 ?_ <;> refine AL.d (AOp.call rfl rfl (chk_need b ba bs gA _ _)) ?_ <;> refine AL.nil ?_) | refine AW.jt ?_ | refine AW.jf ?_ | refine AW.jj (fun hb => ?_) (fun hb => ?_) | refine AW.go ?_ | fail)
      all_goals (refine AW.meet [7, 8, 0, 2, 4, 6] ⟨rfl, ?_⟩; (try simp only [ieq, ine, ofConst, lM] at *); congr 2; simp_all [ofConst])
    rintro af ah ⟨rfl, rfl⟩
    obtain ⟨a10, ea10⟩ : ∃ x, x = (a9.need (!u.regs || decide (nn = s.Regs.length))) := ⟨_, rfl⟩
    rw [← ea10]
    refine AW.seq ?_
    repeat' (first | (refine AW.r 21 ?_; (first | refine AL.d AOp.fa ?_ | refine AL.d (AOp.fr 5) ?_) <;> (first | refine AL.d AOp.la ?_ | refine AL.d (AOp.ll 0) ?_) <;> refine AL.nil ?_) | refine AW.jt ?_ | refine AW.jf ?_ | refine AW.go ?_ | fail)
    refine AW.cut (fun af ah => af = [(7, iav nn), (8, .bool ii), (0, .ref b 0), (2, .int .i64 level), (4, .at s.st), (6, .at u.av)] ∧ ah = (if u.frm = true then a10.need ((lookA a10.A s.From).isSome && decide (nn = (lookA a10.A s.From).getD 0)) else a10).ah b ba bs gA) ?_ ?_
    · repeat' (first | (refine AW.dq 22 ?_; refine AQ.es 2 ?_; (first | refine AQ.p rfl AOp.fa ?_ | refine AQ.p rfl (AOp.fr 4) ?_) <;> (first | refine AQ.p rfl AOp.la ?_ | refine AQ.p rfl (AOp.ll 0) ?_) <;> (first | refine AQ.p rfl AOp.fa ?_ | refine AQ.p rfl (AOp.fr 6) ?_) <;> (first | refine AQ.p rfl AOp.la ?_ | refine AQ.p rfl (AOp.ll 0) ?_) <;> refine AQ.p rfl (AOp.lookS_int 1 3 rfl rfl rfl (by kernel_rfl) (by kernel_rfl)) ?_ <;> refine AQ.es 5 ?_ <;> refine AQ.nil ?_) | (refine xS 23 3 ?_; (first | refine AL.es 4 ?_ | (refine AL.gx (fun hb => ?_) (fun hb => ?_) <;> refine AL.es 4 ?_)) <;> refine AL.d (AOp.call rfl rfl (chk_need b ba bs gA _ _)) ?_ <;> refine AL.nil ?_) | refine AW.jt ?_ | refine AW.jf ?_ | refine AW.jj (fun hb => ?_) (fun hb => ?_) | refine AW.go ?_ | fail)
      all_goals (refine AW.meet [7, 8, 0, 2, 4, 6] ⟨rfl, ?_⟩; simp_all [ofConst, ieq, ine])
    rintro af ah ⟨rfl, rfl⟩
    obtain ⟨a11, ea11⟩ : ∃ x, x = (if u.frm = true then a10.need ((lookA a10.A s.From).isSome && decide (nn = (lookA a10.A s.From).getD 0)) else a10) := ⟨_, rfl⟩
    rw [← ea11]
    refine AW.seq ?_
    have hfin : s1.flds s = a11 := by
      subst ea11 ea10 ea9 hnn hii ea8 ea7 ea6 ea5 ea4 ea3 hv66 ea2 ea1 hue
      unfold Chk.flds
      simp only [bA, dT]
    rw [hfin]
    have hc2 : a11.cnt = st.cnt + 1 := by rw [← hfin, Chk.flds_cnt]; exact hcnt.1
    clear hfin ea11 ea10 ea9 hnn hii ea8 ea7 ea6 ea5 ea4 ea3 hv66 ea2 ea1 hu hz
    obtain ⟨_, hb1, hb2, he1, he2⟩ := hs
    have hcs := cntS_eq s
    repeat' (first | (refine AW.r 24 ?_; (first | refine AL.d AOp.fa ?_ | refine AL.d (AOp.fr 12) ?_) <;> (first | refine AL.d AOp.la ?_ | refine AL.d (AOp.ll 0) ?_) <;> (first | refine AL.d AOp.fa ?_ | refine AL.d (AOp.fr 13) ?_) <;> (first | refine AL.d AOp.la ?_ | refine AL.d (AOp.ll 0) ?_) <;> refine AL.d (AOp.lit (e := 23) (sz := 1) (by kernel_rfl) rfl rfl rfl (by simp [AV.size]) (by decide)) ?_ <;> refine AL.es 2 ?_ <;> refine AL.nil ?_) | refine AW.jt ?_ | refine AW.jf ?_ | refine AW.jj (fun hb => ?_) (fun hb => ?_) | refine AW.go ?_ | fail)
    refine AW.prune [0, 2, 165, 166, 167] (AW.loop (fun m af h => ∃ (i : Nat) (t : Chk), i ≤ 2 ∧ m = 2 - i ∧ af = [(0, .ref b 0), (2, .int .i64 level), (165, .sl [.sl (s.Body.map GStmt.av), .sl (s.Else.map GStmt.av)]), (166, .int .i64 2), (167, .int .i64 i)] ∧ h = t.ah b ba bs gA ∧ 0 ≤ t.cnt ∧ t.cnt ≤ 20000 ∧
      (if (listP s.Body (level + 1) a11).2 = true then (listP s.Body (level + 1) a11).1 else (listP s.Else (level + 1) (listP s.Body (level + 1) a11).1).1) = (if i = 0 then (if (listP s.Body (level + 1) t).2 = true then (listP s.Body (level + 1) t).1 else (listP s.Else (level + 1) (listP s.Body (level + 1) t).1).1) else if i = 1 then (listP s.Else (level + 1) t).1 else t)) 2 ⟨0, a11, by omega, rfl, rfl, rfl, by omega, by omega, rfl⟩ ?_)
    rintro m af h ⟨i, t, hi, rfl, rfl, rfl, t0, t1, he⟩
    refine AW.seq ?_
    generalize (if (listP s.Body (level + 1) a11).2 = true then (listP s.Body (level + 1) a11).1 else (listP s.Else (level + 1) (listP s.Body (level + 1) a11).1).1) = X at he ⊢
    by_cases hlt : i < 2
    · obtain ⟨l, G, hget, hlen, hok, hcl, he', hnext⟩ : ∃ (l : List GStmt) (G : Chk → Chk), ([.sl (s.Body.map GStmt.av), .sl (s.Else.map GStmt.av)] : List AV)[((i : Nat) : Int).toNat]? = some (.sl (l.map GStmt.av)) ∧ l.length ≤ 4611686018427387904 ∧ (∀ x ∈ l, x.Ok) ∧ cntL l < n ∧
          X = (if (listP l (level + 1) t).2 = true then (listP l (level + 1) t).1 else G (listP l (level + 1) t).1) ∧ ∀ u, G u = (if i + 1 = 0 then (if (listP s.Body (level + 1) u).2 = true then (listP s.Body (level + 1) u).1 else (listP s.Else (level + 1) (listP s.Body (level + 1) u).1).1) else if i + 1 = 1 then (listP s.Else (level + 1) u).1 else u) := by
        rcases (show i = 0 ∨ i = 1 by omega) with rfl | rfl
        · exact ⟨s.Body, fun u => (listP s.Else (level + 1) u).1, rfl, by omega, hb2, by omega, he, fun u => rfl⟩
        · exact ⟨s.Else, fun u => u, rfl, by omega, he2, by omega, by rw [he]; split <;> simp_all, fun u => rfl⟩
      clear he
      repeat' (first | refine AW.re 25 1 ?_ | (refine AW.r 26 ?_; refine AL.d (iX hget) ?_; (first | refine AL.d AOp.la ?_ | refine AL.d (AOp.ll 0) ?_) <;> refine AL.es 1 ?_ <;> refine AL.nil ?_) | refine AW.re 27 3 ?_ | refine AW.jt ?_ | refine AW.jf ?_ | refine AW.jj (fun hb => ?_) (fun hb => ?_) | refine AW.go ?_ | fail)
      all_goals try (exfalso; simp only [dT, dF, lM] at *; omega)
      refine AW.prune [0, 2, 165, 166, 167, 171, 172, 173] (AW.loop (fun m af h => ∃ (k : Nat) (u : Chk), k ≤ l.length ∧ m = l.length - k ∧ af = [(0, .ref b 0), (2, .int .i64 level), (165, .sl [.sl (s.Body.map GStmt.av), .sl (s.Else.map GStmt.av)]), (166, .int .i64 2), (167, .int .i64 i), (171, .sl (l.map GStmt.av)), (172, .int .i64 (l.map GStmt.av).length), (173, .int .i64 k)] ∧ h = u.ah b ba bs gA ∧ 0 ≤ u.cnt ∧ u.cnt ≤ 20000 ∧
        listP l (level + 1) t = listP (l.drop k) (level + 1) u) l.length ⟨0, t, Nat.zero_le _, rfl, rfl, rfl, t0, t1, rfl⟩ ?_)
      rintro m af h ⟨k, u, hk, rfl, rfl, rfl, u0, u1, hu⟩
      refine AW.seq ?_
      by_cases hlt2 : k < l.length
      · obtain ⟨x, hx⟩ := get_lt hlt2
        have hx' : (l.map GStmt.av)[((k : Nat) : Int).toNat]? = some x.st := GStmt.get hx
        have hxm := lG hx
        have hxc := cnt_mem hxm
        have hih := ih (cntS x) (by omega) x (Nat.le_refl _) (hok x hxm) (level + 1) (by omega) u ⟨u0, u1⟩
        have hcx := stmtP_cnt x (level + 1) u u0 u1
        rw [drop_cons hx, listP] at hu
        repeat' (first | refine AW.re 28 1 ?_ | (refine AW.r 29 ?_; refine AL.d (iX hx') ?_; (first | refine AL.d AOp.la ?_ | refine AL.d (AOp.lw 0) ?_) <;> refine AL.alloc_store (by kernel_rfl) rfl rfl rfl rfl ?_ <;> refine AL.nil ?_) | (refine xS 30 1 ?_; (first | refine AL.d AOp.la ?_ | refine AL.d (AOp.lw 0) ?_) <;> refine AL.es 1 ?_ <;> refine AL.d AOp.ad ?_ <;> refine AL.d (AOp.call rfl rfl hih) ?_ <;> refine AL.nil ?_) | (refine xS 31 2 ?_; (first | refine AL.d AOp.fa ?_ | refine AL.d (AOp.fr 7) ?_) <;> (first | refine AL.d AOp.la ?_ | refine AL.d (AOp.ll 0) ?_) <;> refine AL.nil ?_) | (refine AW.r 32 ?_; refine AL.d AOp.ad ?_; refine xN 1 ?_) | refine AW.jt ?_ | refine AW.jf ?_ | refine AW.jj (fun hb => ?_) (fun hb => ?_) | refine AW.go ?_ | fail)
        all_goals first
          | (exfalso; simp only [dT, dF, lM] at *; omega)
          | exact AW.retv rfl ⟨rfl, by rw [he']; simp only [hu, hb, if_true]⟩
          | exact AW.again_keep (l.length - (k + 1)) [0, 2, 165, 166, 167, 171, 172, 173] (by omega) ⟨k + 1, _, hlt2, rfl, rfl, rfl, hcx.1, hcx.2.2 hb, by simp only [hu, hb, Bool.false_eq_true, if_false]⟩
      · rw [List.drop_eq_nil_of_le (by omega), listP] at hu
        repeat' (first | refine AW.re 28 1 ?_ | (refine AW.r 33 ?_; refine AL.d AOp.ad ?_; refine xN 1 ?_) | refine AW.jt ?_ | refine AW.jf ?_ | refine AW.jj (fun hb => ?_) (fun hb => ?_) | refine AW.go ?_ | fail)
        all_goals first
          | (exfalso; simp only [dT, dF, lM] at *; omega)
          | exact AW.again_keep (2 - (i + 1)) [0, 2, 165, 166, 167] (by omega) ⟨i + 1, u, by omega, rfl, rfl, rfl, u0, u1, by rw [he']; simp only [hu, Bool.false_eq_true, if_false]; exact hnext u⟩
    · have hi2 : i = 2 := by omega
      subst hi2
      repeat' (first | refine AW.re 25 1 ?_ | refine AW.jt ?_ | refine AW.jf ?_ | refine AW.jj (fun hb => ?_) (fun hb => ?_) | refine AW.go ?_ | fail)
      all_goals first
        | (exfalso; simp at *; done)
        | exact AW.donev rfl ⟨rfl, by rw [he]; rfl⟩
def chk0 (c : GCode) : Chk := (⟨c, [], [], ⟨[], 0⟩, 0, false⟩ : Chk).need (decide (1 ≤ c.Flags) && decide (c.Flags ≤ 1000) && decide (0 ≤ c.Regs) && decide (c.Regs ≤ 60) && decide (c.Arrays.length ≤ 60))
def Chk.arr (st : Chk) (a : GSym) : Chk := { st.need (!(lookA st.A a.Name).isSome && nameB a.Name && decide (0 ≤ a.Arity) && decide (a.Arity ≤ 12)) with A := setA st.A a.Name a.Arity }
def arrsP : List GSym → Chk → MG → Chk × MG
  | [], st, g => (st, g)
  | a :: l, st, g => arrsP l (st.arr a) (gsetA st.A g a.Name)
def bodyP : List GStmt → Chk → Chk
  | [], st => st
  | s :: l, st => if st.bad then st else bodyP l (stmtP s 1 st)
def checkedP (c : GCode) : Chk := bodyP c.Body (arrsP c.Arrays (chk0 c) ⟨[], 0⟩).1
theorem arrsP_cnt : ∀ (l : List GSym) (st : Chk) (g : MG), (arrsP l st g).1.cnt = st.cnt
  | [], st, g => rfl
  | a :: l, st, g => by rw [arrsP, arrsP_cnt l]; rfl
theorem code_checked (c : GCode) (hc : c.Ok) : Tri Tryz.prog 23 [c.av] [] (fun x h => ∃ b ba bs, x = .ret (.ref b 0) ∧ h = (checkedP c).ah b ba bs (arrsP c.Arrays (chk0 c) ⟨[], 0⟩).2) := by
  refine Tri.enter 102 Tryz.func23 rfl rfl rfl rfl fun Fr w0 => ?_
  obtain ⟨_, _, hca, hcb⟩ := hc
  have hal : c.Arrays.length ≤ 4611686018427387904 := by have := hca.1; omega
  have hbl : c.Body.length ≤ 4611686018427387904 := by have := hcb.1; omega
  repeat' (first | (refine AW.r 0 ?_; refine AL.d (AOp.box_ro rfl rfl) ?_; refine xN 1 ?_) | refine AW.jt ?_ | refine AW.jf ?_ | refine AW.jj (fun hb => ?_) (fun hb => ?_) | refine AW.go ?_ | fail)
  repeat' (first | (refine xS 1 1 ?_; refine AL.makeMap rfl fun bm => ?_; refine AL.makeMap rfl fun bm => ?_; refine AL.d (AOp.build (pl := [(0, 4), (4, 1), (5, 1), (6, 1), (7, 1)]) (z := .st [.st [.int .i64 0, .int .i64 0, .sl [], .sl []], .val (.map none), .val (.map none), .int .i64 0, .bool false]) (by kernel_rfl) rfl rfl rfl) ?_ <;> refine AL.box rfl rfl rfl fun b => ?_ <;> refine AL.es 1 ?_ <;> refine AL.nil ?_) | refine AW.jt ?_ | refine AW.jf ?_ | refine AW.jj (fun hb => ?_) (fun hb => ?_) | refine AW.go ?_ | fail)
  rename_i ba
  refine AW.perm (b := (⟨c, [], [], ⟨[], 0⟩, 0, false⟩ : Chk).ah b ba bm ⟨[], 0⟩) ((List.Perm.swap _ _ _).cons _) ?_
  refine AW.cut (fun af ah => af = [(1, .at c.av), (3, .ref b 0)] ∧ ah = (chk0 c).ah b ba bm ⟨[], 0⟩) ?_ ?_
  · repeat' (first | (refine xS 2 1 ?_; (first | refine AL.d AOp.fa ?_ | refine AL.d (AOp.fr 0) ?_) <;> (first | refine AL.d AOp.la ?_ | refine AL.d (AOp.ll 0) ?_) <;> refine AL.es 2 ?_ <;> (first | (refine AL.gd ?_; (first | refine AL.d AOp.fa ?_ | refine AL.d (AOp.fr 0) ?_)) | refine AL.gs ?_ | refine AL.gu ?_ | (refine AL.gx (fun hb => ?_) (fun hb => ?_) <;> first | (refine AL.gd ?_; (first | refine AL.d AOp.fa ?_ | refine AL.d (AOp.fr 0) ?_)) | refine AL.gs ?_)) <;> (first | (refine AL.gd ?_; (first | refine AL.d AOp.la ?_ | refine AL.d (AOp.ll 0) ?_)) | refine AL.gs ?_ | refine AL.gu ?_) <;> refine AL.es 3 ?_ <;> (first | (refine AL.gd ?_; (first | refine AL.d AOp.fa ?_ | refine AL.d (AOp.fr 1) ?_)) | refine AL.gs ?_ | refine AL.gu ?_ | (refine AL.gx (fun hb => ?_) (fun hb => ?_) <;> first | (refine AL.gd ?_; (first | refine AL.d AOp.fa ?_ | refine AL.d (AOp.fr 1) ?_)) | refine AL.gs ?_)) <;> (first | (refine AL.gd ?_; (first | refine AL.d AOp.la ?_ | refine AL.d (AOp.ll 0) ?_)) | refine AL.gs ?_ | refine AL.gu ?_) <;> refine AL.es 3 ?_ <;> (first | (refine AL.gd ?_; (first | refine AL.d AOp.fa ?_ | refine AL.d (AOp.fr 1) ?_)) | refine AL.gs ?_ | refine AL.gu ?_ | (refine AL.gx (fun hb => ?_) (fun hb => ?_) <;> first | (refine AL.gd ?_; (first | refine AL.d AOp.fa ?_ | refine AL.d (AOp.fr 1) ?_)) | refine AL.gs ?_)) <;> (first | (refine AL.gd ?_; (first | refine AL.d AOp.la ?_ | refine AL.d (AOp.ll 0) ?_)) | refine AL.gs ?_ | refine AL.gu ?_) <;> refine AL.es 3 ?_ <;> (first | (refine AL.gd ?_; (first | refine AL.d AOp.fa ?_ | refine AL.d (AOp.fr 2) ?_)) | refine AL.gs ?_ | refine AL.gu ?_ | (refine AL.gx (fun hb => ?_) (fun hb => ?_) <;> first | (refine AL.gd ?_; (first | refine AL.d AOp.fa ?_ | refine AL.d (AOp.fr 2) ?_)) | refine AL.gs ?_)) <;> (first | (refine AL.gd ?_; (first | refine AL.d AOp.la ?_ | refine AL.d (AOp.ll 0) ?_)) | refine AL.gs ?_ | refine AL.gu ?_) <;> refine AL.es 3 ?_ <;> refine AL.d (AOp.call rfl rfl (chk_need b ba bm ⟨[], 0⟩ ⟨c, [], [], ⟨[], 0⟩, 0, false⟩ _)) ?_ <;> refine AL.nil ?_) | refine AW.jt ?_ | refine AW.jf ?_ | refine AW.jj (fun hb => ?_) (fun hb => ?_) | refine AW.go ?_ | fail)
    all_goals (refine AW.meet [1, 3] ⟨rfl, ?_⟩; unfold chk0; simp only [lM, dT, dF] at *; congr 2; rw [Bool.eq_iff_iff]; simp; try omega)
  rintro af ah ⟨rfl, rfl⟩
  repeat' (first | (refine AW.r 3 ?_; (first | refine AL.d AOp.fa ?_ | refine AL.d (AOp.fr 2) ?_) <;> (first | refine AL.d AOp.la ?_ | refine AL.d (AOp.ll 0) ?_) <;> refine AL.es 2 ?_ <;> refine AL.nil ?_) | refine AW.jt ?_ | refine AW.jf ?_ | refine AW.jj (fun hb => ?_) (fun hb => ?_) | refine AW.go ?_ | fail)
  refine AW.prune [1, 3, 42, 43, 44] (AW.loop (fun m af h => ∃ (i : Nat) (st : Chk) (g : MG), i ≤ c.Arrays.length ∧ m = c.Arrays.length - i ∧ af = [(1, .at c.av), (3, .ref b 0), (42, .sl (c.Arrays.map GSym.av)), (43, .int .i64 (c.Arrays.map GSym.av).length), (44, .int .i64 i)] ∧ h = st.ah b ba bm g ∧ st.cnt = 0 ∧
    arrsP c.Arrays (chk0 c) ⟨[], 0⟩ = arrsP (c.Arrays.drop i) st g) c.Arrays.length ⟨0, chk0 c, ⟨[], 0⟩, Nat.zero_le _, rfl, rfl, rfl, rfl, rfl⟩ ?_)
  rintro m af h ⟨i, st, g, hi, rfl, rfl, rfl, hcnt, he⟩
  refine AW.seq ?_
  by_cases hlt : i < c.Arrays.length
  · obtain ⟨x, hx⟩ := get_lt hlt
    have hx' : (c.Arrays.map GSym.av)[((i : Nat) : Int).toNat]? = some x.av := map_get hx
    have hxo := hca.2 x (lG hx)
    rw [drop_cons hx, arrsP] at he
    have hN := shape_Name x.Name hxo.1
    repeat' (first | refine AW.re 4 1 ?_ | (refine AW.r 5 ?_; refine AL.d (iX hx') ?_; (first | refine AL.d AOp.la ?_ | refine AL.d (AOp.lw 0) ?_) <;> refine AL.alloc_store (by kernel_rfl) rfl rfl rfl rfl ?_ <;> refine AL.nil ?_) | refine AW.jt ?_ | refine AW.jf ?_ | refine AW.jj (fun hb => ?_) (fun hb => ?_) | refine AW.go ?_ | fail)
    all_goals try (exfalso; simp only [dT, dF, lM] at *; omega)
    repeat' (first | (refine AW.dq 6 ?_; refine AQ.es 2 ?_; (first | refine AQ.p rfl AOp.fa ?_ | refine AQ.p rfl (AOp.fr 4) ?_) <;> (first | refine AQ.p rfl AOp.la ?_ | refine AQ.p rfl (AOp.ll 0) ?_) <;> (first | refine AQ.p rfl AOp.fa ?_ | refine AQ.p rfl (AOp.fr 0) ?_) <;> (first | refine AQ.p rfl AOp.la ?_ | refine AQ.p rfl (AOp.ll 0) ?_) <;> refine AQ.p rfl (AOp.lookS_int 1 3 rfl rfl rfl (by kernel_rfl) (by kernel_rfl)) ?_ <;> refine AQ.es 5 ?_ <;> refine AQ.nil ?_) | refine AW.jt ?_ | refine AW.jf ?_ | refine AW.jj (fun hb => ?_) (fun hb => ?_) | refine AW.go ?_ | fail)
    refine AW.cut (fun af ah => af = [(1, .at c.av), (3, .ref b 0), (42, .sl (c.Arrays.map GSym.av)), (43, .int .i64 (c.Arrays.map GSym.av).length), (44, .int .i64 i), (5, .at x.av)] ∧ ah = (st.need (!(lookA st.A x.Name).isSome && nameB x.Name && decide (0 ≤ x.Arity) && decide (x.Arity ≤ 12))).ah b ba bm g) ?_ ?_
    · repeat' (first | (refine xS 7 4 ?_; (first | (refine AL.gd ?_; (first | refine AL.d AOp.fa ?_ | refine AL.d (AOp.fr 0) ?_)) | refine AL.gs ?_ | refine AL.gu ?_ | (refine AL.gx (fun hb => ?_) (fun hb => ?_) <;> first | (refine AL.gd ?_; (first | refine AL.d AOp.fa ?_ | refine AL.d (AOp.fr 0) ?_)) | refine AL.gs ?_)) <;> (first | (refine AL.gd ?_; (first | refine AL.d AOp.la ?_ | refine AL.d (AOp.ll 0) ?_)) | refine AL.gs ?_ | refine AL.gu ?_) <;> (first | (refine AL.gd ?_; (first | refine AL.d (AOp.call rfl rfl (hN.pure _)) ?_ | refine AL.d (AOp.call rfl rfl (chk_need b ba bm g _ _)) ?_)) | refine AL.gs ?_ | refine AL.gu ?_) <;> refine AL.es 2 ?_ <;> (first | (refine AL.gd ?_; (first | refine AL.d AOp.fa ?_ | refine AL.d (AOp.fr 1) ?_)) | refine AL.gs ?_ | refine AL.gu ?_ | (refine AL.gx (fun hb => ?_) (fun hb => ?_) <;> first | (refine AL.gd ?_; (first | refine AL.d AOp.fa ?_ | refine AL.d (AOp.fr 1) ?_)) | refine AL.gs ?_)) <;> (first | (refine AL.gd ?_; (first | refine AL.d AOp.la ?_ | refine AL.d (AOp.ll 0) ?_)) | refine AL.gs ?_ | refine AL.gu ?_) <;> refine AL.es 3 ?_ <;> (first | (refine AL.gd ?_; (first | refine AL.d AOp.fa ?_ | refine AL.d (AOp.fr 1) ?_)) | refine AL.gs ?_ | refine AL.gu ?_ | (refine AL.gx (fun hb => ?_) (fun hb => ?_) <;> first | (refine AL.gd ?_; (first | refine AL.d AOp.fa ?_ | refine AL.d (AOp.fr 1) ?_)) | refine AL.gs ?_)) <;> (first | (refine AL.gd ?_; (first | refine AL.d AOp.la ?_ | refine AL.d (AOp.ll 0) ?_)) | refine AL.gs ?_ | refine AL.gu ?_) <;> refine AL.es 2 ?_ <;> (first | refine AL.d (AOp.call rfl rfl (hN.pure _)) ?_ | refine AL.d (AOp.call rfl rfl (chk_need b ba bm g _ _)) ?_) <;> refine AL.nil ?_) | refine AW.jt ?_ | refine AW.jf ?_ | refine AW.jj (fun hb => ?_) (fun hb => ?_) | refine AW.go ?_ | fail)
      all_goals (refine AW.meet [1, 3, 42, 43, 44, 5] ⟨rfl, ?_⟩; congr 2; simp_all [ofConst]; try omega)
    rintro af ah ⟨rfl, rfl⟩
    repeat' (first | (refine AW.dl 8 8 ?_; refine AQ.es 2 ?_; (first | refine AQ.p rfl AOp.fa ?_ | refine AQ.p rfl (AOp.fr 4) ?_) <;> (first | refine AQ.p rfl AOp.la ?_ | refine AQ.p rfl (AOp.ll 0) ?_) <;> (first | refine AQ.p rfl AOp.fa ?_ | refine AQ.p rfl (AOp.fr 0) ?_) <;> (first | refine AQ.p rfl AOp.la ?_ | refine AQ.p rfl (AOp.ll 0) ?_) <;> (first | refine AQ.p rfl AOp.fa ?_ | refine AQ.p rfl (AOp.fr 1) ?_) <;> (first | refine AQ.p rfl AOp.la ?_ | refine AQ.p rfl (AOp.ll 0) ?_) <;> refine AQ.nil ?_ <;> refine AL.setS 1 3 iav _ rfl rfl rfl rfl (by kernel_rfl) ?_ <;> refine AL.nil ?_) | (refine AW.r 9 ?_; refine AL.d AOp.ad ?_; refine xN 1 ?_) | refine AW.jt ?_ | refine AW.jf ?_ | refine AW.jj (fun hb => ?_) (fun hb => ?_) | refine AW.go ?_ | fail)
    exact AW.again_keep (c.Arrays.length - (i + 1)) [1, 3, 42, 43, 44] (by omega) ⟨i + 1, st.arr x, gsetA st.A g x.Name, hlt, rfl, rfl, rfl, hcnt, he⟩
  · rw [List.drop_eq_nil_of_le (by omega), arrsP] at he
    have hi2 : i = c.Arrays.length := by omega
    repeat' (first | refine AW.re 4 1 ?_ | refine AW.jt ?_ | refine AW.jf ?_ | refine AW.jj (fun hb => ?_) (fun hb => ?_) | refine AW.go ?_ | fail)
    all_goals try (exfalso; simp only [dT, dF, lM] at *; omega)
    have hcp : checkedP c = bodyP c.Body st := by rw [checkedP, he]
    have hg : (arrsP c.Arrays (chk0 c) ⟨[], 0⟩).2 = g := by rw [he]
    rw [hcp, hg]
    clear he hcp hg
    repeat' (first | (refine AW.r 10 ?_; (first | refine AL.d AOp.fa ?_ | refine AL.d (AOp.fr 3) ?_) <;> (first | refine AL.d AOp.la ?_ | refine AL.d (AOp.ll 0) ?_) <;> refine AL.es 2 ?_ <;> refine AL.nil ?_) | refine AW.jt ?_ | refine AW.jf ?_ | refine AW.jj (fun hb => ?_) (fun hb => ?_) | refine AW.go ?_ | fail)
    refine AW.prune [1, 3, 87, 88, 89] (AW.loop (fun m af h => ∃ (k : Nat) (u : Chk), k ≤ c.Body.length ∧ m = c.Body.length - k ∧ af = [(1, .at c.av), (3, .ref b 0), (87, .sl (c.Body.map GStmt.av)), (88, .int .i64 (c.Body.map GStmt.av).length), (89, .int .i64 k)] ∧ h = u.ah b ba bm g ∧ 0 ≤ u.cnt ∧ (u.bad = false → u.cnt ≤ 20000) ∧
      bodyP c.Body st = bodyP (c.Body.drop k) u) c.Body.length ⟨0, st, Nat.zero_le _, rfl, rfl, rfl, by omega, by omega, rfl⟩ ?_)
    rintro m af h ⟨k, u, hk, rfl, rfl, rfl, u0, u1, hu⟩
    refine AW.seq ?_
    by_cases hlt2 : k < c.Body.length
    · obtain ⟨x, hx⟩ := get_lt hlt2
      have hx' : (c.Body.map GStmt.av)[((k : Nat) : Int).toNat]? = some x.st := GStmt.get hx
      have hxo := hcb.2 x (lG hx)
      rw [drop_cons hx, bodyP] at hu
      repeat' (first | refine AW.re 11 1 ?_ | (refine AW.r 12 ?_; refine AL.d (iX hx') ?_; (first | refine AL.d AOp.la ?_ | refine AL.d (AOp.lw 0) ?_) <;> refine AL.alloc_store (by kernel_rfl) rfl rfl rfl rfl ?_ <;> refine AL.nil ?_) | (refine xS 13 2 ?_; (first | refine AL.d AOp.fa ?_ | refine AL.d (AOp.fr 7) ?_) <;> (first | refine AL.d AOp.la ?_ | refine AL.d (AOp.ll 0) ?_) <;> refine AL.nil ?_) | refine AW.jt ?_ | refine AW.jf ?_ | refine AW.jj (fun hb => ?_) (fun hb => ?_) | refine AW.go ?_ | fail)
      all_goals try (exfalso; simp only [dT, dF, lM] at *; omega)
      · simp only [hb, if_true] at hu
        repeat' (first | refine AW.re 16 2 ?_ | refine AW.jt ?_ | refine AW.jf ?_ | refine AW.jj (fun hb => ?_) (fun hb => ?_) | refine AW.go ?_ | fail)
        first | exact AW.donev rfl ⟨_, _, _, rfl, by rw [hu]⟩ | exact AW.retv rfl ⟨_, _, _, rfl, by rw [hu]⟩
      · have h1 := chk_stmt b ba bm g (cntS x) x (Nat.le_refl _) hxo 1 (by omega) u ⟨u0, u1 hb⟩
        have h2 := stmtP_cnt x 1 u u0 (u1 hb)
        simp only [hb, Bool.false_eq_true, if_false] at hu
        repeat' (first | (refine xS 14 1 ?_; (first | refine AL.d AOp.la ?_ | refine AL.d (AOp.lw 0) ?_) <;> refine AL.d (AOp.call rfl rfl h1) ?_ <;> refine AL.nil ?_) | (refine AW.r 15 ?_; refine AL.d AOp.ad ?_; refine xN 1 ?_) | refine AW.jt ?_ | refine AW.jf ?_ | refine AW.jj (fun hb => ?_) (fun hb => ?_) | refine AW.go ?_ | fail)
        exact AW.again_keep (c.Body.length - (k + 1)) [1, 3, 87, 88, 89] (by omega) ⟨k + 1, _, hlt2, rfl, rfl, rfl, h2.1, h2.2.2, hu⟩
    · rw [List.drop_eq_nil_of_le (by omega), bodyP] at hu
      repeat' (first | refine AW.re 11 1 ?_ | refine AW.re 16 2 ?_ | refine AW.jt ?_ | refine AW.jf ?_ | refine AW.jj (fun hb => ?_) (fun hb => ?_) | refine AW.go ?_ | fail)
      all_goals try (exfalso; simp only [dT, dF, lM] at *; omega)
      first | exact AW.donev rfl ⟨_, _, _, rfl, by rw [hu]⟩ | exact AW.retv rfl ⟨_, _, _, rfl, by rw [hu]⟩
theorem code_Valid (c : GCode) (hc : c.Ok) : Tri Tryz.prog 8 [c.av] [] (D (.bool (!(checkedP c).bad)) []) := by
  have h := code_checked c hc
  refine Tri.enter 9 Tryz.func8 rfl rfl rfl rfl fun Fr w0 => ?_
  repeat' (first | (refine AW.r 0 ?_; refine AL.d (AOp.box_ro rfl rfl) ?_; refine xN 1 ?_) | refine AW.jt ?_ | refine AW.jf ?_ | refine AW.jj (fun hb => ?_) (fun hb => ?_) | refine AW.go ?_ | fail)
  repeat' (first | (refine AW.r 1 ?_; (first | refine AL.d AOp.la ?_ | refine AL.d (AOp.lw 0) ?_) <;> (refine AL.callQ rfl rfl h rfl ?_ ?_; rotate_left; rintro _ _ ⟨_, _, _, e, _⟩; cases e; rintro _ _ ⟨b, ba, bs, e, rfl⟩; injection e with e; subst e) <;> refine AL.es 1 ?_ <;> (first | refine AL.d AOp.fa ?_ | refine AL.d (AOp.fr 7) ?_) <;> (first | refine AL.d AOp.la ?_ | refine AL.d (AOp.ll 0) ?_) <;> refine AL.es 2 ?_ <;> refine AL.nil ?_) | refine AW.jt ?_ | refine AW.jf ?_ | refine AW.jj (fun hb => ?_) (fun hb => ?_) | refine AW.go ?_ | fail)
  all_goals first | exact AW.ret_drop rfl (List.nil_sublist _) ⟨rfl, rfl⟩ | exact AW.done_drop rfl (List.nil_sublist _) ⟨rfl, rfl⟩
def litSym (A : Ar) (l : GLit) : Option (ByteArray × Int) := if l.Kind = 1 ∨ l.Kind = 2 then none else match A l.Name with | some _ => none | none => some (l.Name, l.At.length)
def symOk (S : List (ByteArray × Int)) : Option (ByteArray × Int) → Bool
  | none => true
  | some (k, n) => match lookA S k with | none => true | some m => decide (m = n)
def addSym (S : List (ByteArray × Int)) : Option (ByteArray × Int) → List (ByteArray × Int)
  | none => S
  | some (k, n) => setA S k n
def stSym (A : Ar) (s : GStmt) : Option (ByteArray × Int) := if s.Kind = 0 then litSym A s.Lit else none
theorem need_bad (st : Chk) (x : Bool) : (st.need x).bad = (st.bad || !x) := rfl
theorem regs_bad : ∀ (l : List Int) (st : Chk), (st.regs l).bad = (st.bad || !inB st.c.Regs l) ∧ (st.regs l).c = st.c ∧ (st.regs l).A = st.A ∧ (st.regs l).S = st.S
  | [], st => ⟨by simp [Chk.regs, inB], rfl, rfl, rfl⟩
  | r :: l, st => by
    have h := regs_bad l (st.need (inr st.c.Regs r))
    rw [Chk.regs]
    refine ⟨?_, h.2⟩
    refine h.1.trans ?_
    show ((st.bad || !inr st.c.Regs r) || !inB st.c.Regs l) = (st.bad || !(inr st.c.Regs r && inB st.c.Regs l))
    cases st.bad <;> cases inr st.c.Regs r <;> simp
theorem lit_bad (st : Chk) (l : GLit) : (st.lit l).bad = (st.bad || !(litB (lookA st.A) st.c.Regs l && symOk st.S (litSym (lookA st.A) l))) ∧ (st.lit l).c = st.c ∧ (st.lit l).A = st.A ∧ (st.lit l).S = addSym st.S (litSym (lookA st.A) l) := by
  have hr := regs_bad l.At st
  obtain ⟨r1, r2, r3, r4⟩ := hr
  unfold Chk.lit litB litSym
  simp only
  by_cases hk : l.Kind = 1 ∨ l.Kind = 2
  · simp only [if_pos hk]
    refine ⟨?_, r2, r3, r4⟩
    rw [need_bad, r1]
    simp only [symOk, Bool.and_true]
    generalize inB st.c.Regs l.At = b1
    generalize (decide (l.Name = ⟨#[]⟩) && decide (l.At.length = 2)) = b2
    cases st.bad <;> cases b1 <;> cases b2 <;> rfl
  · simp only [if_neg hk]
    generalize hs1 : st.regs l.At = s1 at *
    have e1 : (s1.need (decide (l.Kind = 0) && nameB l.Name && decide (l.At.length ≤ 12))).A = st.A := r3
    rw [e1]
    generalize hb0 : (decide (l.Kind = 0) && nameB l.Name && decide (l.At.length ≤ 12)) = b0
    cases hA : lookA st.A l.Name with
    | some n =>
      simp only [symOk, Bool.and_true]
      refine ⟨?_, r2, r3, r4⟩
      rw [need_bad, need_bad, r1]
      generalize inB st.c.Regs l.At = b1
      generalize decide (n = (l.At.length : Int)) = b2
      cases st.bad <;> cases b0 <;> cases b1 <;> cases b2 <;> rfl
    | none =>
      have e2 : (s1.need b0).S = st.S := r4
      simp only
      refine ⟨?_, r2, r3, ?_⟩
      · show ((s1.need b0).need (match lookA (s1.need b0).S l.Name with | none => true | some n => decide (n = l.At.length))).bad = _
        rw [e2, need_bad, need_bad, r1]
        simp only [symOk, Bool.and_true]
        generalize inB st.c.Regs l.At = b1
        generalize (match lookA st.S l.Name with | none => true | some m => decide (m = (l.At.length : Int))) = b2
        cases st.bad <;> cases b0 <;> cases b1 <;> cases b2 <;> rfl
      · show setA (s1.need b0).S l.Name l.At.length = _
        rw [e2]; rfl
structure Step (a b : Chk) (x : Bool) (S : List (ByteArray × Int)) : Prop where
  bad : b.bad = (a.bad || !x)
  c : b.c = a.c
  A : b.A = a.A
  S : b.S = S
theorem Step.then {a b d : Chk} {x y : Bool} {S S' : List (ByteArray × Int)} (h : Step a b x S) (k : Step b d y S') : Step a d (x && y) S' :=
  ⟨by rw [k.bad, h.bad]; cases a.bad <;> cases x <;> cases y <;> rfl, k.c.trans h.c, k.A.trans h.A, k.S⟩
theorem Step.need (a : Chk) (x : Bool) : Step a (a.need x) x a.S := ⟨rfl, rfl, rfl, rfl⟩
theorem Step.ite {a b : Chk} {x : Bool} (u : Bool) (h : Step a b x a.S) : Step a (if u = true then b else a) (!u || x) a.S := by
  cases u
  · exact ⟨by simp, rfl, rfl, rfl⟩
  · exact ⟨by simp [h.bad], by simp [h.c], by simp [h.A], by simp [h.S]⟩
theorem flds_step (st : Chk) (s : GStmt) (hk : 0 ≤ s.Kind ∧ s.Kind < 15) : Step st (st.flds s) (fldB (lookA st.A) st.c.Flags st.c.Regs s && symOk st.S (stSym (lookA st.A) s)) (addSym st.S (stSym (lookA st.A) s)) := by
  unfold Chk.flds
  simp only
  have ulit : (useOf s.Kind).lit = decide (s.Kind = 0) := by
    obtain ⟨h1, h2⟩ := hk
    have : s.Kind = 0 ∨ s.Kind = 1 ∨ s.Kind = 2 ∨ s.Kind = 3 ∨ s.Kind = 4 ∨ s.Kind = 5 ∨ s.Kind = 6 ∨ s.Kind = 7 ∨ s.Kind = 8 ∨ s.Kind = 9 ∨ s.Kind = 10 ∨ s.Kind = 11 ∨ s.Kind = 12 ∨ s.Kind = 13 ∨ s.Kind = 14 := by omega
    rcases this with h | h | h | h | h | h | h | h | h | h | h | h | h | h | h <;> (rw [h]; rfl)
  have hfold : fldB (lookA st.A) st.c.Flags st.c.Regs s = (let u := useOf s.Kind
    zeroB s && (!u.f || inr st.c.Flags s.F) && (!(u.g && decide (s.Kind ≠ 4)) || inr st.c.Flags s.G) && (!decide (s.Kind = 4) || (decide (s.G = 0) || decide (s.G = 1))) && (!u.r || inr st.c.Regs s.R) && (decide (0 ≤ s.N) && decide (s.N ≤ 12)) && (!u.lit || litB (lookA st.A) st.c.Regs s.Lit) && inB st.c.Regs s.Regs && (!u.name || (lookA st.A s.Name).isSome) && (!u.regs || decide ((lookA st.A s.Name).getD 0 = s.Regs.length)) && (!u.frm || (lookA st.A s.From).isSome && decide ((lookA st.A s.Name).getD 0 = (lookA st.A s.From).getD 0))) := rfl
  rw [hfold]
  simp only
  obtain ⟨u, hu⟩ : ∃ u, u = useOf s.Kind := ⟨_, rfl⟩
  rw [← hu] at ulit ⊢
  obtain ⟨a1, e1⟩ : ∃ x, x = st.need (zeroB s) := ⟨_, rfl⟩
  rw [← e1]
  obtain ⟨a2, e2⟩ : ∃ x, x = (if u.f = true then a1.flag s.F else a1) := ⟨_, rfl⟩
  rw [← e2]
  obtain ⟨a3, e3⟩ : ∃ x, x = (if (u.g && decide (s.Kind ≠ 4)) = true then a2.flag s.G else a2) := ⟨_, rfl⟩
  rw [← e3]
  obtain ⟨a4, e4⟩ : ∃ x, x = (if s.Kind = 4 then a3.need (decide (s.G = 0) || decide (s.G = 1)) else a3) := ⟨_, rfl⟩
  rw [← e4]
  obtain ⟨a5, e5⟩ : ∃ x, x = (if u.r = true then a4.regs [s.R] else a4) := ⟨_, rfl⟩
  rw [← e5]
  obtain ⟨a6, e6⟩ : ∃ x, x = (a5.need (decide (0 ≤ s.N) && decide (s.N ≤ 12))) := ⟨_, rfl⟩
  rw [← e6]
  obtain ⟨a7, e7⟩ : ∃ x, x = (if u.lit = true then a6.lit s.Lit else a6) := ⟨_, rfl⟩
  rw [← e7]
  obtain ⟨a8, e8⟩ : ∃ x, x = (a7.regs s.Regs) := ⟨_, rfl⟩
  rw [← e8]
  obtain ⟨a9, e9⟩ : ∃ x, x = a8.need (!u.name || (lookA a8.A s.Name).isSome) := ⟨_, rfl⟩
  rw [← e9]
  obtain ⟨a10, e10⟩ : ∃ x, x = a9.need (!u.regs || decide ((lookA a8.A s.Name).getD 0 = s.Regs.length)) := ⟨_, rfl⟩
  rw [← e10]
  have x1 : Step st a1 (zeroB s) st.S := by rw [e1]; exact Step.need _ _
  have x2 : Step a1 a2 (!u.f || inr st.c.Flags s.F) a1.S := by rw [e2, ← x1.c]; exact Step.ite _ (Step.need _ _)
  have y2 := x1.then x2
  have x3 : Step a2 a3 (!(u.g && decide (s.Kind ≠ 4)) || inr st.c.Flags s.G) a2.S := by rw [e3, ← y2.c]; exact Step.ite _ (Step.need _ _)
  have y3 := y2.then x3
  have x4 : Step a3 a4 (!decide (s.Kind = 4) || (decide (s.G = 0) || decide (s.G = 1))) a3.S := by
    have : a4 = (if decide (s.Kind = 4) = true then a3.need (decide (s.G = 0) || decide (s.G = 1)) else a3) := by rw [e4]; simp only [dT]
    rw [this]; exact Step.ite _ (Step.need _ _)
  have y4 := y3.then x4
  have x5 : Step a4 a5 (!u.r || inr st.c.Regs s.R) a4.S := by
    rw [e5, ← y4.c]
    have h := regs_bad [s.R] a4
    have hi : inB a4.c.Regs [s.R] = inr a4.c.Regs s.R := by simp [inB]
    rw [hi] at h
    exact Step.ite _ ⟨h.1, h.2.1, h.2.2.1, h.2.2.2⟩
  have y5 := y4.then x5
  have x6 : Step a5 a6 (decide (0 ≤ s.N) && decide (s.N ≤ 12)) a5.S := by rw [e6]; exact Step.need _ _
  have y6 := y5.then x6
  have hS6 : a6.S = st.S := by rw [x6.S, x5.S, x4.S, x3.S, x2.S, x1.S]
  have x7 : Step a6 a7 ((!u.lit || litB (lookA st.A) st.c.Regs s.Lit) && symOk st.S (stSym (lookA st.A) s)) (addSym st.S (stSym (lookA st.A) s)) := by
    have h := lit_bad a6 s.Lit
    rw [y6.c, y6.A, hS6] at h
    rw [e7, stSym]
    by_cases hz : s.Kind = 0
    · rw [ulit, if_pos hz, hz]
      simp only [decide_true, if_true, Bool.not_true, Bool.false_or]
      exact ⟨h.1, h.2.1.trans y6.c.symm, h.2.2.1.trans y6.A.symm, h.2.2.2⟩
    · rw [ulit, if_neg hz]
      simp only [hz, decide_false, Bool.false_eq_true, if_false, Bool.not_false, Bool.true_or, symOk, addSym, Bool.and_true]
      exact ⟨by simp, rfl, rfl, hS6⟩
  have y7 := y6.then x7
  have x8 : Step a7 a8 (inB st.c.Regs s.Regs) (addSym st.S (stSym (lookA st.A) s)) := by
    rw [e8, ← y7.c]
    have h := regs_bad s.Regs a7
    exact ⟨h.1, h.2.1, h.2.2.1, h.2.2.2.trans x7.S⟩
  have y8 := y7.then x8
  have x9 : Step a8 a9 (!u.name || (lookA st.A s.Name).isSome) (addSym st.S (stSym (lookA st.A) s)) := by rw [e9, y8.A]; exact ⟨rfl, rfl, rfl, x8.S⟩
  have y9 := y8.then x9
  have x10 : Step a9 a10 (!u.regs || decide ((lookA st.A s.Name).getD 0 = s.Regs.length)) (addSym st.S (stSym (lookA st.A) s)) := by rw [e10, y8.A]; exact ⟨rfl, rfl, rfl, x9.S⟩
  have y10 := y9.then x10
  have x11 : Step a10 (if u.frm = true then a10.need ((lookA a10.A s.From).isSome && decide ((lookA a8.A s.Name).getD 0 = (lookA a10.A s.From).getD 0)) else a10) (!u.frm || (lookA st.A s.From).isSome && decide ((lookA st.A s.Name).getD 0 = (lookA st.A s.From).getD 0)) a10.S := by
    rw [y10.A, y8.A]; exact Step.ite _ (Step.need _ _)
  have y11 := y10.then x11
  refine ⟨?_, y11.c, y11.A, y11.S.trans x10.S⟩
  rw [y11.bad]
  congr 1
  congr 1
  generalize symOk st.S (stSym (lookA st.A) s) = q
  generalize (!u.frm || (lookA st.A s.From).isSome && decide ((lookA st.A s.Name).getD 0 = (lookA st.A s.From).getD 0)) = b11
  generalize (!u.regs || decide ((lookA st.A s.Name).getD 0 = s.Regs.length)) = b10
  generalize (!u.name || (lookA st.A s.Name).isSome) = b9
  generalize inB st.c.Regs s.Regs = b8
  generalize (!u.lit || litB (lookA st.A) st.c.Regs s.Lit) = b7
  cases q <;> simp
structure Env where
  n : Int
  G : List Bool
  fuel : Int
structure MS where
  flags : List Bool
  regs : List Int
  rels : ByteArray → List Bool
  used : Int
  steps : Int
structure Blk where
  mb : Nat
  fb : Nat
  rb : Nat
  lb : Nat
  ub : Nat
  names : List ByteArray
  bk : ByteArray → Nat
  gl : MG
  gu : MG
def runKV : List (AV × AV) := [(.int .i64 0, .fn 59 []), (.int .i64 1, .fn 61 []), (.int .i64 2, .fn 62 []), (.int .i64 3, .fn 63 []), (.int .i64 4, .fn 64 []), (.int .i64 5, .fn 65 []), (.int .i64 6, .fn 66 []), (.int .i64 7, .fn 68 []), (.int .i64 8, .fn 69 []), (.int .i64 9, .fn 70 []), (.int .i64 10, .fn 71 []), (.int .i64 11, .fn 73 []), (.int .i64 12, .fn 74 []), (.int .i64 13, .fn 75 []), (.int .i64 14, .fn 76 [])]
def oslv (q : Nat × Nat) : AV := .osl q.1 q.2 q.2
def relA (B : Blk) (m : MS) : List (ByteArray × (Nat × Nat)) := B.names.map fun k => (k, (B.bk k, (m.rels k).length))
def MS.box (E : Env) (B : Blk) (m : MS) : AV := .st [.int .i64 E.n, .osl B.fb m.flags.length m.flags.length, .osl B.rb m.regs.length m.regs.length, .map B.lb, bools E.G, .int .i64 m.used, .int .i64 m.steps, .int .i64 E.fuel, .map B.ub]
def MS.ah (E : Env) (B : Blk) (m : MS) : AH := .box B.mb (m.box E B) :: .row B.fb (m.flags.map bav) :: .row B.rb (m.regs.map iav) :: .map B.lb (kvW oslv (relA B m)) B.gl :: .map B.ub runKV B.gu :: B.names.map fun k => .row (B.bk k) ((m.rels k).map bav)
def upd (f : ByteArray → List Bool) (k : ByteArray) (xs : List Bool) : ByteArray → List Bool := fun k' => if k' = k then xs else f k'
theorem upd_same (f : ByteArray → List Bool) (k : ByteArray) (xs : List Bool) : upd f k xs k = xs := by simp [upd]
theorem upd_ne (f : ByteArray → List Bool) {k k' : ByteArray} (xs : List Bool) (h : k' ≠ k) : upd f k xs k' = f k' := by simp [upd, h]
theorem look_rel (B : Blk) (m : MS) {k : ByteArray} (h : k ∈ B.names) : lookA (relA B m) k = some (B.bk k, (m.rels k).length) := by
  unfold relA
  generalize B.names = l at h
  induction l with
  | nil => cases h
  | cons a l ih =>
    simp only [List.map_cons, lookA]
    by_cases hk : k = a
    · subst hk; simp
    · rw [if_neg hk]; exact ih (by simpa [hk] using h)
theorem row_at (E : Env) (B : Blk) (m : MS) {k : ByteArray} (h : k ∈ B.names) : ∃ j, B.names[j]? = some k ∧ (m.ah E B)[j + 5]? = some (.row (B.bk k) ((m.rels k).map bav)) := by
  obtain ⟨j, hj⟩ := List.getElem?_of_mem h
  exact ⟨j, hj, by show (B.names.map _)[j]? = _; rw [List.getElem?_map, hj]; rfl⟩
theorem map_set {α β : Type} [DecidableEq α] {l : List α} (hn : l.Nodup) {f g : α → β} {j : Nat} {k : α} (hj : l[j]? = some k) (h : ∀ a, a ≠ k → g a = f a) : (l.map f).set j (g k) = l.map g := by
  induction l generalizing j with
  | nil => cases hj
  | cons a l ih =>
    rw [List.nodup_cons] at hn
    cases j with
    | zero =>
      simp only [List.getElem?_cons_zero, Option.some.injEq] at hj
      subst hj
      simp only [List.map_cons, sB]
      congr 1
      exact List.map_congr_left fun b hb => (h b fun e => hn.1 (e ▸ hb)).symm
    | succ j =>
      simp only [List.getElem?_cons_succ] at hj
      simp only [List.map_cons, sA]
      rw [ih hn.2 hj, h a fun e => hn.1 (by rw [e]; exact lG hj)]
theorem ah_setrow (E : Env) (B : Blk) (m : MS) {k : ByteArray} {j : Nat} (hn : B.names.Nodup) (hj : B.names[j]? = some k) (xs : List Bool) (hl : xs.length = (m.rels k).length) :
    (m.ah E B).set (j + 5) (.row (B.bk k) (xs.map bav)) = ({ m with rels := upd m.rels k xs } : MS).ah E B := by
  have h1 : relA B { m with rels := upd m.rels k xs } = relA B m := by
    unfold relA
    refine List.map_congr_left fun a _ => ?_
    by_cases ha : a = k
    · subst ha; simp [upd_same, hl]
    · simp [upd_ne _ _ ha]
  unfold MS.ah
  rw [h1]
  simp only [sA]
  have := map_set (f := fun k => Own.row (B.bk k) ((m.rels k).map bav)) (g := fun a => Own.row (B.bk a) ((upd m.rels k xs a).map bav)) hn hj (fun a ha => by simp [upd_ne _ _ ha])
  simp only [upd_same] at this
  rw [this]
  rfl
def regAt (regs : List Int) (x : Int) : Int := (regs[x.toNat]?).getD 0
def flagAt (fl : List Bool) (x : Int) : Bool := (fl[x.toNat]?).getD false
def rankM (n : Int) (regs : List Int) : List Int → Int → Int
  | [], r => r
  | x :: l, r => rankM n regs l (r * n + regAt regs x)
def holdsM (n : Int) (m : MS) (l : GLit) : Bool :=
  (if l.Kind = 0 then flagAt (m.rels l.Name) (rankM n m.regs l.At 0) else if l.Kind = 1 then decide (regAt m.regs (l.At.getD 0 0) = regAt m.regs (l.At.getD 1 0)) else decide (regAt m.regs (l.At.getD 0 0) < regAt m.regs (l.At.getD 1 0))) != l.Neg
def MS.setF (m : MS) (f : Int) (b : Bool) : MS := { m with flags := m.flags.set f.toNat b }
def prim (n : Int) (s : GStmt) (m : MS) : MS :=
  if s.Kind = 0 then m.setF s.F (holdsM n m s.Lit)
  else if s.Kind = 1 then m.setF s.F (!flagAt m.flags s.G)
  else if s.Kind = 2 then m.setF s.F (flagAt m.flags s.F && flagAt m.flags s.G)
  else if s.Kind = 3 then m.setF s.F (flagAt m.flags s.F || flagAt m.flags s.G)
  else if s.Kind = 4 then m.setF s.F (decide (s.G = 1))
  else if s.Kind = 5 then m.setF s.F (flagAt m.flags s.G)
  else if s.Kind = 6 then { m with rels := upd m.rels s.Name ((m.rels s.Name).set (rankM n m.regs s.Regs 0).toNat (flagAt m.flags s.F)) }
  else if s.Kind = 11 then { m with rels := upd m.rels s.Name (List.replicate (m.rels s.Name).length false) }
  else if s.Kind = 13 then { m with rels := upd m.rels s.Name (m.rels s.From) }
  else m.setF s.F (decide (m.rels s.Name = m.rels s.From))
def isPrim (k : Int) : Prop := 0 ≤ k ∧ k ≤ 6 ∨ k = 11 ∨ k = 13 ∨ k = 14
structure Fit (F R : Nat) (sig : ByteArray → Option Nat) (s : GStmt) : Prop where
  kind : 0 ≤ s.Kind ∧ s.Kind < 15
  f : (useOf s.Kind).f = true → 0 ≤ s.F ∧ s.F < F
  g : (useOf s.Kind).g = true → s.Kind ≠ 4 → 0 ≤ s.G ∧ s.G < F
  r : (useOf s.Kind).r = true → 0 ≤ s.R ∧ s.R < R
  n : 0 ≤ s.N ∧ s.N ≤ 12
  name : (useOf s.Kind).name = true → ∃ a, sig s.Name = some a
  store : (useOf s.Kind).regs = true → sig s.Name = some s.Regs.length
  regs : ∀ x ∈ s.Regs, 0 ≤ x ∧ x < R
  frm : (useOf s.Kind).frm = true → sig s.From = sig s.Name
  lit : (useOf s.Kind).lit = true → (∀ x ∈ s.Lit.At, 0 ≤ x ∧ x < R) ∧ (if s.Lit.Kind = 1 ∨ s.Lit.Kind = 2 then s.Lit.At.length = 2 else s.Lit.Kind = 0 ∧ sig s.Lit.Name = some s.Lit.At.length)
inductive SFit (F R : Nat) (sig : ByteArray → Option Nat) : GStmt → Prop
  | mk {s : GStmt} (h : Fit F R sig s) (hb : ∀ x ∈ s.Body, SFit F R sig x) (he : ∀ x ∈ s.Else, SFit F R sig x) : SFit F R sig s
structure MFit (F R : Nat) (sig : ByteArray → Option Nat) (E : Env) (B : Blk) (m : MS) : Prop where
  n : 1 ≤ E.n ∧ E.n ≤ 64
  fuel : 0 ≤ E.fuel ∧ E.fuel ≤ 10000000
  glen : E.G.length ≤ 4611686018427387904
  flen : m.flags.length = F
  fl : 1 ≤ F ∧ F ≤ 1000
  rlen : m.regs.length = R
  rl : R ≤ 60
  regs : ∀ x ∈ m.regs, 0 ≤ x ∧ x < E.n
  used : 0 ≤ m.used ∧ m.used ≤ E.G.length
  steps : 0 ≤ m.steps ∧ m.steps ≤ E.fuel
  nodup : B.names.Nodup
  sig : ∀ k a, sig k = some a → k ∈ B.names ∧ ((m.rels k).length : Int) = E.n ^ a ∧ E.n ^ a ≤ 4096
section
variable {F R : Nat} {sig : ByteArray → Option Nat} {E : Env} {B : Blk} {m : MS}
theorem flag_get {fl : List Bool} {x : Int} (h : 0 ≤ x ∧ x < fl.length) : (fl.map bav)[x.toNat]? = some (.bool (flagAt fl x)) := by
  obtain ⟨b, hb⟩ := get_lt (show x.toNat < fl.length by omega)
  rw [map_get hb, flagAt, hb]; rfl
theorem reg_get {regs : List Int} {x : Int} (h : 0 ≤ x ∧ x < regs.length) : (regs.map iav)[x.toNat]? = some (.int .i64 (regAt regs x)) := by
  obtain ⟨b, hb⟩ := get_lt (show x.toNat < regs.length by omega)
  rw [map_get hb, regAt, hb]; rfl
theorem reg_bd {n : Int} {regs : List Int} {x : Int} (h : 0 ≤ x ∧ x < regs.length) (hr : ∀ r ∈ regs, 0 ≤ r ∧ r < n) : 0 ≤ regAt regs x ∧ regAt regs x < n := by
  obtain ⟨b, hb⟩ := get_lt (show x.toNat < regs.length by omega)
  rw [regAt, hb]
  exact hr b (lG hb)
theorem rankM_bd {n : Int} {regs : List Int} (hn : 1 ≤ n) (hr : ∀ r ∈ regs, 0 ≤ r ∧ r < n) : ∀ (l : List Int) (r : Int) (i : Nat), (∀ x ∈ l, 0 ≤ x ∧ x < regs.length) → 0 ≤ r → r < n ^ i → 0 ≤ rankM n regs l r ∧ rankM n regs l r < n ^ (i + l.length)
  | [], r, i, _, h0, h1 => ⟨h0, by simpa [rankM] using h1⟩
  | x :: l, r, i, hl, h0, h1 => by
    have hb := reg_bd (hl x (by simp)) hr
    have h2 : 0 ≤ r * n := Int.mul_nonneg h0 (by omega)
    have h3 : r * n + n ≤ n ^ (i + 1) := by
      rw [Int.pow_succ]
      have := Int.mul_le_mul_of_nonneg_right (show r + 1 ≤ n ^ i by omega) (show 0 ≤ n by omega)
      rw [Int.add_mul] at this; omega
    have := rankM_bd hn hr l (r * n + regAt regs x) (i + 1) (fun y hy => hl y (by simp [hy])) (by omega) (by omega)
    rw [rankM]
    rw [show i + (x :: l).length = i + 1 + l.length by simp; omega]
    exact this
theorem mach_rank (hm : MFit F R sig E B m) (l : List Int) (hl : ∀ x ∈ l, 0 ≤ x ∧ x < R) (hp : E.n ^ l.length ≤ 4096) (hll : l.length ≤ 4611686018427387904) :
    Tri Tryz.prog 67 [.ref B.mb 0, ints l] (m.ah E B) (D (.int .i64 (rankM E.n m.regs l 0)) (m.ah E B)) := by
  have hn := hm.n
  have hrl := hm.rlen
  refine Tri.enter 30 Tryz.func67 rfl rfl rfl rfl fun Fr w0 => ?_
  repeat' (first | refine AW.re 0 1 ?_ | refine AW.re 1 1 ?_ | refine AW.re 2 3 ?_ | refine AW.jt ?_ | refine AW.jf ?_ | refine AW.jj (fun hb => ?_) (fun hb => ?_) | refine AW.go ?_ | fail)
  refine AW.prune [0, 5, 8, 9, 10] (AW.loop (fun k af h => ∃ (i : Nat) (r : Int), i ≤ l.length ∧ k = l.length - i ∧ af = [(0, .ref B.mb 0), (5, .int .i64 r), (8, ints l), (9, .int .i64 (l.map iav).length), (10, .int .i64 i)] ∧ h = m.ah E B ∧ 0 ≤ r ∧ r < E.n ^ i ∧ rankM E.n m.regs l 0 = rankM E.n m.regs (l.drop i) r) l.length ⟨0, 0, Nat.zero_le _, rfl, rfl, rfl, by omega, by simp, rfl⟩ ?_)
  rintro k af h ⟨i, r, hi, rfl, rfl, rfl, r0, r1, he⟩
  refine AW.seq ?_
  by_cases hlt : i < l.length
  · obtain ⟨x, hx⟩ := get_lt hlt
    have hx' : (l.map iav)[((i : Nat) : Int).toNat]? = some (iav x) := map_get hx
    have hxr := hl x (lG hx)
    have hrg := reg_get (regs := m.regs) (x := x) (by omega)
    have hbd := reg_bd (n := E.n) (regs := m.regs) (x := x) (by omega) hm.regs
    rw [drop_cons hx, rankM] at he
    have h3 : r * E.n + E.n ≤ E.n ^ (i + 1) := by
      rw [Int.pow_succ]
      have := Int.mul_le_mul_of_nonneg_right (show r + 1 ≤ E.n ^ i by omega) (show 0 ≤ E.n by omega)
      rw [Int.add_mul] at this; omega
    have hle := pow_le_of hn.1 (show i + 1 ≤ l.length by omega)
    have hnn : 0 ≤ r * E.n := Int.mul_nonneg r0 (by omega)
    repeat' (first | refine AW.re 3 1 ?_ | (refine AW.r 4 ?_; (first | refine AL.d (iX hx') ?_ | refine AL.d (AOp.index_osl rfl rfl (by omega) (by omega) (by kernel_rfl)) ?_) <;> (first | refine AL.d (AOp.load_cell 2 rfl rfl hrg rfl (by kernel_rfl)) ?_ | refine AL.d AOp.la ?_ | refine AL.d (AOp.ll 0) ?_) <;> refine AL.es 1 ?_ <;> refine AL.nil ?_) | (refine AW.dq 5 ?_; refine AQ.es 3 ?_; (first | refine AQ.p rfl AOp.fa ?_ | refine AQ.p rfl (AOp.fr 0) ?_) <;> (first | refine AQ.p rfl (AOp.load_cell 2 rfl rfl hrg rfl (by kernel_rfl)) ?_ | refine AQ.p rfl AOp.la ?_ | refine AQ.p rfl (AOp.ll 0) ?_) <;> refine AQ.p rfl (AOp.mul rfl rfl (by omega)) ?_ <;> refine AQ.es 2 ?_ <;> (first | refine AQ.p rfl AOp.fa ?_ | refine AQ.p rfl (AOp.fr 2) ?_) <;> (first | refine AQ.p rfl (AOp.load_cell 2 rfl rfl hrg rfl (by kernel_rfl)) ?_ | refine AQ.p rfl AOp.la ?_ | refine AQ.p rfl (AOp.ll 0) ?_) <;> refine AQ.es 1 ?_ <;> (first | refine AQ.p rfl (iX hx') ?_ | refine AQ.p rfl (AOp.index_osl rfl rfl (by omega) (by omega) (by kernel_rfl)) ?_) <;> (first | refine AQ.p rfl (AOp.load_cell 2 rfl rfl hrg rfl (by kernel_rfl)) ?_ | refine AQ.p rfl AOp.la ?_ | refine AQ.p rfl (AOp.ll 0) ?_) <;> (first | refine AQ.p rfl (AOp.mul rfl rfl (by omega)) ?_ | refine AQ.p rfl AOp.ad ?_) <;> refine AQ.es 1 ?_ <;> refine AQ.nil ?_) | (refine AW.r 6 ?_; (first | refine AL.d (AOp.mul rfl rfl (by omega)) ?_ | refine AL.d AOp.ad ?_) <;> refine AL.es 1 ?_ <;> refine AL.nil ?_) | refine AW.jt ?_ | refine AW.jf ?_ | refine AW.jj (fun hb => ?_) (fun hb => ?_) | refine AW.go ?_ | fail)
    all_goals first
      | (exfalso; simp only [dT, dF, lM] at *; omega)
      | exact AW.again_keep (l.length - (i + 1)) [0, 5, 8, 9, 10] (by omega) ⟨i + 1, _, hlt, rfl, rfl, rfl, by omega, by omega, he⟩
  · rw [List.drop_eq_nil_of_le (by omega), rankM] at he
    repeat' (first | refine AW.re 3 1 ?_ | refine AW.re 7 2 ?_ | refine AW.jt ?_ | refine AW.jf ?_ | refine AW.jj (fun hb => ?_) (fun hb => ?_) | refine AW.go ?_ | fail)
    all_goals first
      | (exfalso; simp only [dT, dF, lM] at *; omega)
      | exact AW.donev rfl ⟨by rw [he], rfl⟩
      | exact AW.retv rfl ⟨by rw [he], rfl⟩
theorem ah_setflag (E : Env) (B : Blk) (m : MS) (f : Int) (b : Bool) : (m.ah E B).set 1 (.row B.fb ((m.flags.map bav).set f.toNat (.bool b))) = (m.setF f b).ah E B := by
  have h : (m.flags.map bav).set f.toNat (.bool b) = (m.flags.set f.toNat b).map bav := by rw [List.map_set]; rfl
  have h2 : (m.flags.set f.toNat b).length = m.flags.length := by simp
  simp only [MS.ah, MS.setF, MS.box, sA, sB, h, h2]
  rfl
theorem mach_1 (hm : MFit F R sig E B m) (s : GStmt) (hs : Fit F R sig s) (hk : s.Kind = 1) : Tri Tryz.prog 61 [.ref B.mb 0, s.st] (m.ah E B) (D (.tup []) ((prim E.n s m).ah E B)) := by
  have hf := hs.f (by rw [hk]; rfl)
  have hg := hs.g (by rw [hk]; rfl) (by omega)
  have hfl := hm.flen
  have g1 := flag_get (fl := m.flags) (x := s.G) (by omega)
  refine Tri.enter 20 Tryz.func61 rfl rfl rfl rfl fun Fr w0 => ?_
  repeat' (first | (refine AW.r 0 ?_; refine AL.d (AOp.box_ro rfl rfl) ?_; refine AL.nil ?_) | (refine AW.dl 1 16 ?_; refine AQ.es 2 ?_; (first | refine AQ.p rfl AOp.fa ?_ | refine AQ.p rfl (AOp.fr 1) ?_) <;> (first | refine AQ.p rfl (AOp.load_cell 1 rfl rfl g1 rfl (by kernel_rfl)) ?_ | refine AQ.p rfl AOp.la ?_ | refine AQ.p rfl (AOp.ll 0) ?_) <;> (first | refine AQ.p rfl AOp.fa ?_ | refine AQ.p rfl (AOp.fr 1) ?_) <;> (first | refine AQ.p rfl (AOp.load_cell 1 rfl rfl g1 rfl (by kernel_rfl)) ?_ | refine AQ.p rfl AOp.la ?_ | refine AQ.p rfl (AOp.ll 0) ?_) <;> refine AQ.es 2 ?_ <;> (first | refine AQ.p rfl AOp.fa ?_ | refine AQ.p rfl (AOp.fr 1) ?_) <;> (first | refine AQ.p rfl (AOp.load_cell 1 rfl rfl g1 rfl (by kernel_rfl)) ?_ | refine AQ.p rfl AOp.la ?_ | refine AQ.p rfl (AOp.ll 0) ?_) <;> (first | refine AQ.p rfl AOp.fa ?_ | refine AQ.p rfl (AOp.fr 2) ?_) <;> (first | refine AQ.p rfl (AOp.load_cell 1 rfl rfl g1 rfl (by kernel_rfl)) ?_ | refine AQ.p rfl AOp.la ?_ | refine AQ.p rfl (AOp.ll 0) ?_) <;> refine AQ.p rfl (AOp.index_osl rfl rfl (by omega) (by omega) (by kernel_rfl)) ?_ <;> (first | refine AQ.p rfl (AOp.load_cell 1 rfl rfl g1 rfl (by kernel_rfl)) ?_ | refine AQ.p rfl AOp.la ?_ | refine AQ.p rfl (AOp.ll 0) ?_) <;> refine AQ.es 1 ?_ <;> refine AQ.p rfl (AOp.index_osl rfl rfl (by omega) (by omega) (by kernel_rfl)) ?_ <;> refine AQ.nil ?_ <;> (first | (refine AL.store_cell 1 rfl rfl rfl (by simp; omega) rfl rfl (by kernel_rfl) ?_) | refine AL.sl 0 ?_) <;> refine AL.nil ?_) | refine AW.jt ?_ | refine AW.jf ?_ | refine AW.jj (fun hb => ?_) (fun hb => ?_) | refine AW.go ?_ | fail)
  exact AW.donev rfl ⟨rfl, by rw [ah_setflag]; simp [prim, hk]⟩
theorem mach_2 (hm : MFit F R sig E B m) (s : GStmt) (hs : Fit F R sig s) (hk : s.Kind = 2) : Tri Tryz.prog 62 [.ref B.mb 0, s.st] (m.ah E B) (D (.tup []) ((prim E.n s m).ah E B)) := by
  have hf := hs.f (by rw [hk]; rfl)
  have hfl := hm.flen
  have hg := hs.g (by rw [hk]; rfl) (by omega)
  have g1 := flag_get (fl := m.flags) (x := s.G) (by omega)
  have g0 := flag_get (fl := m.flags) (x := s.F) (by omega)
  refine Tri.enter 29 Tryz.func62 rfl rfl rfl rfl fun Fr w0 => ?_
  repeat' (first | (refine AW.r 0 ?_; refine AL.d (AOp.box_ro rfl rfl) ?_; refine AL.nil ?_) | (refine AW.dl 1 25 ?_; refine AQ.es 2 ?_; (first | refine AQ.p rfl AOp.fa ?_ | refine AQ.p rfl (AOp.fr 1) ?_) <;> (first | refine AQ.p rfl (AOp.load_cell 1 rfl rfl g0 rfl (by kernel_rfl)) ?_ | refine AQ.p rfl (AOp.load_cell 1 rfl rfl g1 rfl (by kernel_rfl)) ?_ | refine AQ.p rfl AOp.la ?_ | refine AQ.p rfl (AOp.ll 0) ?_) <;> (first | refine AQ.p rfl AOp.fa ?_ | refine AQ.p rfl (AOp.fr 1) ?_) <;> (first | refine AQ.p rfl (AOp.load_cell 1 rfl rfl g0 rfl (by kernel_rfl)) ?_ | refine AQ.p rfl (AOp.load_cell 1 rfl rfl g1 rfl (by kernel_rfl)) ?_ | refine AQ.p rfl AOp.la ?_ | refine AQ.p rfl (AOp.ll 0) ?_) <;> refine AQ.es 2 ?_ <;> (first | refine AQ.p rfl AOp.fa ?_ | refine AQ.p rfl (AOp.fr 1) ?_) <;> (first | refine AQ.p rfl (AOp.load_cell 1 rfl rfl g0 rfl (by kernel_rfl)) ?_ | refine AQ.p rfl (AOp.load_cell 1 rfl rfl g1 rfl (by kernel_rfl)) ?_ | refine AQ.p rfl AOp.la ?_ | refine AQ.p rfl (AOp.ll 0) ?_) <;> (first | refine AQ.p rfl AOp.fa ?_ | refine AQ.p rfl (AOp.fr 1) ?_) <;> (first | refine AQ.p rfl (AOp.load_cell 1 rfl rfl g0 rfl (by kernel_rfl)) ?_ | refine AQ.p rfl (AOp.load_cell 1 rfl rfl g1 rfl (by kernel_rfl)) ?_ | refine AQ.p rfl AOp.la ?_ | refine AQ.p rfl (AOp.ll 0) ?_) <;> refine AQ.p rfl (AOp.index_osl rfl rfl (by omega) (by omega) (by kernel_rfl)) ?_ <;> (first | refine AQ.p rfl (AOp.load_cell 1 rfl rfl g0 rfl (by kernel_rfl)) ?_ | refine AQ.p rfl (AOp.load_cell 1 rfl rfl g1 rfl (by kernel_rfl)) ?_ | refine AQ.p rfl AOp.la ?_ | refine AQ.p rfl (AOp.ll 0) ?_) <;> refine AQ.es 1 ?_ <;> (first | refine AQ.es 2 ?_ | (refine AQ.y (fun hb => ?_) (fun hb => ?_) <;> refine AQ.es 2 ?_)) <;> (first | refine AQ.gp rfl AOp.fa ?_ | refine AQ.gp rfl (AOp.fr 1) ?_ | refine AQ.k ?_) <;> (first | refine AQ.gp rfl (AOp.load_cell 1 rfl rfl g0 rfl (by kernel_rfl)) ?_ | refine AQ.gp rfl (AOp.load_cell 1 rfl rfl g1 rfl (by kernel_rfl)) ?_ | refine AQ.gp rfl AOp.la ?_ | refine AQ.gp rfl (AOp.ll 0) ?_ | refine AQ.k ?_) <;> (first | refine AQ.gp rfl AOp.fa ?_ | refine AQ.gp rfl (AOp.fr 2) ?_ | refine AQ.k ?_) <;> (first | refine AQ.gp rfl (AOp.load_cell 1 rfl rfl g0 rfl (by kernel_rfl)) ?_ | refine AQ.gp rfl (AOp.load_cell 1 rfl rfl g1 rfl (by kernel_rfl)) ?_ | refine AQ.gp rfl AOp.la ?_ | refine AQ.gp rfl (AOp.ll 0) ?_ | refine AQ.k ?_) <;> (first | refine AQ.gp rfl (AOp.index_osl rfl rfl (by omega) (by omega) (by kernel_rfl)) ?_ | refine AQ.k ?_) <;> (first | refine AQ.gp rfl (AOp.load_cell 1 rfl rfl g0 rfl (by kernel_rfl)) ?_ | refine AQ.gp rfl (AOp.load_cell 1 rfl rfl g1 rfl (by kernel_rfl)) ?_ | refine AQ.gp rfl AOp.la ?_ | refine AQ.gp rfl (AOp.ll 0) ?_ | refine AQ.k ?_) <;> refine AQ.es 1 ?_ <;> refine AQ.p rfl (AOp.index_osl rfl rfl (by omega) (by omega) (by kernel_rfl)) ?_ <;> refine AQ.nil ?_ <;> (first | (refine AL.store_cell 1 rfl rfl rfl (by simp; omega) rfl rfl (by kernel_rfl) ?_) | refine AL.sl 0 ?_) <;> refine AL.nil ?_) | refine AW.jt ?_ | refine AW.jf ?_ | refine AW.jj (fun hb => ?_) (fun hb => ?_) | refine AW.go ?_ | fail)
  all_goals (refine AW.donev rfl ⟨rfl, ?_⟩; refine (ah_setflag E B m s.F _).trans ?_; simp [prim, hk, hb])
theorem mach_3 (hm : MFit F R sig E B m) (s : GStmt) (hs : Fit F R sig s) (hk : s.Kind = 3) : Tri Tryz.prog 63 [.ref B.mb 0, s.st] (m.ah E B) (D (.tup []) ((prim E.n s m).ah E B)) := by
  have hf := hs.f (by rw [hk]; rfl)
  have hfl := hm.flen
  have hg := hs.g (by rw [hk]; rfl) (by omega)
  have g1 := flag_get (fl := m.flags) (x := s.G) (by omega)
  have g0 := flag_get (fl := m.flags) (x := s.F) (by omega)
  refine Tri.enter 29 Tryz.func63 rfl rfl rfl rfl fun Fr w0 => ?_
  repeat' (first | (refine AW.r 0 ?_; refine AL.d (AOp.box_ro rfl rfl) ?_; refine AL.nil ?_) | (refine AW.dl 1 25 ?_; refine AQ.es 2 ?_; (first | refine AQ.p rfl AOp.fa ?_ | refine AQ.p rfl (AOp.fr 1) ?_) <;> (first | refine AQ.p rfl (AOp.load_cell 1 rfl rfl g0 rfl (by kernel_rfl)) ?_ | refine AQ.p rfl (AOp.load_cell 1 rfl rfl g1 rfl (by kernel_rfl)) ?_ | refine AQ.p rfl AOp.la ?_ | refine AQ.p rfl (AOp.ll 0) ?_) <;> (first | refine AQ.p rfl AOp.fa ?_ | refine AQ.p rfl (AOp.fr 1) ?_) <;> (first | refine AQ.p rfl (AOp.load_cell 1 rfl rfl g0 rfl (by kernel_rfl)) ?_ | refine AQ.p rfl (AOp.load_cell 1 rfl rfl g1 rfl (by kernel_rfl)) ?_ | refine AQ.p rfl AOp.la ?_ | refine AQ.p rfl (AOp.ll 0) ?_) <;> refine AQ.es 2 ?_ <;> (first | refine AQ.p rfl AOp.fa ?_ | refine AQ.p rfl (AOp.fr 1) ?_) <;> (first | refine AQ.p rfl (AOp.load_cell 1 rfl rfl g0 rfl (by kernel_rfl)) ?_ | refine AQ.p rfl (AOp.load_cell 1 rfl rfl g1 rfl (by kernel_rfl)) ?_ | refine AQ.p rfl AOp.la ?_ | refine AQ.p rfl (AOp.ll 0) ?_) <;> (first | refine AQ.p rfl AOp.fa ?_ | refine AQ.p rfl (AOp.fr 1) ?_) <;> (first | refine AQ.p rfl (AOp.load_cell 1 rfl rfl g0 rfl (by kernel_rfl)) ?_ | refine AQ.p rfl (AOp.load_cell 1 rfl rfl g1 rfl (by kernel_rfl)) ?_ | refine AQ.p rfl AOp.la ?_ | refine AQ.p rfl (AOp.ll 0) ?_) <;> refine AQ.p rfl (AOp.index_osl rfl rfl (by omega) (by omega) (by kernel_rfl)) ?_ <;> (first | refine AQ.p rfl (AOp.load_cell 1 rfl rfl g0 rfl (by kernel_rfl)) ?_ | refine AQ.p rfl (AOp.load_cell 1 rfl rfl g1 rfl (by kernel_rfl)) ?_ | refine AQ.p rfl AOp.la ?_ | refine AQ.p rfl (AOp.ll 0) ?_) <;> refine AQ.es 1 ?_ <;> (first | refine AQ.es 2 ?_ | (refine AQ.y (fun hb => ?_) (fun hb => ?_) <;> refine AQ.es 2 ?_)) <;> (first | refine AQ.gp rfl AOp.fa ?_ | refine AQ.gp rfl (AOp.fr 1) ?_ | refine AQ.k ?_) <;> (first | refine AQ.gp rfl (AOp.load_cell 1 rfl rfl g0 rfl (by kernel_rfl)) ?_ | refine AQ.gp rfl (AOp.load_cell 1 rfl rfl g1 rfl (by kernel_rfl)) ?_ | refine AQ.gp rfl AOp.la ?_ | refine AQ.gp rfl (AOp.ll 0) ?_ | refine AQ.k ?_) <;> (first | refine AQ.gp rfl AOp.fa ?_ | refine AQ.gp rfl (AOp.fr 2) ?_ | refine AQ.k ?_) <;> (first | refine AQ.gp rfl (AOp.load_cell 1 rfl rfl g0 rfl (by kernel_rfl)) ?_ | refine AQ.gp rfl (AOp.load_cell 1 rfl rfl g1 rfl (by kernel_rfl)) ?_ | refine AQ.gp rfl AOp.la ?_ | refine AQ.gp rfl (AOp.ll 0) ?_ | refine AQ.k ?_) <;> (first | refine AQ.gp rfl (AOp.index_osl rfl rfl (by omega) (by omega) (by kernel_rfl)) ?_ | refine AQ.k ?_) <;> (first | refine AQ.gp rfl (AOp.load_cell 1 rfl rfl g0 rfl (by kernel_rfl)) ?_ | refine AQ.gp rfl (AOp.load_cell 1 rfl rfl g1 rfl (by kernel_rfl)) ?_ | refine AQ.gp rfl AOp.la ?_ | refine AQ.gp rfl (AOp.ll 0) ?_ | refine AQ.k ?_) <;> refine AQ.es 1 ?_ <;> refine AQ.p rfl (AOp.index_osl rfl rfl (by omega) (by omega) (by kernel_rfl)) ?_ <;> refine AQ.nil ?_ <;> (first | (refine AL.store_cell 1 rfl rfl rfl (by simp; omega) rfl rfl (by kernel_rfl) ?_) | refine AL.sl 0 ?_) <;> refine AL.nil ?_) | refine AW.jt ?_ | refine AW.jf ?_ | refine AW.jj (fun hb => ?_) (fun hb => ?_) | refine AW.go ?_ | fail)
  all_goals (refine AW.donev rfl ⟨rfl, ?_⟩; refine (ah_setflag E B m s.F _).trans ?_; simp [prim, hk, hb])
theorem mach_4 (hm : MFit F R sig E B m) (s : GStmt) (hs : Fit F R sig s) (hk : s.Kind = 4) : Tri Tryz.prog 64 [.ref B.mb 0, s.st] (m.ah E B) (D (.tup []) ((prim E.n s m).ah E B)) := by
  have hf := hs.f (by rw [hk]; rfl)
  have hfl := hm.flen
  refine Tri.enter 14 Tryz.func64 rfl rfl rfl rfl fun Fr w0 => ?_
  repeat' (first | (refine AW.r 0 ?_; refine AL.d (AOp.box_ro rfl rfl) ?_; refine AL.nil ?_) | (refine AW.dl 1 10 ?_; refine AQ.es 2 ?_; (first | refine AQ.p rfl AOp.fa ?_ | refine AQ.p rfl (AOp.fr 1) ?_) <;> (first | refine AQ.p rfl AOp.la ?_ | refine AQ.p rfl (AOp.ll 0) ?_) <;> (first | refine AQ.p rfl AOp.fa ?_ | refine AQ.p rfl (AOp.fr 1) ?_) <;> (first | refine AQ.p rfl AOp.la ?_ | refine AQ.p rfl (AOp.ll 0) ?_) <;> (first | refine AQ.p rfl AOp.fa ?_ | refine AQ.p rfl (AOp.fr 2) ?_) <;> (first | refine AQ.p rfl AOp.la ?_ | refine AQ.p rfl (AOp.ll 0) ?_) <;> refine AQ.es 1 ?_ <;> refine AQ.p rfl (AOp.index_osl rfl rfl (by omega) (by omega) (by kernel_rfl)) ?_ <;> refine AQ.nil ?_ <;> (first | (refine AL.store_cell 1 rfl rfl rfl (by simp; omega) rfl rfl (by kernel_rfl) ?_) | refine AL.sl 0 ?_) <;> refine AL.nil ?_) | refine AW.jt ?_ | refine AW.jf ?_ | refine AW.jj (fun hb => ?_) (fun hb => ?_) | refine AW.go ?_ | fail)
  exact AW.donev rfl ⟨rfl, by rw [ah_setflag]; simp [prim, hk, ieq]⟩
theorem mach_5 (hm : MFit F R sig E B m) (s : GStmt) (hs : Fit F R sig s) (hk : s.Kind = 5) : Tri Tryz.prog 65 [.ref B.mb 0, s.st] (m.ah E B) (D (.tup []) ((prim E.n s m).ah E B)) := by
  have hf := hs.f (by rw [hk]; rfl)
  have hfl := hm.flen
  have hg := hs.g (by rw [hk]; rfl) (by omega)
  have g1 := flag_get (fl := m.flags) (x := s.G) (by omega)
  refine Tri.enter 19 Tryz.func65 rfl rfl rfl rfl fun Fr w0 => ?_
  repeat' (first | (refine AW.r 0 ?_; refine AL.d (AOp.box_ro rfl rfl) ?_; refine AL.nil ?_) | (refine AW.dl 1 15 ?_; refine AQ.es 2 ?_; (first | refine AQ.p rfl AOp.fa ?_ | refine AQ.p rfl (AOp.fr 1) ?_) <;> (first | refine AQ.p rfl (AOp.load_cell 1 rfl rfl g1 rfl (by kernel_rfl)) ?_ | refine AQ.p rfl AOp.la ?_ | refine AQ.p rfl (AOp.ll 0) ?_) <;> (first | refine AQ.p rfl AOp.fa ?_ | refine AQ.p rfl (AOp.fr 1) ?_) <;> (first | refine AQ.p rfl (AOp.load_cell 1 rfl rfl g1 rfl (by kernel_rfl)) ?_ | refine AQ.p rfl AOp.la ?_ | refine AQ.p rfl (AOp.ll 0) ?_) <;> refine AQ.es 2 ?_ <;> (first | refine AQ.p rfl AOp.fa ?_ | refine AQ.p rfl (AOp.fr 1) ?_) <;> (first | refine AQ.p rfl (AOp.load_cell 1 rfl rfl g1 rfl (by kernel_rfl)) ?_ | refine AQ.p rfl AOp.la ?_ | refine AQ.p rfl (AOp.ll 0) ?_) <;> (first | refine AQ.p rfl AOp.fa ?_ | refine AQ.p rfl (AOp.fr 2) ?_) <;> (first | refine AQ.p rfl (AOp.load_cell 1 rfl rfl g1 rfl (by kernel_rfl)) ?_ | refine AQ.p rfl AOp.la ?_ | refine AQ.p rfl (AOp.ll 0) ?_) <;> refine AQ.p rfl (AOp.index_osl rfl rfl (by omega) (by omega) (by kernel_rfl)) ?_ <;> (first | refine AQ.p rfl (AOp.load_cell 1 rfl rfl g1 rfl (by kernel_rfl)) ?_ | refine AQ.p rfl AOp.la ?_ | refine AQ.p rfl (AOp.ll 0) ?_) <;> refine AQ.p rfl (AOp.index_osl rfl rfl (by omega) (by omega) (by kernel_rfl)) ?_ <;> refine AQ.nil ?_ <;> (first | (refine AL.store_cell 1 rfl rfl rfl (by simp; omega) rfl rfl (by kernel_rfl) ?_) | refine AL.sl 0 ?_) <;> refine AL.nil ?_) | refine AW.jt ?_ | refine AW.jf ?_ | refine AW.jj (fun hb => ?_) (fun hb => ?_) | refine AW.go ?_ | fail)
  exact AW.donev rfl ⟨rfl, by rw [ah_setflag]; simp [prim, hk]⟩
theorem mach_11 (hm : MFit F R sig E B m) (s : GStmt) (hs : Fit F R sig s) (hk : s.Kind = 11) : Tri Tryz.prog 73 [.ref B.mb 0, s.st] (m.ah E B) (D (.tup []) ((prim E.n s m).ah E B)) := by
  obtain ⟨a, ha⟩ := hs.name (by rw [hk]; rfl)
  obtain ⟨hin, hlen, hle⟩ := hm.sig _ _ ha
  obtain ⟨j, hj, hrow⟩ := row_at E B m hin
  have hlk := look_rel B m hin
  have hlk2 : ((m.rels s.Name).map bav).length = (m.rels s.Name).length := by simp
  refine Tri.enter 11 Tryz.func73 rfl rfl rfl rfl fun Fr w0 => ?_
  repeat' (first | (refine AW.r 0 ?_; refine AL.d (AOp.box_ro rfl rfl) ?_; refine AL.nil ?_) | (refine AW.dl 1 7 ?_; refine AQ.es 2 ?_; (first | refine AQ.p rfl AOp.fa ?_ | refine AQ.p rfl (AOp.fr 3) ?_) <;> (first | refine AQ.p rfl AOp.la ?_ | refine AQ.p rfl (AOp.ll 0) ?_) <;> (first | refine AQ.p rfl AOp.fa ?_ | refine AQ.p rfl (AOp.fr 5) ?_) <;> (first | refine AQ.p rfl AOp.la ?_ | refine AQ.p rfl (AOp.ll 0) ?_) <;> refine AQ.p rfl (AOp.lookS_hit (g := oslv) (ok := false) 3 78 hlk rfl rfl rfl (by kernel_rfl)) ?_ <;> refine AQ.nil ?_ <;> refine AL.d0 (AOp.clear (z := .bool false) (c0 := .bool false) (e := 4) (bytes := 1) rfl hrow (by simp) (by kernel_rfl) rfl rfl) ?_ <;> refine AL.nil ?_) | refine AW.jt ?_ | refine AW.jf ?_ | refine AW.jj (fun hb => ?_) (fun hb => ?_) | refine AW.go ?_ | fail)
  refine AW.donev rfl ⟨rfl, ?_⟩
  have := ah_setrow E B m hm.nodup hj (List.replicate (m.rels s.Name).length false) (by simp)
  simp only [List.map_replicate] at this
  rw [show ((m.rels s.Name).map bav).drop (m.rels s.Name).length = [] by simp, List.append_nil]
  refine this.trans ?_
  simp [prim, hk]
theorem mach_6 (hm : MFit F R sig E B m) (s : GStmt) (hs : Fit F R sig s) (hk : s.Kind = 6) (hl : s.Regs.length ≤ 4611686018427387904) : Tri Tryz.prog 66 [.ref B.mb 0, s.st] (m.ah E B) (D (.tup []) ((prim E.n s m).ah E B)) := by
  have hf := hs.f (by rw [hk]; rfl)
  have hfl := hm.flen
  have g0 := flag_get (fl := m.flags) (x := s.F) (by omega)
  have ha := hs.store (by rw [hk]; rfl)
  obtain ⟨hin, hlen, hle⟩ := hm.sig _ _ ha
  obtain ⟨j, hj, hrow⟩ := row_at E B m hin
  have hlk := look_rel B m hin
  have hrk := mach_rank hm s.Regs hs.regs hle hl
  have hbd := rankM_bd hm.n.1 hm.regs s.Regs 0 0 (by rw [hm.rlen]; exact hs.regs) (by omega) (by simp)
  rw [Nat.zero_add] at hbd
  refine Tri.enter 24 Tryz.func66 rfl rfl rfl rfl fun Fr w0 => ?_
  repeat' (first | (refine AW.r 0 ?_; refine AL.d (AOp.box_ro rfl rfl) ?_; refine AL.nil ?_) | (refine AW.dl 1 20 ?_; refine AQ.es 2 ?_; (first | refine AQ.p rfl AOp.fa ?_ | refine AQ.p rfl (AOp.fr 3) ?_) <;> (first | refine AQ.p rfl (AOp.load_cell 1 rfl rfl g0 rfl (by kernel_rfl)) ?_ | refine AQ.p rfl AOp.la ?_ | refine AQ.p rfl (AOp.ll 0) ?_) <;> (first | refine AQ.p rfl AOp.fa ?_ | refine AQ.p rfl (AOp.fr 5) ?_) <;> (first | refine AQ.p rfl (AOp.load_cell 1 rfl rfl g0 rfl (by kernel_rfl)) ?_ | refine AQ.p rfl AOp.la ?_ | refine AQ.p rfl (AOp.ll 0) ?_) <;> refine AQ.p rfl (AOp.lookS_hit (g := oslv) (ok := false) 3 78 hlk rfl rfl rfl (by kernel_rfl)) ?_ <;> refine AQ.es 1 ?_ <;> (first | refine AQ.p rfl AOp.fa ?_ | refine AQ.p rfl (AOp.fr 11) ?_) <;> (first | refine AQ.p rfl (AOp.load_cell 1 rfl rfl g0 rfl (by kernel_rfl)) ?_ | refine AQ.p rfl AOp.la ?_ | refine AQ.p rfl (AOp.ll 0) ?_) <;> refine AQ.p rfl (AOp.call rfl rfl hrk) ?_ <;> refine AQ.es 2 ?_ <;> (first | refine AQ.p rfl AOp.fa ?_ | refine AQ.p rfl (AOp.fr 1) ?_) <;> (first | refine AQ.p rfl (AOp.load_cell 1 rfl rfl g0 rfl (by kernel_rfl)) ?_ | refine AQ.p rfl AOp.la ?_ | refine AQ.p rfl (AOp.ll 0) ?_) <;> (first | refine AQ.p rfl AOp.fa ?_ | refine AQ.p rfl (AOp.fr 1) ?_) <;> (first | refine AQ.p rfl (AOp.load_cell 1 rfl rfl g0 rfl (by kernel_rfl)) ?_ | refine AQ.p rfl AOp.la ?_ | refine AQ.p rfl (AOp.ll 0) ?_) <;> refine AQ.p rfl (AOp.index_osl rfl rfl (by omega) (by omega) (by kernel_rfl)) ?_ <;> (first | refine AQ.p rfl (AOp.load_cell 1 rfl rfl g0 rfl (by kernel_rfl)) ?_ | refine AQ.p rfl AOp.la ?_ | refine AQ.p rfl (AOp.ll 0) ?_) <;> refine AQ.p rfl (AOp.index_osl rfl rfl (by omega) (by omega) (by kernel_rfl)) ?_ <;> refine AQ.nil ?_ <;> (first | (refine AL.store_cell (j + 5) rfl rfl hrow (by simp; omega) rfl rfl (by kernel_rfl) ?_) | refine AL.sl 0 ?_) <;> refine AL.nil ?_) | refine AW.jt ?_ | refine AW.jf ?_ | refine AW.jj (fun hb => ?_) (fun hb => ?_) | refine AW.go ?_ | fail)
  refine AW.donev rfl ⟨rfl, ?_⟩
  have := ah_setrow E B m hm.nodup hj ((m.rels s.Name).set (rankM E.n m.regs s.Regs 0).toNat (flagAt m.flags s.F)) (by simp)
  rw [List.map_set] at this
  refine this.trans ?_
  simp [prim, hk]
theorem mach_holds (hm : MFit F R sig E B m) (l : GLit) (hl : l.At.length ≤ 4611686018427387904) (hr : ∀ x ∈ l.At, 0 ≤ x ∧ x < R) (hs : if l.Kind = 1 ∨ l.Kind = 2 then l.At.length = 2 else l.Kind = 0 ∧ sig l.Name = some l.At.length) :
    Tri Tryz.prog 60 [.ref B.mb 0, l.av] (m.ah E B) (D (.bool (holdsM E.n m l)) (m.ah E B)) := by
  have hrl := hm.rlen
  by_cases hk : l.Kind = 1 ∨ l.Kind = 2
  · rw [if_pos hk] at hs
    obtain ⟨x, y, hxy⟩ : ∃ x y, l.At = [x, y] := by
      match h : l.At, hs with
      | [x, y], _ => exact ⟨x, y, rfl⟩
    rw [hxy] at hr
    have hx := hr x (by simp)
    have hy := hr y (by simp)
    have g0 := reg_get (regs := m.regs) (x := x) (by omega)
    have g1 := reg_get (regs := m.regs) (x := y) (by omega)
    have e0 : (l.At.map iav)[(0 : Int).toNat]? = some (iav x) := by rw [hxy]; rfl
    have e1 : (l.At.map iav)[(1 : Int).toNat]? = some (iav y) := by rw [hxy]; rfl
    refine Tri.enter 71 Tryz.func60 rfl rfl rfl rfl fun Fr w0 => ?_
    repeat' (first | (refine AW.r 0 ?_; (first | refine AL.d (AOp.box_ro (v := .st [.int .i64 l.Kind, .bool l.Neg, .str l.Name, ints l.At]) rfl rfl) ?_ | refine AL.d (AOp.box_ro rfl rfl) ?_) <;> refine AL.es 1 ?_ <;> refine AL.nil ?_) | refine AW.re 1 1 ?_ | (refine AW.r 2 ?_; (first | refine AL.d AOp.fa ?_ | refine AL.d (AOp.fr 0) ?_) <;> (first | refine AL.d (AOp.load_cell 2 rfl rfl g0 rfl (by kernel_rfl)) ?_ | refine AL.d (AOp.load_cell 2 rfl rfl g1 rfl (by kernel_rfl)) ?_ | refine AL.d AOp.la ?_ | refine AL.d (AOp.ll 0) ?_) <;> refine AL.nil ?_) | refine AW.re 4 2 ?_ | (refine AW.dq 5 ?_; refine AQ.es 2 ?_; (first | refine AQ.p rfl AOp.fa ?_ | refine AQ.p rfl (AOp.fr 3) ?_) <;> (first | refine AQ.p rfl (AOp.load_cell 2 rfl rfl g0 rfl (by kernel_rfl)) ?_ | refine AQ.p rfl (AOp.load_cell 2 rfl rfl g1 rfl (by kernel_rfl)) ?_ | refine AQ.p rfl AOp.la ?_ | refine AQ.p rfl (AOp.ll 0) ?_) <;> (first | refine AQ.p rfl AOp.fa ?_ | refine AQ.p rfl (AOp.fr 2) ?_) <;> (first | refine AQ.p rfl (AOp.load_cell 2 rfl rfl g0 rfl (by kernel_rfl)) ?_ | refine AQ.p rfl (AOp.load_cell 2 rfl rfl g1 rfl (by kernel_rfl)) ?_ | refine AQ.p rfl AOp.la ?_ | refine AQ.p rfl (AOp.ll 0) ?_) <;> fail <;> refine AQ.es 1 ?_ <;> (first | refine AQ.p rfl AOp.fa ?_ | refine AQ.p rfl (AOp.fr 3) ?_) <;> (first | refine AQ.p rfl (AOp.load_cell 2 rfl rfl g0 rfl (by kernel_rfl)) ?_ | refine AQ.p rfl (AOp.load_cell 2 rfl rfl g1 rfl (by kernel_rfl)) ?_ | refine AQ.p rfl AOp.la ?_ | refine AQ.p rfl (AOp.ll 0) ?_) <;> fail <;> (first | refine AQ.p rfl (iX e0) ?_ | refine AQ.p rfl (iX e1) ?_ | refine AQ.p rfl (AOp.index_osl rfl rfl (by omega) (by omega) (by kernel_rfl)) ?_) <;> (first | refine AQ.p rfl (AOp.load_cell 2 rfl rfl g0 rfl (by kernel_rfl)) ?_ | refine AQ.p rfl (AOp.load_cell 2 rfl rfl g1 rfl (by kernel_rfl)) ?_ | refine AQ.p rfl AOp.la ?_ | refine AQ.p rfl (AOp.ll 0) ?_) <;> refine AQ.es 1 ?_ <;> refine AQ.nil ?_) | refine AW.re 6 2 ?_ | (refine AW.dq 7 ?_; refine AQ.es 2 ?_; (first | refine AQ.p rfl AOp.fa ?_ | refine AQ.p rfl (AOp.fr 2) ?_) <;> (first | refine AQ.p rfl (AOp.load_cell 2 rfl rfl g0 rfl (by kernel_rfl)) ?_ | refine AQ.p rfl (AOp.load_cell 2 rfl rfl g1 rfl (by kernel_rfl)) ?_ | refine AQ.p rfl AOp.la ?_ | refine AQ.p rfl (AOp.ll 0) ?_) <;> (first | refine AQ.p rfl AOp.fa ?_ | refine AQ.p rfl (AOp.fr 3) ?_) <;> (first | refine AQ.p rfl (AOp.load_cell 2 rfl rfl g0 rfl (by kernel_rfl)) ?_ | refine AQ.p rfl (AOp.load_cell 2 rfl rfl g1 rfl (by kernel_rfl)) ?_ | refine AQ.p rfl AOp.la ?_ | refine AQ.p rfl (AOp.ll 0) ?_) <;> (first | refine AQ.p rfl (iX e0) ?_ | refine AQ.p rfl (iX e1) ?_ | refine AQ.p rfl (AOp.index_osl rfl rfl (by omega) (by omega) (by kernel_rfl)) ?_) <;> (first | refine AQ.p rfl (AOp.load_cell 2 rfl rfl g0 rfl (by kernel_rfl)) ?_ | refine AQ.p rfl (AOp.load_cell 2 rfl rfl g1 rfl (by kernel_rfl)) ?_ | refine AQ.p rfl AOp.la ?_ | refine AQ.p rfl (AOp.ll 0) ?_) <;> (first | refine AQ.p rfl (iX e0) ?_ | refine AQ.p rfl (iX e1) ?_ | refine AQ.p rfl (AOp.index_osl rfl rfl (by omega) (by omega) (by kernel_rfl)) ?_) <;> (first | refine AQ.p rfl (AOp.load_cell 2 rfl rfl g0 rfl (by kernel_rfl)) ?_ | refine AQ.p rfl (AOp.load_cell 2 rfl rfl g1 rfl (by kernel_rfl)) ?_ | refine AQ.p rfl AOp.la ?_ | refine AQ.p rfl (AOp.ll 0) ?_) <;> refine AQ.es 2 ?_ <;> (first | refine AQ.p rfl AOp.fa ?_ | refine AQ.p rfl (AOp.fr 2) ?_) <;> (first | refine AQ.p rfl (AOp.load_cell 2 rfl rfl g0 rfl (by kernel_rfl)) ?_ | refine AQ.p rfl (AOp.load_cell 2 rfl rfl g1 rfl (by kernel_rfl)) ?_ | refine AQ.p rfl AOp.la ?_ | refine AQ.p rfl (AOp.ll 0) ?_) <;> (first | refine AQ.p rfl AOp.fa ?_ | refine AQ.p rfl (AOp.fr 3) ?_) <;> (first | refine AQ.p rfl (AOp.load_cell 2 rfl rfl g0 rfl (by kernel_rfl)) ?_ | refine AQ.p rfl (AOp.load_cell 2 rfl rfl g1 rfl (by kernel_rfl)) ?_ | refine AQ.p rfl AOp.la ?_ | refine AQ.p rfl (AOp.ll 0) ?_) <;> (first | refine AQ.p rfl (iX e0) ?_ | refine AQ.p rfl (iX e1) ?_ | refine AQ.p rfl (AOp.index_osl rfl rfl (by omega) (by omega) (by kernel_rfl)) ?_) <;> (first | refine AQ.p rfl (AOp.load_cell 2 rfl rfl g0 rfl (by kernel_rfl)) ?_ | refine AQ.p rfl (AOp.load_cell 2 rfl rfl g1 rfl (by kernel_rfl)) ?_ | refine AQ.p rfl AOp.la ?_ | refine AQ.p rfl (AOp.ll 0) ?_) <;> (first | refine AQ.p rfl (iX e0) ?_ | refine AQ.p rfl (iX e1) ?_ | refine AQ.p rfl (AOp.index_osl rfl rfl (by omega) (by omega) (by kernel_rfl)) ?_) <;> (first | refine AQ.p rfl (AOp.load_cell 2 rfl rfl g0 rfl (by kernel_rfl)) ?_ | refine AQ.p rfl (AOp.load_cell 2 rfl rfl g1 rfl (by kernel_rfl)) ?_ | refine AQ.p rfl AOp.la ?_ | refine AQ.p rfl (AOp.ll 0) ?_) <;> refine AQ.es 2 ?_ <;> refine AQ.nil ?_) | (refine AW.dq 3 ?_; refine AQ.es 2 ?_; (first | refine AQ.p rfl AOp.fa ?_ | refine AQ.p rfl (AOp.fr 2) ?_) <;> (first | refine AQ.p rfl (AOp.load_cell 2 rfl rfl g0 rfl (by kernel_rfl)) ?_ | refine AQ.p rfl (AOp.load_cell 2 rfl rfl g1 rfl (by kernel_rfl)) ?_ | refine AQ.p rfl AOp.la ?_ | refine AQ.p rfl (AOp.ll 0) ?_) <;> (first | refine AQ.p rfl AOp.fa ?_ | refine AQ.p rfl (AOp.fr 3) ?_) <;> (first | refine AQ.p rfl (AOp.load_cell 2 rfl rfl g0 rfl (by kernel_rfl)) ?_ | refine AQ.p rfl (AOp.load_cell 2 rfl rfl g1 rfl (by kernel_rfl)) ?_ | refine AQ.p rfl AOp.la ?_ | refine AQ.p rfl (AOp.ll 0) ?_) <;> (first | refine AQ.p rfl (iX e0) ?_ | refine AQ.p rfl (iX e1) ?_ | refine AQ.p rfl (AOp.index_osl rfl rfl (by omega) (by omega) (by kernel_rfl)) ?_) <;> (first | refine AQ.p rfl (AOp.load_cell 2 rfl rfl g0 rfl (by kernel_rfl)) ?_ | refine AQ.p rfl (AOp.load_cell 2 rfl rfl g1 rfl (by kernel_rfl)) ?_ | refine AQ.p rfl AOp.la ?_ | refine AQ.p rfl (AOp.ll 0) ?_) <;> (first | refine AQ.p rfl (iX e0) ?_ | refine AQ.p rfl (iX e1) ?_ | refine AQ.p rfl (AOp.index_osl rfl rfl (by omega) (by omega) (by kernel_rfl)) ?_) <;> (first | refine AQ.p rfl (AOp.load_cell 2 rfl rfl g0 rfl (by kernel_rfl)) ?_ | refine AQ.p rfl (AOp.load_cell 2 rfl rfl g1 rfl (by kernel_rfl)) ?_ | refine AQ.p rfl AOp.la ?_ | refine AQ.p rfl (AOp.ll 0) ?_) <;> refine AQ.es 2 ?_ <;> (first | refine AQ.p rfl AOp.fa ?_ | refine AQ.p rfl (AOp.fr 2) ?_) <;> (first | refine AQ.p rfl (AOp.load_cell 2 rfl rfl g0 rfl (by kernel_rfl)) ?_ | refine AQ.p rfl (AOp.load_cell 2 rfl rfl g1 rfl (by kernel_rfl)) ?_ | refine AQ.p rfl AOp.la ?_ | refine AQ.p rfl (AOp.ll 0) ?_) <;> (first | refine AQ.p rfl AOp.fa ?_ | refine AQ.p rfl (AOp.fr 3) ?_) <;> (first | refine AQ.p rfl (AOp.load_cell 2 rfl rfl g0 rfl (by kernel_rfl)) ?_ | refine AQ.p rfl (AOp.load_cell 2 rfl rfl g1 rfl (by kernel_rfl)) ?_ | refine AQ.p rfl AOp.la ?_ | refine AQ.p rfl (AOp.ll 0) ?_) <;> (first | refine AQ.p rfl (iX e0) ?_ | refine AQ.p rfl (iX e1) ?_ | refine AQ.p rfl (AOp.index_osl rfl rfl (by omega) (by omega) (by kernel_rfl)) ?_) <;> (first | refine AQ.p rfl (AOp.load_cell 2 rfl rfl g0 rfl (by kernel_rfl)) ?_ | refine AQ.p rfl (AOp.load_cell 2 rfl rfl g1 rfl (by kernel_rfl)) ?_ | refine AQ.p rfl AOp.la ?_ | refine AQ.p rfl (AOp.ll 0) ?_) <;> (first | refine AQ.p rfl (iX e0) ?_ | refine AQ.p rfl (iX e1) ?_ | refine AQ.p rfl (AOp.index_osl rfl rfl (by omega) (by omega) (by kernel_rfl)) ?_) <;> (first | refine AQ.p rfl (AOp.load_cell 2 rfl rfl g0 rfl (by kernel_rfl)) ?_ | refine AQ.p rfl (AOp.load_cell 2 rfl rfl g1 rfl (by kernel_rfl)) ?_ | refine AQ.p rfl AOp.la ?_ | refine AQ.p rfl (AOp.ll 0) ?_) <;> refine AQ.es 2 ?_ <;> refine AQ.nil ?_) | (refine xS 8 1 ?_; (first | refine AL.d AOp.fa ?_ | refine AL.d (AOp.fr 1) ?_) <;> (first | refine AL.d (AOp.load_cell 2 rfl rfl g0 rfl (by kernel_rfl)) ?_ | refine AL.d (AOp.load_cell 2 rfl rfl g1 rfl (by kernel_rfl)) ?_ | refine AL.d AOp.la ?_ | refine AL.d (AOp.ll 0) ?_) <;> (first | refine AL.e ?_ | refine AL.d AOp.bn ?_) <;> refine AL.es 1 ?_ <;> refine AL.nil ?_) | refine AW.jt ?_ | refine AW.jf ?_ | refine AW.jj (fun hb => ?_) (fun hb => ?_) | refine AW.go ?_ | fail)
    all_goals first
      | (exfalso; simp only [beq_iff_eq] at *; omega)
      | ((first | refine AW.donev rfl ⟨?_, rfl⟩ | refine AW.retv rfl ⟨?_, rfl⟩); simp only [beq_iff_eq, beq_eq_false_iff_ne, ne_eq] at *; rw [holdsM]; simp_all [List.getD, ieq, bne, Bool.beq_comm])
  · rw [if_neg hk] at hs
    obtain ⟨hk0, ha⟩ := hs
    obtain ⟨hin, hlen, hle⟩ := hm.sig _ _ ha
    obtain ⟨j, hj, hrow⟩ := row_at E B m hin
    have hlk := look_rel B m hin
    have hrk := mach_rank hm l.At hr hle hl
    have hbd := rankM_bd hm.n.1 hm.regs l.At 0 0 (by rw [hm.rlen]; exact hr) (by omega) (by simp)
    rw [Nat.zero_add] at hbd
    have g0 := flag_get (fl := m.rels l.Name) (x := rankM E.n m.regs l.At 0) (by omega)
    refine Tri.enter 71 Tryz.func60 rfl rfl rfl rfl fun Fr w0 => ?_
    repeat' (first | (refine AW.r 0 ?_; (first | refine AL.d (AOp.box_ro (v := .st [.int .i64 l.Kind, .bool l.Neg, .str l.Name, ints l.At]) rfl rfl) ?_ | refine AL.d (AOp.box_ro rfl rfl) ?_) <;> refine AL.es 1 ?_ <;> refine AL.nil ?_) | refine AW.re 1 1 ?_ | (refine AW.r 2 ?_; (first | refine AL.d AOp.fa ?_ | refine AL.d (AOp.fr 0) ?_) <;> (first | refine AL.d (AOp.load_cell (j + 5) rfl hrow g0 rfl (by kernel_rfl)) ?_ | refine AL.d AOp.la ?_ | refine AL.d (AOp.ll 0) ?_) <;> refine AL.nil ?_) | refine AW.re 4 2 ?_ | (refine AW.dq 5 ?_; refine AQ.es 2 ?_; (first | refine AQ.p rfl AOp.fa ?_ | refine AQ.p rfl (AOp.fr 3) ?_) <;> (first | refine AQ.p rfl (AOp.load_cell (j + 5) rfl hrow g0 rfl (by kernel_rfl)) ?_ | refine AQ.p rfl AOp.la ?_ | refine AQ.p rfl (AOp.ll 0) ?_) <;> (first | refine AQ.p rfl AOp.fa ?_ | refine AQ.p rfl (AOp.fr 2) ?_) <;> (first | refine AQ.p rfl (AOp.load_cell (j + 5) rfl hrow g0 rfl (by kernel_rfl)) ?_ | refine AQ.p rfl AOp.la ?_ | refine AQ.p rfl (AOp.ll 0) ?_) <;> refine AQ.p rfl (AOp.lookS_hit (g := oslv) (ok := false) 3 78 hlk rfl rfl rfl (by kernel_rfl)) ?_ <;> refine AQ.es 1 ?_ <;> (first | refine AQ.p rfl AOp.fa ?_ | refine AQ.p rfl (AOp.fr 3) ?_) <;> (first | refine AQ.p rfl (AOp.load_cell (j + 5) rfl hrow g0 rfl (by kernel_rfl)) ?_ | refine AQ.p rfl AOp.la ?_ | refine AQ.p rfl (AOp.ll 0) ?_) <;> refine AQ.p rfl (AOp.call rfl rfl hrk) ?_ <;> refine AQ.p rfl (AOp.index_osl rfl rfl (by omega) (by omega) (by kernel_rfl)) ?_ <;> (first | refine AQ.p rfl (AOp.load_cell (j + 5) rfl hrow g0 rfl (by kernel_rfl)) ?_ | refine AQ.p rfl AOp.la ?_ | refine AQ.p rfl (AOp.ll 0) ?_) <;> refine AQ.es 1 ?_ <;> refine AQ.nil ?_) | refine AW.re 6 2 ?_ | (refine AW.dq 7 ?_; refine AQ.es 2 ?_; (first | refine AQ.p rfl AOp.fa ?_ | refine AQ.p rfl (AOp.fr 2) ?_) <;> (first | refine AQ.p rfl (AOp.load_cell (j + 5) rfl hrow g0 rfl (by kernel_rfl)) ?_ | refine AQ.p rfl AOp.la ?_ | refine AQ.p rfl (AOp.ll 0) ?_) <;> (first | refine AQ.p rfl AOp.fa ?_ | refine AQ.p rfl (AOp.fr 3) ?_) <;> (first | refine AQ.p rfl (AOp.load_cell (j + 5) rfl hrow g0 rfl (by kernel_rfl)) ?_ | refine AQ.p rfl AOp.la ?_ | refine AQ.p rfl (AOp.ll 0) ?_) <;> refine AQ.p rfl (AOp.index_osl rfl rfl (by omega) (by omega) (by kernel_rfl)) ?_ <;> (first | refine AQ.p rfl (AOp.load_cell (j + 5) rfl hrow g0 rfl (by kernel_rfl)) ?_ | refine AQ.p rfl AOp.la ?_ | refine AQ.p rfl (AOp.ll 0) ?_) <;> refine AQ.p rfl (AOp.index_osl rfl rfl (by omega) (by omega) (by kernel_rfl)) ?_ <;> (first | refine AQ.p rfl (AOp.load_cell (j + 5) rfl hrow g0 rfl (by kernel_rfl)) ?_ | refine AQ.p rfl AOp.la ?_ | refine AQ.p rfl (AOp.ll 0) ?_) <;> refine AQ.es 2 ?_ <;> (first | refine AQ.p rfl AOp.fa ?_ | refine AQ.p rfl (AOp.fr 2) ?_) <;> (first | refine AQ.p rfl (AOp.load_cell (j + 5) rfl hrow g0 rfl (by kernel_rfl)) ?_ | refine AQ.p rfl AOp.la ?_ | refine AQ.p rfl (AOp.ll 0) ?_) <;> (first | refine AQ.p rfl AOp.fa ?_ | refine AQ.p rfl (AOp.fr 3) ?_) <;> (first | refine AQ.p rfl (AOp.load_cell (j + 5) rfl hrow g0 rfl (by kernel_rfl)) ?_ | refine AQ.p rfl AOp.la ?_ | refine AQ.p rfl (AOp.ll 0) ?_) <;> refine AQ.p rfl (AOp.index_osl rfl rfl (by omega) (by omega) (by kernel_rfl)) ?_ <;> (first | refine AQ.p rfl (AOp.load_cell (j + 5) rfl hrow g0 rfl (by kernel_rfl)) ?_ | refine AQ.p rfl AOp.la ?_ | refine AQ.p rfl (AOp.ll 0) ?_) <;> refine AQ.p rfl (AOp.index_osl rfl rfl (by omega) (by omega) (by kernel_rfl)) ?_ <;> (first | refine AQ.p rfl (AOp.load_cell (j + 5) rfl hrow g0 rfl (by kernel_rfl)) ?_ | refine AQ.p rfl AOp.la ?_ | refine AQ.p rfl (AOp.ll 0) ?_) <;> refine AQ.es 2 ?_ <;> refine AQ.nil ?_) | (refine AW.dq 3 ?_; refine AQ.es 2 ?_; (first | refine AQ.p rfl AOp.fa ?_ | refine AQ.p rfl (AOp.fr 2) ?_) <;> (first | refine AQ.p rfl (AOp.load_cell (j + 5) rfl hrow g0 rfl (by kernel_rfl)) ?_ | refine AQ.p rfl AOp.la ?_ | refine AQ.p rfl (AOp.ll 0) ?_) <;> (first | refine AQ.p rfl AOp.fa ?_ | refine AQ.p rfl (AOp.fr 3) ?_) <;> (first | refine AQ.p rfl (AOp.load_cell (j + 5) rfl hrow g0 rfl (by kernel_rfl)) ?_ | refine AQ.p rfl AOp.la ?_ | refine AQ.p rfl (AOp.ll 0) ?_) <;> refine AQ.p rfl (AOp.index_osl rfl rfl (by omega) (by omega) (by kernel_rfl)) ?_ <;> (first | refine AQ.p rfl (AOp.load_cell (j + 5) rfl hrow g0 rfl (by kernel_rfl)) ?_ | refine AQ.p rfl AOp.la ?_ | refine AQ.p rfl (AOp.ll 0) ?_) <;> refine AQ.p rfl (AOp.index_osl rfl rfl (by omega) (by omega) (by kernel_rfl)) ?_ <;> (first | refine AQ.p rfl (AOp.load_cell (j + 5) rfl hrow g0 rfl (by kernel_rfl)) ?_ | refine AQ.p rfl AOp.la ?_ | refine AQ.p rfl (AOp.ll 0) ?_) <;> refine AQ.es 2 ?_ <;> (first | refine AQ.p rfl AOp.fa ?_ | refine AQ.p rfl (AOp.fr 2) ?_) <;> (first | refine AQ.p rfl (AOp.load_cell (j + 5) rfl hrow g0 rfl (by kernel_rfl)) ?_ | refine AQ.p rfl AOp.la ?_ | refine AQ.p rfl (AOp.ll 0) ?_) <;> (first | refine AQ.p rfl AOp.fa ?_ | refine AQ.p rfl (AOp.fr 3) ?_) <;> (first | refine AQ.p rfl (AOp.load_cell (j + 5) rfl hrow g0 rfl (by kernel_rfl)) ?_ | refine AQ.p rfl AOp.la ?_ | refine AQ.p rfl (AOp.ll 0) ?_) <;> refine AQ.p rfl (AOp.index_osl rfl rfl (by omega) (by omega) (by kernel_rfl)) ?_ <;> (first | refine AQ.p rfl (AOp.load_cell (j + 5) rfl hrow g0 rfl (by kernel_rfl)) ?_ | refine AQ.p rfl AOp.la ?_ | refine AQ.p rfl (AOp.ll 0) ?_) <;> refine AQ.p rfl (AOp.index_osl rfl rfl (by omega) (by omega) (by kernel_rfl)) ?_ <;> (first | refine AQ.p rfl (AOp.load_cell (j + 5) rfl hrow g0 rfl (by kernel_rfl)) ?_ | refine AQ.p rfl AOp.la ?_ | refine AQ.p rfl (AOp.ll 0) ?_) <;> refine AQ.es 2 ?_ <;> refine AQ.nil ?_) | (refine xS 8 1 ?_; (first | refine AL.d AOp.fa ?_ | refine AL.d (AOp.fr 1) ?_) <;> (first | refine AL.d (AOp.load_cell (j + 5) rfl hrow g0 rfl (by kernel_rfl)) ?_ | refine AL.d AOp.la ?_ | refine AL.d (AOp.ll 0) ?_) <;> (first | refine AL.e ?_ | refine AL.d AOp.bn ?_) <;> refine AL.es 1 ?_ <;> refine AL.nil ?_) | refine AW.jt ?_ | refine AW.jf ?_ | refine AW.jj (fun hb => ?_) (fun hb => ?_) | refine AW.go ?_ | fail)
    all_goals first
      | (exfalso; simp only [beq_iff_eq, beq_eq_false_iff_ne, ne_eq] at *; omega)
      | ((first | refine AW.donev rfl ⟨?_, rfl⟩ | refine AW.retv rfl ⟨?_, rfl⟩); rw [holdsM, if_pos hk0]; cases flagAt (m.rels l.Name) (rankM E.n m.regs l.At 0) <;> cases l.Neg <;> rfl)
theorem mach_0 (hm : MFit F R sig E B m) (s : GStmt) (hs : Fit F R sig s) (hk : s.Kind = 0) (hl : s.Lit.At.length ≤ 4611686018427387904) : Tri Tryz.prog 59 [.ref B.mb 0, s.st] (m.ah E B) (D (.tup []) ((prim E.n s m).ah E B)) := by
  have hf := hs.f (by rw [hk]; rfl)
  have hfl := hm.flen
  have hlt := hs.lit (by rw [hk]; rfl)
  have hh := mach_holds hm s.Lit hl hlt.1 hlt.2
  refine Tri.enter 15 Tryz.func59 rfl rfl rfl rfl fun Fr w0 => ?_
  repeat' (first | (refine AW.r 0 ?_; refine AL.d (AOp.box_ro rfl rfl) ?_; refine AL.nil ?_) | (refine AW.dl 1 11 ?_; refine AQ.es 2 ?_; (first | refine AQ.p rfl AOp.fa ?_ | refine AQ.p rfl (AOp.fr 1) ?_) <;> (first | refine AQ.p rfl AOp.la ?_ | refine AQ.p rfl (AOp.ll 0) ?_) <;> (first | refine AQ.p rfl AOp.fa ?_ | refine AQ.p rfl (AOp.fr 1) ?_) <;> (first | refine AQ.p rfl AOp.la ?_ | refine AQ.p rfl (AOp.ll 0) ?_) <;> refine AQ.es 1 ?_ <;> (first | refine AQ.p rfl AOp.fa ?_ | refine AQ.p rfl (AOp.fr 7) ?_) <;> (first | refine AQ.p rfl AOp.la ?_ | refine AQ.p rfl (AOp.lw 0) ?_) <;> refine AQ.p rfl (AOp.call rfl rfl hh) ?_ <;> refine AQ.p rfl (AOp.index_osl rfl rfl (by omega) (by omega) (by kernel_rfl)) ?_ <;> refine AQ.nil ?_ <;> (first | (refine AL.store_cell 1 rfl rfl rfl (by simp; omega) rfl rfl (by kernel_rfl) ?_) | refine AL.sl 0 ?_) <;> refine AL.nil ?_) | refine AW.jt ?_ | refine AW.jf ?_ | refine AW.jj (fun hb => ?_) (fun hb => ?_) | refine AW.go ?_ | fail)
  refine AW.donev rfl ⟨rfl, ?_⟩
  refine (ah_setflag E B m s.F _).trans ?_
  simp [prim, hk]
theorem mach_13 (hm : MFit F R sig E B m) (s : GStmt) (hs : Fit F R sig s) (hk : s.Kind = 13) : Tri Tryz.prog 75 [.ref B.mb 0, s.st] (m.ah E B) (D (.tup []) ((prim E.n s m).ah E B)) := by
  obtain ⟨a, ha⟩ := hs.name (by rw [hk]; rfl)
  obtain ⟨hin, hlen, hle⟩ := hm.sig _ _ ha
  obtain ⟨j, hj, hrow⟩ := row_at E B m hin
  have hlk := look_rel B m hin
  have ha2 := (hs.frm (by rw [hk]; rfl)).trans ha
  obtain ⟨hin2, hlen2, hle2⟩ := hm.sig _ _ ha2
  obtain ⟨j2, hj2, hrow2⟩ := row_at E B m hin2
  have hlk2 := look_rel B m hin2
  have hll : (m.rels s.From).length = (m.rels s.Name).length := by omega
  refine Tri.enter 19 Tryz.func75 rfl rfl rfl rfl fun Fr w0 => ?_
  repeat' (first | (refine AW.r 0 ?_; refine AL.d (AOp.box_ro rfl rfl) ?_; refine AL.nil ?_) | (refine AW.dl 1 14 ?_; refine AQ.es 2 ?_; (first | refine AQ.p rfl AOp.fa ?_ | refine AQ.p rfl (AOp.fr 3) ?_) <;> (first | refine AQ.p rfl AOp.la ?_ | refine AQ.p rfl (AOp.ll 0) ?_) <;> (first | refine AQ.p rfl AOp.fa ?_ | refine AQ.p rfl (AOp.fr 5) ?_) <;> (first | refine AQ.p rfl AOp.la ?_ | refine AQ.p rfl (AOp.ll 0) ?_) <;> (first | refine AQ.p rfl (AOp.lookS_hit (g := oslv) (ok := false) 3 78 hlk rfl rfl rfl (by kernel_rfl)) ?_ | refine AQ.p rfl (AOp.lookS_hit (g := oslv) (ok := false) 3 78 hlk2 rfl rfl rfl (by kernel_rfl)) ?_) <;> refine AQ.es 2 ?_ <;> (first | refine AQ.p rfl AOp.fa ?_ | refine AQ.p rfl (AOp.fr 3) ?_) <;> (first | refine AQ.p rfl AOp.la ?_ | refine AQ.p rfl (AOp.ll 0) ?_) <;> (first | refine AQ.p rfl AOp.fa ?_ | refine AQ.p rfl (AOp.fr 6) ?_) <;> (first | refine AQ.p rfl AOp.la ?_ | refine AQ.p rfl (AOp.ll 0) ?_) <;> (first | refine AQ.p rfl (AOp.lookS_hit (g := oslv) (ok := false) 3 78 hlk rfl rfl rfl (by kernel_rfl)) ?_ | refine AQ.p rfl (AOp.lookS_hit (g := oslv) (ok := false) 3 78 hlk2 rfl rfl rfl (by kernel_rfl)) ?_) <;> refine AQ.nil ?_ <;> refine AL.d (AOp.copy_osl (m := (m.rels s.Name).length) (e := 4) (c0 := .bool false) (bytes := 1) rfl hrow (by simp) rfl hrow2 (by simp) (by kernel_rfl) (all_map fun _ => rfl) (ok_map fun _ => rfl) (by rw [hll]; exact (Nat.min_self _).symm)) ?_ <;> refine AL.nil ?_) | refine AW.jt ?_ | refine AW.jf ?_ | refine AW.jj (fun hb => ?_) (fun hb => ?_) | refine AW.go ?_ | fail)
  refine AW.donev rfl ⟨rfl, ?_⟩
  have := ah_setrow E B m hm.nodup hj (m.rels s.From) hll
  rw [show ((m.rels s.Name).map bav).drop (m.rels s.Name).length = [] by simp, List.append_nil, List.take_of_length_le (by simp; omega)]
  refine this.trans ?_
  simp [prim, hk]
theorem slices_EqualB (ah : AH) (xs ys : List Bool) (b b2 i j n n2 : Nat) (hi : ah[i]? = some (.row b (xs.map bav))) (hj : ah[j]? = some (.row b2 (ys.map bav))) (hn : n = xs.length) (hn2 : n2 = ys.length) (hl : n ≤ 4611686018427387904) (hl2 : n2 ≤ 4611686018427387904) :
    Tri Tryz.prog 77 [.osl b n n, .osl b2 n2 n2] ah (D (.bool (decide (xs = ys))) ah) := by
  refine Tri.enter 26 Tryz.func77 rfl rfl rfl rfl fun Fr w0 => ?_
  repeat' (first | refine AW.re 0 1 ?_ | refine AW.re 1 5 ?_ | refine AW.re 2 1 ?_ | refine AW.re 3 3 ?_ | refine AW.jt ?_ | refine AW.jf ?_ | refine AW.jj (fun hb => ?_) (fun hb => ?_) | refine AW.go ?_ | fail)
  · refine AW.retv rfl ⟨?_, rfl⟩
    have : xs ≠ ys := by rintro rfl; subst hn hn2; simp at hb
    simp [this, ofConst]
  have hb' : n = n2 := by simp at hb; omega
  refine AW.prune [0, 1, 12, 13] (AW.loop (fun m af h => ∃ i : Nat, i ≤ n ∧ m = n - i ∧ af = [(0, .osl b n n), (1, .osl b2 n2 n2), (12, .int .i64 n), (13, .int .i64 i)] ∧ h = ah ∧ (xs = ys ↔ xs.drop i = ys.drop i)) n ⟨0, Nat.zero_le _, rfl, rfl, rfl, by simp⟩ ?_)
  rintro m af h ⟨k, hk, rfl, rfl, rfl, he⟩
  refine AW.seq ?_
  by_cases hlt : k < n
  · obtain ⟨x, hx⟩ := get_lt (show k < xs.length by omega)
    obtain ⟨y, hy⟩ := get_lt (show k < ys.length by omega)
    have hx' : (xs.map bav)[((k : Nat) : Int).toNat]? = some (.bool x) := map_get hx
    have hy' : (ys.map bav)[((k : Nat) : Int).toNat]? = some (.bool y) := map_get hy
    rw [drop_cons hx, drop_cons hy] at he
    repeat' (first | refine AW.re 4 1 ?_ | refine AW.re 5 2 ?_ | (refine AW.dq 6 ?_; refine AQ.es 2 ?_; refine AQ.p rfl (AOp.index_osl rfl rfl (by omega) (by omega) (by kernel_rfl)) ?_; (first | refine AQ.p rfl (AOp.load_cell i rfl hi hx' rfl (by kernel_rfl)) ?_ | refine AQ.p rfl (AOp.load_cell j rfl hj hy' rfl (by kernel_rfl)) ?_ | refine AQ.p rfl AOp.la ?_) <;> refine AQ.es 2 ?_ <;> refine AQ.p rfl (AOp.index_osl rfl rfl (by omega) (by omega) (by kernel_rfl)) ?_ <;> (first | refine AQ.p rfl (AOp.load_cell i rfl hi hx' rfl (by kernel_rfl)) ?_ | refine AQ.p rfl (AOp.load_cell j rfl hj hy' rfl (by kernel_rfl)) ?_ | refine AQ.p rfl AOp.la ?_) <;> (first | refine AQ.e ?_ | refine AQ.p rfl AOp.bn ?_) <;> refine AQ.nil ?_) | refine AW.re 7 1 ?_ | (refine AW.r 8 ?_; refine AL.d AOp.ad ?_; refine xN 1 ?_) | refine AW.jt ?_ | refine AW.jf ?_ | refine AW.jj (fun hb => ?_) (fun hb => ?_) | refine AW.go ?_ | fail)
    all_goals first
      | (exfalso; simp only [dT, dF, lM] at *; omega)
      | (refine AW.retv rfl ⟨?_, rfl⟩; cases x <;> cases y <;> simp_all [ofConst]; done)
      | (refine AW.again_keep (n - (k + 1)) [0, 1, 12, 13] (by omega) ⟨k + 1, hlt, rfl, rfl, rfl, ?_⟩; rw [he]; cases x <;> cases y <;> simp_all)
  · rw [List.drop_eq_nil_of_le (by omega), List.drop_eq_nil_of_le (by omega)] at he
    repeat' (first | refine AW.re 4 1 ?_ | refine AW.re 9 1 ?_ | refine AW.jt ?_ | refine AW.jf ?_ | refine AW.jj (fun hb => ?_) (fun hb => ?_) | refine AW.go ?_ | fail)
    all_goals first
      | (exfalso; simp only [dT, dF, lM] at *; omega)
      | (refine AW.retv rfl ⟨?_, rfl⟩; simp [he.2 rfl, ofConst])
theorem mach_14 (hm : MFit F R sig E B m) (s : GStmt) (hs : Fit F R sig s) (hk : s.Kind = 14) : Tri Tryz.prog 76 [.ref B.mb 0, s.st] (m.ah E B) (D (.tup []) ((prim E.n s m).ah E B)) := by
  have hf := hs.f (by rw [hk]; rfl)
  have hfl := hm.flen
  obtain ⟨a, ha⟩ := hs.name (by rw [hk]; rfl)
  obtain ⟨hin, hlen, hle⟩ := hm.sig _ _ ha
  obtain ⟨j, hj, hrow⟩ := row_at E B m hin
  have hlk := look_rel B m hin
  have ha2 := (hs.frm (by rw [hk]; rfl)).trans ha
  obtain ⟨hin2, hlen2, hle2⟩ := hm.sig _ _ ha2
  obtain ⟨j2, hj2, hrow2⟩ := row_at E B m hin2
  have hlk2 := look_rel B m hin2
  have hll : (m.rels s.From).length = (m.rels s.Name).length := by omega
  have hE := slices_EqualB (m.ah E B) (m.rels s.Name) (m.rels s.From) _ _ _ _ _ _ hrow hrow2 rfl rfl (by omega) (by omega)
  refine Tri.enter 26 Tryz.func76 rfl rfl rfl rfl fun Fr w0 => ?_
  repeat' (first | (refine AW.r 0 ?_; refine AL.d (AOp.box_ro rfl rfl) ?_; refine AL.nil ?_) | (refine AW.dl 1 22 ?_; refine AQ.es 2 ?_; (first | refine AQ.p rfl AOp.fa ?_ | refine AQ.p rfl (AOp.fr 1) ?_) <;> (first | refine AQ.p rfl AOp.la ?_ | refine AQ.p rfl (AOp.ll 0) ?_) <;> (first | refine AQ.p rfl AOp.fa ?_ | refine AQ.p rfl (AOp.fr 1) ?_) <;> (first | refine AQ.p rfl AOp.la ?_ | refine AQ.p rfl (AOp.ll 0) ?_) <;> refine AQ.es 2 ?_ <;> (first | refine AQ.p rfl AOp.fa ?_ | refine AQ.p rfl (AOp.fr 3) ?_) <;> (first | refine AQ.p rfl AOp.la ?_ | refine AQ.p rfl (AOp.ll 0) ?_) <;> (first | refine AQ.p rfl AOp.fa ?_ | refine AQ.p rfl (AOp.fr 5) ?_) <;> (first | refine AQ.p rfl AOp.la ?_ | refine AQ.p rfl (AOp.ll 0) ?_) <;> (first | refine AQ.p rfl (AOp.lookS_hit (g := oslv) (ok := false) 3 78 hlk rfl rfl rfl (by kernel_rfl)) ?_ | refine AQ.p rfl (AOp.lookS_hit (g := oslv) (ok := false) 3 78 hlk2 rfl rfl rfl (by kernel_rfl)) ?_) <;> refine AQ.es 2 ?_ <;> (first | refine AQ.p rfl AOp.fa ?_ | refine AQ.p rfl (AOp.fr 3) ?_) <;> (first | refine AQ.p rfl AOp.la ?_ | refine AQ.p rfl (AOp.ll 0) ?_) <;> (first | refine AQ.p rfl AOp.fa ?_ | refine AQ.p rfl (AOp.fr 6) ?_) <;> (first | refine AQ.p rfl AOp.la ?_ | refine AQ.p rfl (AOp.ll 0) ?_) <;> (first | refine AQ.p rfl (AOp.lookS_hit (g := oslv) (ok := false) 3 78 hlk rfl rfl rfl (by kernel_rfl)) ?_ | refine AQ.p rfl (AOp.lookS_hit (g := oslv) (ok := false) 3 78 hlk2 rfl rfl rfl (by kernel_rfl)) ?_) <;> refine AQ.p rfl (AOp.call rfl rfl hE) ?_ <;> refine AQ.p rfl (AOp.index_osl rfl rfl (by omega) (by omega) (by kernel_rfl)) ?_ <;> refine AQ.nil ?_ <;> (first | (refine AL.store_cell 1 rfl rfl rfl (by simp; omega) rfl rfl (by kernel_rfl) ?_) | refine AL.sl 0 ?_) <;> refine AL.nil ?_) | refine AW.jt ?_ | refine AW.jf ?_ | refine AW.jj (fun hb => ?_) (fun hb => ?_) | refine AW.go ?_ | fail)
  refine AW.donev rfl ⟨rfl, ?_⟩
  refine (ah_setflag E B m s.F _).trans ?_
  simp [prim, hk]
end
def stopV (e : Int) : AV := .val (.iface 90 (.int .i64 e))
def MS.step (m : MS) : MS := { m with steps := m.steps + 1 }
section
variable {F R : Nat} {sig : ByteArray → Option Nat} {E : Env} {B : Blk} {m : MS}
theorem mach_step_ok (hm : MFit F R sig E B m) (h : m.steps < E.fuel) : Tri Tryz.prog 72 [.ref B.mb 0] (m.ah E B) (D (.tup []) (m.step.ah E B)) := by
  have h1 := hm.fuel
  have h2 := hm.steps
  refine Tri.enter 19 Tryz.func72 rfl rfl rfl rfl fun Fr w0 => ?_
  repeat' (first | (refine AW.dq 0 ?_; refine AQ.es 2 ?_; (first | refine AQ.p rfl AOp.fa ?_ | refine AQ.p rfl (AOp.fr 6) ?_) <;> (first | refine AQ.p rfl AOp.la ?_ | refine AQ.p rfl (AOp.ll 0) ?_) <;> refine AQ.es 2 ?_ <;> (first | refine AQ.p rfl AOp.fa ?_ | refine AQ.p rfl (AOp.fr 7) ?_) <;> (first | refine AQ.p rfl AOp.la ?_ | refine AQ.p rfl (AOp.ll 0) ?_) <;> refine AQ.es 1 ?_ <;> refine AQ.nil ?_) | (refine AW.r 1 ?_; refine AL.d (AOp.iface rfl rfl (by kernel_rfl)) ?_; fail) | (refine xS 2 2 ?_; (first | refine AL.d AOp.fa ?_ | refine AL.d (AOp.fr 6) ?_) <;> (first | refine AL.d AOp.la ?_ | refine AL.d (AOp.ll 0) ?_) <;> refine AL.d AOp.ad ?_ <;> refine AL.es 1 ?_ <;> (first | refine AL.d AOp.fa ?_ | refine AL.d (AOp.fr 6) ?_) <;> refine AL.sl 0 ?_ <;> refine AL.nil ?_) | refine AW.jt ?_ | refine AW.jf ?_ | refine AW.jj (fun hb => ?_) (fun hb => ?_) | refine AW.go ?_ | fail)
  all_goals first
    | (exfalso; simp only [dT, dF] at *; omega)
    | exact AW.donev rfl ⟨rfl, rfl⟩
theorem mach_step_bad (hm : MFit F R sig E B m) (h : ¬ m.steps < E.fuel) : Tri Tryz.prog 72 [.ref B.mb 0] (m.ah E B) (fun x h => x = .pan (stopV 7) ∧ h = m.ah E B) := by
  have h1 := hm.fuel
  have h2 := hm.steps
  refine Tri.enter 19 Tryz.func72 rfl rfl rfl rfl fun Fr w0 => ?_
  repeat' (first | (refine AW.dq 0 ?_; refine AQ.es 2 ?_; (first | refine AQ.p rfl AOp.fa ?_ | refine AQ.p rfl (AOp.fr 6) ?_) <;> (first | refine AQ.p rfl AOp.la ?_ | refine AQ.p rfl (AOp.ll 0) ?_) <;> refine AQ.es 2 ?_ <;> (first | refine AQ.p rfl AOp.fa ?_ | refine AQ.p rfl (AOp.fr 7) ?_) <;> (first | refine AQ.p rfl AOp.la ?_ | refine AQ.p rfl (AOp.ll 0) ?_) <;> refine AQ.es 1 ?_ <;> refine AQ.nil ?_) | (refine AW.r 1 ?_; refine AL.d (AOp.iface rfl rfl (by kernel_rfl)) ?_; refine AL.panic rfl rfl ?_) | (refine xS 2 2 ?_; (first | refine AL.d AOp.fa ?_ | refine AL.d (AOp.fr 6) ?_) <;> (first | refine AL.d AOp.la ?_ | refine AL.d (AOp.ll 0) ?_) <;> refine AL.d AOp.ad ?_ <;> refine AL.es 1 ?_ <;> (first | refine AL.d AOp.fa ?_ | refine AL.d (AOp.fr 6) ?_) <;> refine AL.sl 0 ?_ <;> refine AL.nil ?_) | refine AW.jt ?_ | refine AW.jf ?_ | refine AW.jj (fun hb => ?_) (fun hb => ?_) | refine AW.go ?_ | fail)
  all_goals first
    | (exfalso; simp only [dT, dF] at *; omega)
    | exact APan.of ⟨rfl, rfl⟩
def MS.guess (G : List Bool) (s : GStmt) (m : MS) : MS :=
  { m with rels := upd m.rels s.Name ((G.drop m.used.toNat).take (m.rels s.Name).length), used := m.used + (m.rels s.Name).length }
theorem mach_guess_bad (hm : MFit F R sig E B m) (s : GStmt) (hs : Fit F R sig s) (hk : s.Kind = 12) (h : (E.G.length : Int) - m.used < (m.rels s.Name).length) : Tri Tryz.prog 74 [.ref B.mb 0, s.st] (m.ah E B) (fun x h => x = .pan (stopV 2) ∧ h = m.ah E B) := by
  obtain ⟨a, ha⟩ := hs.name (by rw [hk]; rfl)
  obtain ⟨hin, hlen, hle⟩ := hm.sig _ _ ha
  have hlk := look_rel B m hin
  have hu := hm.used
  have hgl := hm.glen
  have hgl2 : ((E.G.map bav).length : Int) = E.G.length := by simp
  refine Tri.enter 46 Tryz.func74 rfl rfl rfl rfl fun Fr w0 => ?_
  repeat' (first | (refine AW.r 0 ?_; refine AL.d (AOp.box_ro rfl rfl) ?_; refine AL.nil ?_) | (refine AW.dq 1 ?_; refine AQ.es 2 ?_; (first | refine AQ.p rfl AOp.fa ?_ | refine AQ.p rfl (AOp.fr 3) ?_) <;> (first | refine AQ.p rfl AOp.la ?_ | refine AQ.p rfl (AOp.ll 0) ?_) <;> (first | refine AQ.p rfl AOp.fa ?_ | refine AQ.p rfl (AOp.fr 5) ?_) <;> (first | refine AQ.p rfl AOp.la ?_ | refine AQ.p rfl (AOp.ll 0) ?_) <;> refine AQ.p rfl (AOp.lookS_hit (g := oslv) (ok := false) 3 78 hlk rfl rfl rfl (by kernel_rfl)) ?_ <;> refine AQ.es 1 ?_ <;> refine AQ.nil ?_) | (refine AW.dq 2 ?_; refine AQ.es 2 ?_; (first | refine AQ.p rfl AOp.fa ?_ | refine AQ.p rfl (AOp.fr 4) ?_) <;> (first | refine AQ.p rfl AOp.la ?_ | refine AQ.p rfl (AOp.ll 0) ?_) <;> refine AQ.es 3 ?_ <;> (first | refine AQ.p rfl AOp.fa ?_ | refine AQ.p rfl (AOp.fr 5) ?_) <;> (first | refine AQ.p rfl AOp.la ?_ | refine AQ.p rfl (AOp.ll 0) ?_) <;> refine AQ.p rfl AOp.sb ?_ <;> refine AQ.es 3 ?_ <;> refine AQ.nil ?_) | (refine AW.r 3 ?_; refine AL.d (AOp.iface rfl rfl (by kernel_rfl)) ?_; refine AL.panic rfl rfl ?_) | (refine AW.dl 4 10 ?_; refine AQ.es 3 ?_; (first | refine AQ.p rfl AOp.fa ?_ | refine AQ.p rfl (AOp.fr 4) ?_) <;> (first | refine AQ.p rfl AOp.la ?_ | refine AQ.p rfl (AOp.ll 0) ?_) <;> refine AQ.es 2 ?_ <;> (first | refine AQ.p rfl AOp.fa ?_ | refine AQ.p rfl (AOp.fr 5) ?_) <;> (first | refine AQ.p rfl AOp.la ?_ | refine AQ.p rfl (AOp.ll 0) ?_) <;> fail <;> refine AQ.nil ?_ <;> fail <;> refine AL.nil ?_) | (refine xS 5 2 ?_; (first | refine AL.d AOp.fa ?_ | refine AL.d (AOp.fr 5) ?_) <;> (first | refine AL.d AOp.la ?_ | refine AL.d (AOp.ll 0) ?_) <;> refine AL.es 2 ?_ <;> refine AL.d AOp.ad ?_ <;> refine AL.es 1 ?_ <;> (first | refine AL.d AOp.fa ?_ | refine AL.d (AOp.fr 5) ?_) <;> refine AL.sl 0 ?_ <;> refine AL.nil ?_) | refine AW.jt ?_ | refine AW.jf ?_ | refine AW.jj (fun hb => ?_) (fun hb => ?_) | refine AW.go ?_ | fail)
  all_goals first
    | (exfalso; simp only [dT, dF] at *; omega)
    | exact APan.of ⟨rfl, rfl⟩
theorem mach_guess_ok (hm : MFit F R sig E B m) (s : GStmt) (hs : Fit F R sig s) (hk : s.Kind = 12) (h : ¬ (E.G.length : Int) - m.used < (m.rels s.Name).length) : Tri Tryz.prog 74 [.ref B.mb 0, s.st] (m.ah E B) (D (.tup []) ((m.guess E.G s).ah E B)) := by
  obtain ⟨a, ha⟩ := hs.name (by rw [hk]; rfl)
  obtain ⟨hin, hlen, hle⟩ := hm.sig _ _ ha
  obtain ⟨j, hj, hrow⟩ := row_at E B m hin
  have hlk := look_rel B m hin
  have hu := hm.used
  have hgl := hm.glen
  have hgl2 : ((E.G.map bav).length : Int) = E.G.length := by simp
  have hmin : (m.rels s.Name).length = Nat.min (((E.G.map bav).take (E.G.map bav).length).drop m.used.toNat).length (m.rels s.Name).length := by
    refine (Nat.min_eq_right ?_).symm
    simp only [List.length_drop, List.length_take, lM, Nat.min_self]
    omega
  refine Tri.enter 46 Tryz.func74 rfl rfl rfl rfl fun Fr w0 => ?_
  repeat' (first | (refine AW.r 0 ?_; refine AL.d (AOp.box_ro rfl rfl) ?_; refine AL.nil ?_) | (refine AW.dq 1 ?_; refine AQ.es 2 ?_; (first | refine AQ.p rfl AOp.fa ?_ | refine AQ.p rfl (AOp.fr 3) ?_) <;> (first | refine AQ.p rfl AOp.la ?_ | refine AQ.p rfl (AOp.ll 0) ?_) <;> (first | refine AQ.p rfl AOp.fa ?_ | refine AQ.p rfl (AOp.fr 5) ?_) <;> (first | refine AQ.p rfl AOp.la ?_ | refine AQ.p rfl (AOp.ll 0) ?_) <;> refine AQ.p rfl (AOp.lookS_hit (g := oslv) (ok := false) 3 78 hlk rfl rfl rfl (by kernel_rfl)) ?_ <;> refine AQ.es 1 ?_ <;> refine AQ.nil ?_) | (refine AW.dq 2 ?_; refine AQ.es 2 ?_; (first | refine AQ.p rfl AOp.fa ?_ | refine AQ.p rfl (AOp.fr 4) ?_) <;> (first | refine AQ.p rfl AOp.la ?_ | refine AQ.p rfl (AOp.ll 0) ?_) <;> refine AQ.es 3 ?_ <;> (first | refine AQ.p rfl AOp.fa ?_ | refine AQ.p rfl (AOp.fr 5) ?_) <;> (first | refine AQ.p rfl AOp.la ?_ | refine AQ.p rfl (AOp.ll 0) ?_) <;> refine AQ.p rfl AOp.sb ?_ <;> refine AQ.es 3 ?_ <;> refine AQ.nil ?_) | (refine AW.r 3 ?_; refine AL.d (AOp.iface rfl rfl (by kernel_rfl)) ?_; refine AL.panic rfl rfl ?_) | (refine AW.dl 4 10 ?_; refine AQ.es 3 ?_; (first | refine AQ.p rfl AOp.fa ?_ | refine AQ.p rfl (AOp.fr 4) ?_) <;> (first | refine AQ.p rfl AOp.la ?_ | refine AQ.p rfl (AOp.ll 0) ?_) <;> refine AQ.es 2 ?_ <;> (first | refine AQ.p rfl AOp.fa ?_ | refine AQ.p rfl (AOp.fr 5) ?_) <;> (first | refine AQ.p rfl AOp.la ?_ | refine AQ.p rfl (AOp.ll 0) ?_) <;> refine AQ.p rfl (AOp.cut (sz := 1) rfl rfl (by kernel_rfl) (all_map fun _ => rfl) (bndIs.some (n := m.used.toNat) rfl (by omega)) bndIs.none (by omega) (by omega)) ?_ <;> refine AQ.nil ?_ <;> refine AL.d (AOp.copy_sl (m := (m.rels s.Name).length) (e := 4) (c0 := .bool false) (bytes := 1) rfl hrow (by simp) rfl rfl (by kernel_rfl) (fun y hy => all_map (n := 1) (fun _ => rfl) y (List.mem_of_mem_take (List.mem_of_mem_drop hy))) (by rw [← List.map_take, ← List.map_drop]; exact ok_map fun _ => rfl) hmin) ?_ <;> refine AL.nil ?_) | (refine xS 5 2 ?_; (first | refine AL.d AOp.fa ?_ | refine AL.d (AOp.fr 5) ?_) <;> (first | refine AL.d AOp.la ?_ | refine AL.d (AOp.ll 0) ?_) <;> refine AL.es 2 ?_ <;> refine AL.d AOp.ad ?_ <;> refine AL.es 1 ?_ <;> (first | refine AL.d AOp.fa ?_ | refine AL.d (AOp.fr 5) ?_) <;> refine AL.sl 0 ?_ <;> refine AL.nil ?_) | refine AW.jt ?_ | refine AW.jf ?_ | refine AW.jj (fun hb => ?_) (fun hb => ?_) | refine AW.go ?_ | fail)
  all_goals first
    | (exfalso; simp only [dT, dF] at *; omega)
    | skip
  have hrv : (((E.G.map bav).take (E.G.map bav).length).drop m.used.toNat).take (m.rels s.Name).length ++ ((m.rels s.Name).map bav).drop (m.rels s.Name).length = ((E.G.drop m.used.toNat).take (m.rels s.Name).length).map bav := by
    have hd : ((m.rels s.Name).map bav).drop (m.rels s.Name).length = [] := List.drop_eq_nil_of_le (by simp)
    rw [List.take_length, hd, List.append_nil, ← List.map_drop, ← List.map_take]
  have e := ah_setrow E B m hm.nodup hj ((E.G.drop m.used.toNat).take (m.rels s.Name).length) (by simp; omega)
  rw [← hrv] at e
  refine AW.donev rfl ⟨rfl, ?_⟩
  refine (congrArg (fun l : AH => l.set 0 _) e).trans ?_
  rfl
end
inductive Task
  | s (x : GStmt)
  | l (xs : List GStmt)
  | e (r : Int) (xs : List GStmt) (i : Nat)
  | t (xs : List GStmt) (k : Nat)
  | r (xs : List GStmt) (k j : Nat)
def MS.setR (m : MS) (r : Int) (v : Int) : MS := { m with regs := m.regs.set r.toNat v }
inductive Ex (E : Env) : Task → MS → Option Int → MS → Prop
  | nil {m} : Ex E (.l []) m none m
  | stop {x xs m} (h : ¬ m.steps < E.fuel) : Ex E (.l (x :: xs)) m (some 7) m
  | bad {x xs m e m'} (h : m.steps < E.fuel) (h1 : Ex E (.s x) m.step (some e) m') : Ex E (.l (x :: xs)) m (some e) m'
  | cons {x xs m m1 o m2} (h : m.steps < E.fuel) (h1 : Ex E (.s x) m.step none m1) (h2 : Ex E (.l xs) m1 o m2) : Ex E (.l (x :: xs)) m o m2
  | prim {x m} (h : isPrim x.Kind) : Ex E (.s x) m none (prim E.n x m)
  | gbad {x m} (h : x.Kind = 12) (h1 : (E.G.length : Int) - m.used < (m.rels x.Name).length) : Ex E (.s x) m (some 2) m
  | gok {x m} (h : x.Kind = 12) (h1 : ¬ (E.G.length : Int) - m.used < (m.rels x.Name).length) : Ex E (.s x) m none (m.guess E.G x)
  | each {x m o m'} (h : x.Kind = 7) (h1 : Ex E (.e x.R x.Body 0) m o m') : Ex E (.s x) m o m'
  | eend {r xs m} {i : Nat} (h : ¬ (i : Int) < E.n) : Ex E (.e r xs i) m none m
  | ebad {r xs m e m'} {i : Nat} (h : (i : Int) < E.n) (h1 : Ex E (.l xs) (m.setR r i) (some e) m') : Ex E (.e r xs i) m (some e) m'
  | estep {r xs m m1 o m2} {i : Nat} (h : (i : Int) < E.n) (h1 : Ex E (.l xs) (m.setR r i) none m1) (h2 : Ex E (.e r xs (i + 1)) m1 o m2) : Ex E (.e r xs i) m o m2
  | cond {x m o m'} (h : x.Kind = 8) (h1 : Ex E (.l (if flagAt m.flags x.F = true then x.Body else x.Else)) m o m') : Ex E (.s x) m o m'
  | t0 {x m} (h : x.Kind = 9) (h1 : x.Body = []) : Ex E (.s x) m none m
  | t1 {x m o m'} (h : x.Kind = 9) (h1 : x.Body ≠ []) (h2 : Ex E (.t x.Body x.N.toNat) m o m') : Ex E (.s x) m o m'
  | tz {xs m o m'} (h1 : Ex E (.l xs) m o m') : Ex E (.t xs 0) m o m'
  | ts {xs k m o m'} (h1 : Ex E (.r xs k E.n.toNat) m o m') : Ex E (.t xs (k + 1)) m o m'
  | rz {xs k m} : Ex E (.r xs k 0) m none m
  | rbad {xs k j m e m'} (h1 : Ex E (.t xs k) m (some e) m') : Ex E (.r xs k (j + 1)) m (some e) m'
  | rstep {xs k j m m1 o m2} (h1 : Ex E (.t xs k) m none m1) (h2 : Ex E (.r xs k j) m1 o m2) : Ex E (.r xs k (j + 1)) m o m2
  | ubad {x m e m'} (h : x.Kind = 10) (h1 : Ex E (.l x.Body) m (some e) m') : Ex E (.s x) m (some e) m'
  | uend {x m m1} (h : x.Kind = 10) (h1 : Ex E (.l x.Body) m none m1) (h2 : flagAt m1.flags x.F = true) : Ex E (.s x) m none m1
  | ustop {x m m1} (h : x.Kind = 10) (h1 : Ex E (.l x.Body) m none m1) (h2 : flagAt m1.flags x.F = false) (h3 : ¬ m1.steps < E.fuel) : Ex E (.s x) m (some 7) m1
  | ustep {x m m1 o m2} (h : x.Kind = 10) (h1 : Ex E (.l x.Body) m none m1) (h2 : flagAt m1.flags x.F = false) (h3 : m1.steps < E.fuel) (h4 : Ex E (.s x) m1.step o m2) : Ex E (.s x) m o m2
def endV : Option Int → AEnd
  | none => .ret (.tup [])
  | some e => .pan (stopV e)
def Post (F R : Nat) (sig : ByteArray → Option Nat) (E : Env) (B : Blk) (T : Task) (m : MS) : AEnd → AH → Prop :=
  fun x h => ∃ o m', Ex E T m o m' ∧ MFit F R sig E B m' ∧ m.steps ≤ m'.steps ∧ h = m'.ah E B ∧ x = endV o
section
variable {F R : Nat} {sig : ByteArray → Option Nat} {E : Env} {B : Blk} {m : MS}
theorem MFit.step (hm : MFit F R sig E B m) (h : m.steps < E.fuel) : MFit F R sig E B m.step := { hm with steps := ⟨by have := hm.steps.1; show 0 ≤ m.steps + 1; omega, by show m.steps + 1 ≤ E.fuel; omega⟩ }
theorem MFit.setF (hm : MFit F R sig E B m) (f : Int) (b : Bool) : MFit F R sig E B (m.setF f b) := { hm with flen := by rw [← hm.flen]; simp [MS.setF] }
theorem MFit.setR (hm : MFit F R sig E B m) (r v : Int) (hv : 0 ≤ v ∧ v < E.n) : MFit F R sig E B (m.setR r v) := { hm with
  rlen := by rw [← hm.rlen]; simp [MS.setR]
  regs := fun x hx => by
    rcases List.mem_or_eq_of_mem_set hx with h | h
    · exact hm.regs x h
    · rw [h]; exact hv }
theorem MFit.upd (hm : MFit F R sig E B m) (k : ByteArray) (xs : List Bool) (hx : xs.length = (m.rels k).length) (u : Int) (hu : 0 ≤ u ∧ u ≤ E.G.length) : MFit F R sig E B { m with rels := upd m.rels k xs, used := u } := { hm with
  used := hu
  sig := fun k' a h => by
    obtain ⟨h1, h2, h3⟩ := hm.sig k' a h
    refine ⟨h1, ?_, h3⟩
    show ((Go.Proofs.YtkolalhekgmmdaaGreat.upd m.rels k xs k').length : Int) = _
    by_cases e : k' = k
    · subst e; rw [upd_same, hx]; exact h2
    · rw [upd_ne _ _ e]; exact h2 }
theorem MFit.prim (hm : MFit F R sig E B m) (s : GStmt) (hs : Fit F R sig s) : MFit F R sig E B (prim E.n s m) := by
  unfold Go.Proofs.YtkolalhekgmmdaaGreat.prim
  repeat' split
  all_goals first
    | exact hm.setF _ _
    | exact hm.upd _ _ (by simp) m.used hm.used
    | skip
  rename_i h
  obtain ⟨a, ha⟩ := hs.name (by rw [h]; rfl)
  have ha2 := (hs.frm (by rw [h]; rfl)).trans ha
  have h1 := (hm.sig _ _ ha).2.1
  have h2 := (hm.sig _ _ ha2).2.1
  exact hm.upd _ _ (by omega) m.used hm.used
theorem MFit.guess (hm : MFit F R sig E B m) (s : GStmt) (h : ¬ (E.G.length : Int) - m.used < (m.rels s.Name).length) : MFit F R sig E B (m.guess E.G s) := by
  have hu := hm.used
  exact hm.upd _ _ (by simp; omega) _ (by omega)
end
def fnOf (k : Int) : FuncId :=
  if k = 0 then 59 else if k = 1 then 61 else if k = 2 then 62 else if k = 3 then 63 else if k = 4 then 64 else if k = 5 then 65 else if k = 6 then 66 else if k = 7 then 68 else if k = 8 then 69 else if k = 9 then 70 else if k = 10 then 71 else if k = 11 then 73 else if k = 12 then 74 else if k = 13 then 75 else 76
theorem find_run {k : Int} (h : 0 ≤ k ∧ k < 15) : ∃ j, mfind (.int .i64 k) runKV 0 = some (j, .fn (fnOf k) []) := by
  have : k = 0 ∨ k = 1 ∨ k = 2 ∨ k = 3 ∨ k = 4 ∨ k = 5 ∨ k = 6 ∨ k = 7 ∨ k = 8 ∨ k = 9 ∨ k = 10 ∨ k = 11 ∨ k = 12 ∨ k = 13 ∨ k = 14 := by omega
  rcases this with rfl | rfl | rfl | rfl | rfl | rfl | rfl | rfl | rfl | rfl | rfl | rfl | rfl | rfl | rfl <;> exact ⟨_, rfl⟩
section
variable {C : Cx} {ds : List Deferred} {ks : List K} {af : AF} {ah : AH} {ops : Array Oper} {rest : List Oper}
theorem AL.callPost {F R : Nat} {sig : ByteArray → Option Nat} {E : Env} {B : Blk} {m : MS} {t : Task} {d : Option Tmp} {T : TypeId} {ps : String} {es : Array Edge} {f : FuncId} {y : Operand} {caps : List AV} {xs : Array Operand} {tys : Array TypeId} {args : List AV}
    (hy : aeval af y = some (.fn f caps)) (hx : aevals af xs.toList = some args) (h : Tri C.P f (args ++ caps) ah (Post F R sig E B t m)) (hd : okDst d C.n = true)
    (hk : ∀ m', Ex E t m none m' → MFit F R sig E B m' → m.steps ≤ m'.steps → AL C ds ks ops rest (put af d (.tup [])) (m'.ah E B)) (hp : ∀ e m', Ex E t m (some e) m' → MFit F R sig E B m' → m.steps ≤ m'.steps → APan C ds (stopV e) (m'.ah E B)) :
    AL C ds ks ops (⟨d, .call ⟨.value y, xs, tys⟩, T, ps, es, none⟩ :: rest) af ah := by
  refine AL.callQ hy hx h hd ?_ ?_
  · rintro v ah' ⟨o, m', hex, hfit, hle, rfl, hend⟩
    cases o with
    | none => cases hend; exact hk m' hex hfit hle
    | some e => cases hend
  · rintro v ah' ⟨o, m', hex, hfit, hle, rfl, hend⟩
    cases o with
    | none => cases hend
    | some e => cases hend; exact hp e m' hex hfit hle
theorem AL.callStop {E : Env} {B : Blk} {m : MS} {e : Int} {d : Option Tmp} {T : TypeId} {ps : String} {es : Array Edge} {f : FuncId} {y : Operand} {caps : List AV} {xs : Array Operand} {tys : Array TypeId} {args : List AV}
    (hy : aeval af y = some (.fn f caps)) (hx : aevals af xs.toList = some args) (h : Tri C.P f (args ++ caps) ah (fun x h => x = .pan (stopV e) ∧ h = m.ah E B)) (hd : okDst d C.n = true)
    (hp : APan C ds (stopV e) (m.ah E B)) : AL C ds ks ops (⟨d, .call ⟨.value y, xs, tys⟩, T, ps, es, none⟩ :: rest) af ah := by
  refine AL.callQ hy hx h hd ?_ ?_
  · rintro v ah' ⟨h1, _⟩; cases h1
  · rintro v ah' ⟨h1, rfl⟩; cases h1; exact hp
end
theorem SFit.fit {F R : Nat} {sig : ByteArray → Option Nat} {s : GStmt} (h : SFit F R sig s) : Fit F R sig s := by cases h; assumption
theorem SFit.body {F R : Nat} {sig : ByteArray → Option Nat} {s : GStmt} (h : SFit F R sig s) : ∀ x ∈ s.Body, SFit F R sig x := by cases h; assumption
theorem SFit.els {F R : Nat} {sig : ByteArray → Option Nat} {s : GStmt} (h : SFit F R sig s) : ∀ x ∈ s.Else, SFit F R sig x := by cases h; assumption
section
variable {F R : Nat} {sig : ByteArray → Option Nat} {E : Env} {B : Blk} {m : MS}
theorem mach_all (l : List GStmt) (hl : l.length ≤ 4611686018427387904) (hs : ∀ x ∈ l, SFit F R sig x)
    (ih : ∀ x ∈ l, ∀ m, MFit F R sig E B m → Tri Tryz.prog (fnOf x.Kind) [.ref B.mb 0, x.st] (m.ah E B) (Post F R sig E B (.s x) m))
    (m : MS) (hm : MFit F R sig E B m) : Tri Tryz.prog 32 [.ref B.mb 0, .sl (l.map GStmt.av)] (m.ah E B) (Post F R sig E B (.l l) m) := by
  refine Tri.enter 25 Tryz.func32 rfl rfl rfl rfl fun Fr w0 => ?_
  repeat' (first | refine AW.re 0 3 ?_ | refine AW.jt ?_ | refine AW.jf ?_ | refine AW.jj (fun hb => ?_) (fun hb => ?_) | refine AW.go ?_ | fail)
  refine AW.prune [0, 6, 7, 8] (AW.loop (fun k af h => ∃ (i : Nat) (u : MS), i ≤ l.length ∧ k = l.length - i ∧ af = [(0, .ref B.mb 0), (6, .sl (l.map GStmt.av)), (7, .int .i64 (l.map GStmt.av).length), (8, .int .i64 i)] ∧ h = u.ah E B ∧ MFit F R sig E B u ∧ m.steps ≤ u.steps ∧ ∀ o m', Ex E (.l (l.drop i)) u o m' → Ex E (.l l) m o m') l.length ⟨0, m, Nat.zero_le _, rfl, rfl, rfl, hm, Int.le_refl _, fun o m' h => h⟩ ?_)
  rintro k af h ⟨i, u, hi, rfl, rfl, rfl, hu, hle, hx⟩
  refine AW.seq ?_
  by_cases hlt : i < l.length
  · obtain ⟨x, hxg⟩ := get_lt hlt
    have hx' : (l.map GStmt.av)[((i : Nat) : Int).toNat]? = some x.st := GStmt.get hxg
    have hxm := lG hxg
    rw [drop_cons hxg] at hx
    repeat' (first | refine AW.re 1 1 ?_ | (refine AW.r 2 ?_; refine AL.d (iX hx') ?_; refine AL.es 1 ?_; refine AL.alloc_store (by kernel_rfl) rfl rfl rfl rfl ?_; refine AL.nil ?_) | refine AW.jt ?_ | refine AW.jf ?_ | refine AW.jj (fun hb => ?_) (fun hb => ?_) | refine AW.go ?_ | fail)
    all_goals try (exfalso; simp only [dT, dF, lM] at *; omega)
    by_cases hst : u.steps < E.fuel
    · have h1 := mach_step_ok hu hst
      have h2 := ih x hxm u.step (hu.step hst)
      have hk : 0 ≤ x.Kind ∧ x.Kind < 15 := (hs x hxm).fit.kind
      obtain ⟨j, hj⟩ := find_run hk
      have h3 : u.step.steps = u.steps + 1 := rfl
      repeat' (first | (refine xS 3 1 ?_; refine AL.d (AOp.call rfl rfl h1) ?_; refine AL.nil ?_) | refine AW.jt ?_ | refine AW.jf ?_ | refine AW.jj (fun hb => ?_) (fun hb => ?_) | refine AW.go ?_ | fail)
      repeat' (first | (refine AW.dl 4 9 ?_; refine AQ.es 2 ?_; (first | refine AQ.p rfl AOp.fa ?_ | refine AQ.p rfl (AOp.fr 8) ?_) <;> (first | refine AQ.p rfl AOp.la ?_ | refine AQ.p rfl (AOp.ll 0) ?_) <;> (first | refine AQ.p rfl AOp.fa ?_ | refine AQ.p rfl (AOp.fr 0) ?_) <;> (first | refine AQ.p rfl AOp.la ?_ | refine AQ.p rfl (AOp.ll 0) ?_) <;> refine AQ.p rfl (AOp.lookup_hit (i := 4) (kd := .int .i64) (e := 115) (ok := false) rfl rfl rfl (by kernel_rfl) rfl rfl hj) ?_ <;> refine AQ.es 1 ?_ <;> (first | refine AQ.p rfl AOp.la ?_ | refine AQ.p rfl (AOp.lw 0) ?_) <;> refine AQ.nil ?_ <;> refine AL.callPost rfl rfl h2 rfl (fun m' hex hfit hle2 => ?_) (fun e m' hex hfit hle2 => APan.of ⟨_, m', hx _ _ (.bad hst hex), hfit, by omega, rfl, rfl⟩) <;> refine AL.nil ?_) | (refine AW.r 5 ?_; refine AL.d AOp.ad ?_; refine xN 1 ?_) | refine AW.jt ?_ | refine AW.jf ?_ | refine AW.jj (fun hb => ?_) (fun hb => ?_) | refine AW.go ?_ | fail)
      exact AW.again_keep (l.length - (i + 1)) [0, 6, 7, 8] (by omega) ⟨i + 1, m', hlt, rfl, rfl, rfl, hfit, by omega, fun o m2 h => hx o m2 (.cons hst hex h)⟩
    · have h1 := mach_step_bad hu hst
      repeat' (first | (refine xS 3 1 ?_; exact AL.callStop rfl rfl h1 rfl (APan.of ⟨some 7, u, hx _ _ (.stop hst), hu, hle, rfl, rfl⟩) <;> refine AL.nil ?_) | refine AW.jt ?_ | refine AW.jf ?_ | refine AW.jj (fun hb => ?_) (fun hb => ?_) | refine AW.go ?_ | fail)
  · rw [List.drop_eq_nil_of_le (by omega)] at hx
    repeat' (first | refine AW.re 1 1 ?_ | refine AW.jt ?_ | refine AW.jf ?_ | refine AW.jj (fun hb => ?_) (fun hb => ?_) | refine AW.go ?_ | fail)
    all_goals first
      | (exfalso; simp only [dT, dF, lM] at *; omega)
      | exact AW.donev rfl ⟨none, u, hx _ _ .nil, hu, hle, rfl, rfl⟩
end
section
variable {F R : Nat} {sig : ByteArray → Option Nat} {E : Env} {B : Blk}
def AllOk (F R : Nat) (sig : ByteArray → Option Nat) (E : Env) (B : Blk) (l : List GStmt) : Prop := ∀ m, MFit F R sig E B m → Tri Tryz.prog 32 [.ref B.mb 0, .sl (l.map GStmt.av)] (m.ah E B) (Post F R sig E B (.l l) m)
theorem mach_each (s : GStmt) (hs : Fit F R sig s) (hk : s.Kind = 7) (hb : AllOk F R sig E B s.Body) (m : MS) (hm : MFit F R sig E B m) :
    Tri Tryz.prog 68 [.ref B.mb 0, s.st] (m.ah E B) (Post F R sig E B (.s s) m) := by
  have hr := hs.r (by rw [hk]; rfl)
  have hn := hm.n
  refine Tri.enter 25 Tryz.func68 rfl rfl rfl rfl fun Fr w0 => ?_
  repeat' (first | (refine AW.r 0 ?_; refine AL.d (AOp.box_ro rfl rfl) ?_; refine AL.nil ?_) | (refine xS 1 2 ?_; (first | refine AL.d AOp.fa ?_ | refine AL.d (AOp.fr 0) ?_) <;> (first | refine AL.d AOp.la ?_ | refine AL.d (AOp.ll 0) ?_) <;> refine AL.es 1 ?_ <;> refine AL.nil ?_) | refine AW.jt ?_ | refine AW.jf ?_ | refine AW.jj (fun hb => ?_) (fun hb => ?_) | refine AW.go ?_ | fail)
  refine AW.prune [0, 3, 8, 9] (AW.loop (fun k af h => ∃ (i : Nat) (u : MS), (i : Int) ≤ E.n ∧ k = E.n.toNat - i ∧ af = [(0, .ref B.mb 0), (3, .at s.st), (8, .int .i64 E.n), (9, .int .i64 i)] ∧ h = u.ah E B ∧ MFit F R sig E B u ∧ m.steps ≤ u.steps ∧ ∀ o m', Ex E (.e s.R s.Body i) u o m' → Ex E (.s s) m o m') E.n.toNat ⟨0, m, by omega, rfl, rfl, rfl, hm, Int.le_refl _, fun o m' h => .each hk h⟩ ?_)
  rintro k af h ⟨i, u, hi, rfl, rfl, rfl, hu, hle, hx⟩
  refine AW.seq ?_
  by_cases hlt : (i : Int) < E.n
  · have hrl := hu.rlen
    have h2 := hb (u.setR s.R i) (hu.setR _ _ ⟨by omega, hlt⟩)
    have h3 : (u.setR s.R i).steps = u.steps := rfl
    have hset : (u.ah E B).set 2 (.row B.rb ((u.regs.map iav).set s.R.toNat (.int .i64 i))) = (u.setR s.R i).ah E B := by
      have h : (u.regs.map iav).set s.R.toNat (.int .i64 i) = (u.regs.set s.R.toNat i).map iav := by rw [List.map_set]; rfl
      have h2 : (u.regs.set s.R.toNat i).length = u.regs.length := by simp
      simp only [MS.ah, MS.setR, MS.box, sA, sB, h, h2]
      rfl
    repeat' (first | refine AW.re 2 1 ?_ | refine AW.re 3 2 ?_ | (refine AW.dl 4 8 ?_; refine AQ.es 2 ?_; (first | refine AQ.p rfl AOp.fa ?_ | refine AQ.p rfl (AOp.fr 2) ?_) <;> (first | refine AQ.p rfl AOp.la ?_ | refine AQ.p rfl (AOp.ll 0) ?_) <;> (first | refine AQ.p rfl AOp.fa ?_ | refine AQ.p rfl (AOp.fr 3) ?_) <;> (first | refine AQ.p rfl AOp.la ?_ | refine AQ.p rfl (AOp.ll 0) ?_) <;> refine AQ.es 1 ?_ <;> refine AQ.p rfl (AOp.index_osl rfl rfl (by omega) (by omega) (by kernel_rfl)) ?_ <;> refine AQ.nil ?_ <;> (first | (refine AL.store_cell 2 rfl rfl rfl (by simp; omega) rfl rfl (by kernel_rfl) ?_) | refine AL.sl 0 ?_) <;> refine AL.nil ?_) | refine AW.jt ?_ | refine AW.jf ?_ | refine AW.jj (fun hb => ?_) (fun hb => ?_) | refine AW.go ?_ | fail)
    all_goals try (exfalso; simp only [dT, dF, lM] at *; omega)
    refine AW.frame_eq rfl hset ?_
    repeat' (first | (refine xS 5 3 ?_; refine AL.callPost rfl rfl h2 rfl (fun m' hex hfit hle2 => ?_) (fun e m' hex hfit hle2 => APan.of ⟨_, m', hx _ _ (.ebad hlt hex), hfit, by omega, rfl, rfl⟩) <;> refine AL.nil ?_) | (refine AW.r 6 ?_; refine AL.d AOp.ad ?_; refine xN 1 ?_) | refine AW.jt ?_ | refine AW.jf ?_ | refine AW.jj (fun hb => ?_) (fun hb => ?_) | refine AW.go ?_ | fail)
    exact AW.again_keep (E.n.toNat - (i + 1)) [0, 3, 8, 9] (by omega) ⟨i + 1, m', by omega, rfl, rfl, rfl, hfit, by omega, fun o m2 h => hx o m2 (.estep hlt hex h)⟩
  · repeat' (first | refine AW.re 2 1 ?_ | refine AW.jt ?_ | refine AW.jf ?_ | refine AW.jj (fun hb => ?_) (fun hb => ?_) | refine AW.go ?_ | fail)
    all_goals first
      | (exfalso; simp only [dT, dF, lM] at *; omega)
      | exact AW.donev rfl ⟨none, u, hx _ _ (.eend hlt), hu, hle, rfl, rfl⟩
theorem mach_if (s : GStmt) (hs : Fit F R sig s) (hk : s.Kind = 8) (hbd : AllOk F R sig E B s.Body) (he : AllOk F R sig E B s.Else) (m : MS) (hm : MFit F R sig E B m) :
    Tri Tryz.prog 69 [.ref B.mb 0, s.st] (m.ah E B) (Post F R sig E B (.s s) m) := by
  have hf := hs.f (by rw [hk]; rfl)
  have hfl := hm.flen
  have g0 := flag_get (fl := m.flags) (x := s.F) (by omega)
  have h1 := hbd m hm
  have h2 := he m hm
  refine Tri.enter 20 Tryz.func69 rfl rfl rfl rfl fun Fr w0 => ?_
  repeat' (first | (refine AW.r 0 ?_; refine AL.d (AOp.box_ro rfl rfl) ?_; refine AL.nil ?_) | (refine AW.dq 1 ?_; refine AQ.es 2 ?_; (first | refine AQ.p rfl AOp.fa ?_ | refine AQ.p rfl (AOp.fr 1) ?_) <;> (first | refine AQ.p rfl (AOp.load_cell 1 rfl rfl g0 rfl (by kernel_rfl)) ?_ | refine AQ.p rfl AOp.la ?_ | refine AQ.p rfl (AOp.ll 0) ?_) <;> (first | refine AQ.p rfl AOp.fa ?_ | refine AQ.p rfl (AOp.fr 1) ?_) <;> (first | refine AQ.p rfl (AOp.load_cell 1 rfl rfl g0 rfl (by kernel_rfl)) ?_ | refine AQ.p rfl AOp.la ?_ | refine AQ.p rfl (AOp.ll 0) ?_) <;> refine AQ.p rfl (AOp.index_osl rfl rfl (by omega) (by omega) (by kernel_rfl)) ?_ <;> (first | refine AQ.p rfl (AOp.load_cell 1 rfl rfl g0 rfl (by kernel_rfl)) ?_ | refine AQ.p rfl AOp.la ?_ | refine AQ.p rfl (AOp.ll 0) ?_) <;> refine AQ.nil ?_) | refine AW.jt ?_ | refine AW.jf ?_ | refine AW.jj (fun hb => ?_) (fun hb => ?_) | refine AW.go ?_ | fail)
  · repeat' (first | (refine xS 2 3 ?_; refine AL.callPost rfl rfl h1 rfl (fun m' hex hfit hle2 => ?_) (fun e m' hex hfit hle2 => APan.of ⟨_, m', .cond hk (by rw [if_pos hb]; exact hex), hfit, hle2, rfl, rfl⟩) <;> refine AL.nil ?_) | refine AW.jt ?_ | refine AW.jf ?_ | refine AW.jj (fun hb => ?_) (fun hb => ?_) | refine AW.go ?_ | fail)
    exact AW.donev rfl ⟨none, m', .cond hk (by rw [if_pos hb]; exact hex), hfit, hle2, rfl, rfl⟩
  · repeat' (first | (refine xS 3 3 ?_; refine AL.callPost rfl rfl h2 rfl (fun m' hex hfit hle2 => ?_) (fun e m' hex hfit hle2 => APan.of ⟨_, m', .cond hk (by rw [if_neg (by simp [hb])]; exact hex), hfit, hle2, rfl, rfl⟩) <;> refine AL.nil ?_) | refine AW.jt ?_ | refine AW.jf ?_ | refine AW.jj (fun hb => ?_) (fun hb => ?_) | refine AW.go ?_ | fail)
    exact AW.donev rfl ⟨none, m', .cond hk (by rw [if_neg (by simp [hb])]; exact hex), hfit, hle2, rfl, rfl⟩
theorem mach_until (s : GStmt) (hs : Fit F R sig s) (hk : s.Kind = 10) (hbd : AllOk F R sig E B s.Body) (m : MS) (hm : MFit F R sig E B m) :
    Tri Tryz.prog 71 [.ref B.mb 0, s.st] (m.ah E B) (Post F R sig E B (.s s) m) := by
  have hf := hs.f (by rw [hk]; rfl)
  have h1 := hbd m hm
  have hfu := hm.fuel
  refine Tri.enter 23 Tryz.func71 rfl rfl rfl rfl fun Fr w0 => ?_
  repeat' (first | (refine AW.r 0 ?_; refine AL.d (AOp.box_ro rfl rfl) ?_; refine AL.nil ?_) | (refine xS 1 1 ?_; (first | refine AL.d AOp.fa ?_ | refine AL.d (AOp.fr 12) ?_) <;> (first | refine AL.d AOp.la ?_ | refine AL.d (AOp.ll 0) ?_) <;> refine AL.callPost rfl rfl h1 rfl (fun m' hex hfit hle2 => ?_) (fun e m' hex hfit hle2 => APan.of ⟨_, m', .ubad hk hex, hfit, hle2, rfl, rfl⟩) <;> refine AL.nil ?_) | refine AW.jt ?_ | refine AW.jf ?_ | refine AW.jj (fun hb => ?_) (fun hb => ?_) | refine AW.go ?_ | fail)
  refine AW.prune [0, 3] (AW.loop (fun k af h => ∃ (v u : MS), k = (E.fuel - u.steps).toNat ∧ af = [(0, .ref B.mb 0), (3, .at s.st)] ∧ h = u.ah E B ∧ MFit F R sig E B u ∧ m.steps ≤ u.steps ∧ Ex E (.l s.Body) v none u ∧ ∀ o m2, Ex E (.s s) v o m2 → Ex E (.s s) m o m2) (E.fuel - m'.steps).toNat ⟨m, m', rfl, rfl, rfl, hfit, hle2, hex, fun o m2 h => h⟩ ?_)
  rintro k af h ⟨v, u, rfl, rfl, rfl, hu, hle, hex2, hx⟩
  refine AW.seq ?_
  have hfl := hu.flen
  have g0 := flag_get (fl := u.flags) (x := s.F) (by omega)
  have hus := hu.steps
  repeat' (first | (refine AW.dq 2 ?_; refine AQ.es 2 ?_; (first | refine AQ.p rfl AOp.fa ?_ | refine AQ.p rfl (AOp.fr 1) ?_) <;> (first | refine AQ.p rfl (AOp.load_cell 1 rfl rfl g0 rfl (by kernel_rfl)) ?_ | refine AQ.p rfl AOp.la ?_ | refine AQ.p rfl (AOp.ll 0) ?_) <;> (first | refine AQ.p rfl AOp.fa ?_ | refine AQ.p rfl (AOp.fr 1) ?_) <;> (first | refine AQ.p rfl (AOp.load_cell 1 rfl rfl g0 rfl (by kernel_rfl)) ?_ | refine AQ.p rfl AOp.la ?_ | refine AQ.p rfl (AOp.ll 0) ?_) <;> refine AQ.p rfl (AOp.index_osl rfl rfl (by omega) (by omega) (by kernel_rfl)) ?_ <;> (first | refine AQ.p rfl (AOp.load_cell 1 rfl rfl g0 rfl (by kernel_rfl)) ?_ | refine AQ.p rfl AOp.la ?_ | refine AQ.p rfl (AOp.ll 0) ?_) <;> refine AQ.es 1 ?_ <;> refine AQ.nil ?_) | refine AW.jt ?_ | refine AW.jf ?_ | refine AW.jj (fun hb => ?_) (fun hb => ?_) | refine AW.go ?_ | fail)
  · have hfg : flagAt u.flags s.F = false := by simpa using hb
    by_cases hst : u.steps < E.fuel
    · have h3 := mach_step_ok hu hst
      have h4 := hbd u.step (hu.step hst)
      have h5 : u.step.steps = u.steps + 1 := rfl
      repeat' (first | (refine xS 3 1 ?_; refine AL.d (AOp.call rfl rfl h3) ?_; refine AL.nil ?_) | refine AW.jt ?_ | refine AW.jf ?_ | refine AW.jj (fun hb => ?_) (fun hb => ?_) | refine AW.go ?_ | fail)
      repeat' (first | (refine xS 4 3 ?_; refine AL.callPost rfl rfl h4 rfl (fun m'' hex' hfit' hle' => ?_) (fun e m'' hex' hfit' hle' => APan.of ⟨_, m'', hx _ _ (.ustep hk hex2 hfg hst (.ubad hk hex')), hfit', by omega, rfl, rfl⟩) <;> refine AL.nil ?_) | refine AW.jt ?_ | refine AW.jf ?_ | refine AW.jj (fun hb => ?_) (fun hb => ?_) | refine AW.go ?_ | fail)
      have := hfit'.steps
      exact AW.again_keep (E.fuel - m''.steps).toNat [0, 3] (by omega) ⟨u.step, m'', rfl, rfl, rfl, hfit', by omega, hex', fun o m2 h => hx o m2 (.ustep hk hex2 hfg hst h)⟩
    · have h3 := mach_step_bad hu hst
      repeat' (first | (refine xS 3 1 ?_; exact AL.callStop rfl rfl h3 rfl (APan.of ⟨some 7, u, hx _ _ (.ustop hk hex2 hfg hst), hu, hle, rfl, rfl⟩) <;> refine AL.nil ?_) | refine AW.jt ?_ | refine AW.jf ?_ | refine AW.jj (fun hb => ?_) (fun hb => ?_) | refine AW.go ?_ | fail)
  · have hfg : flagAt u.flags s.F = true := by simpa using hb
    repeat' (first | refine AW.jt ?_ | refine AW.jf ?_ | refine AW.jj (fun hb => ?_) (fun hb => ?_) | refine AW.go ?_ | fail)
    exact AW.donev rfl ⟨none, u, hx _ _ (.uend hk hex2 hfg), hu, hle, rfl, rfl⟩
end
section
variable {F R : Nat} {sig : ByteArray → Option Nat} {E : Env} {B : Blk}
def PostB (F R : Nat) (sig : ByteArray → Option Nat) (E : Env) (B : Blk) (b : AH) (T : Task) (m : MS) : AEnd → AH → Prop := fun x h => ∃ h1, Post F R sig E B T m x h1 ∧ h = h1 ++ b
variable {C : Cx} {ds : List Deferred} {ks : List K} {af : AF} {ah : AH} {ops : Array Oper} {rest : List Oper}
theorem AL.callPostB {m : MS} {b : AH} {t : Task} {d : Option Tmp} {T : TypeId} {ps : String} {es : Array Edge} {f : FuncId} {y : Operand} {caps : List AV} {xs : Array Operand} {tys : Array TypeId} {args : List AV}
    (hy : aeval af y = some (.fn f caps)) (hx : aevals af xs.toList = some args) (h : Tri C.P f (args ++ caps) ah (PostB F R sig E B b t m)) (hd : okDst d C.n = true)
    (hk : ∀ m', Ex E t m none m' → MFit F R sig E B m' → m.steps ≤ m'.steps → AL C ds ks ops rest (put af d (.tup [])) (m'.ah E B ++ b)) (hp : ∀ e m', Ex E t m (some e) m' → MFit F R sig E B m' → m.steps ≤ m'.steps → APan C ds (stopV e) (m'.ah E B ++ b)) :
    AL C ds ks ops (⟨d, .call ⟨.value y, xs, tys⟩, T, ps, es, none⟩ :: rest) af ah := by
  refine AL.callQ hy hx h hd ?_ ?_
  · rintro v ah' ⟨_, ⟨o, m', hex, hfit, hle, rfl, hend⟩, rfl⟩
    cases o with
    | none => cases hend; exact hk m' hex hfit hle
    | some e => cases hend
  · rintro v ah' ⟨_, ⟨o, m', hex, hfit, hle, rfl, hend⟩, rfl⟩
    cases o with
    | none => cases hend
    | some e => cases hend; exact hp e m' hex hfit hle
def loopV (B : Blk) (s : GStmt) (bl : Nat) : AV := .fn 100 [.at (.ref B.mb 0), .at s.st, .ref bl 0]
theorem mach_loop (s : GStmt) (hbd : AllOk F R sig E B s.Body) (bl : Nat) : ∀ (k : Nat) (hk : k ≤ 12) (m : MS) (hm : MFit F R sig E B m),
    Tri Tryz.prog 100 [.int .i64 k, .at (.ref B.mb 0), .at s.st, .ref bl 0] (m.ah E B ++ [.box bl (loopV B s bl)]) (PostB F R sig E B [.box bl (loopV B s bl)] (.t s.Body k) m) := by
  intro k
  induction k with
  | zero =>
    intro hk m hm
    have h1 := (hbd m hm).behind [.box bl (loopV B s bl)]
    refine Tri.enter 22 Tryz.func100 rfl rfl rfl rfl fun Fr w0 => ?_
    repeat' (first | refine AW.re 0 2 ?_ | refine AW.jt ?_ | refine AW.jf ?_ | refine AW.jj (fun hb => ?_) (fun hb => ?_) | refine AW.go ?_ | fail)
    · repeat' (first | (refine xS 1 3 ?_; refine AL.callPostB rfl rfl h1 rfl (fun m' hex hfit hle2 => ?_) (fun e m' hex hfit hle2 => APan.of ⟨_, ⟨_, m', .tz hex, hfit, hle2, rfl, rfl⟩, rfl⟩) <;> refine AL.nil ?_) | refine AW.jt ?_ | refine AW.jf ?_ | refine AW.jj (fun hb => ?_) (fun hb => ?_) | refine AW.go ?_ | fail)
      exact AW.retv rfl ⟨_, ⟨none, m', .tz hex, hfit, hle2, rfl, rfl⟩, rfl⟩
  | succ k ih =>
    intro hk m hm
    have hn := hm.n
    refine Tri.enter 22 Tryz.func100 rfl rfl rfl rfl fun Fr w0 => ?_
    repeat' (first | refine AW.re 0 2 ?_ | (refine AW.r 2 ?_; (first | refine AL.d AOp.la ?_ | refine AL.d (AOp.ll 0) ?_) <;> refine AL.es 1 ?_ <;> (first | refine AL.d AOp.fa ?_ | refine AL.d (AOp.fr 0) ?_) <;> (first | refine AL.d AOp.la ?_ | refine AL.d (AOp.ll 0) ?_) <;> refine AL.es 1 ?_ <;> refine AL.nil ?_) | refine AW.jt ?_ | refine AW.jf ?_ | refine AW.jj (fun hb => ?_) (fun hb => ?_) | refine AW.go ?_ | fail)
    all_goals try (exfalso; simp at hb; omega)
    refine AW.prune [0, 1, 2, 3, 14, 15] (AW.loop (fun c af h => ∃ (i : Nat) (u : MS), (i : Int) ≤ E.n ∧ c = E.n.toNat - i ∧ af = [(0, .int .i64 (k + 1 : Nat)), (1, .at (.ref B.mb 0)), (2, .at s.st), (3, .ref bl 0), (14, .int .i64 E.n), (15, .int .i64 i)] ∧ h = u.ah E B ++ [.box bl (loopV B s bl)] ∧ MFit F R sig E B u ∧ m.steps ≤ u.steps ∧ ∀ o m', Ex E (.r s.Body k (E.n.toNat - i)) u o m' → Ex E (.t s.Body (k + 1)) m o m') E.n.toNat ⟨0, m, by omega, rfl, rfl, rfl, hm, Int.le_refl _, fun o m' h => .ts h⟩ ?_)
    rintro c af h ⟨i, u, hi, rfl, rfl, rfl, hu, hle, hx⟩
    refine AW.seq ?_
    by_cases hlt : (i : Int) < E.n
    · have hbox : (u.ah E B ++ [.box bl (loopV B s bl)])[(u.ah E B).length]? = some (.box bl (loopV B s bl)) := by simp
      have h2 := ih (by omega) u hu
      rw [show (k : Int) = ((k + 1 : Nat) : Int) - 1 by omega] at h2
      rw [show E.n.toNat - i = (E.n.toNat - (i + 1)) + 1 by omega] at hx
      repeat' (first | refine AW.re 3 1 ?_ | (refine AW.r 4 ?_; (first | refine AL.d (AOp.load_leaf (u.ah E B).length rfl hbox rfl rfl (by kernel_rfl)) ?_ | refine AL.d AOp.la ?_) <;> refine AL.es 1 ?_ <;> refine AL.d AOp.sb ?_ <;> refine AL.callPostB rfl rfl h2 rfl (fun m' hex hfit hle2 => ?_) (fun e m' hex hfit hle2 => APan.of ⟨_, ⟨_, m', hx _ _ (.rbad hex), hfit, by omega, rfl, rfl⟩, rfl⟩) <;> refine AL.nil ?_) | (refine AW.r 5 ?_; refine AL.d AOp.ad ?_; refine xN 1 ?_) | refine AW.jt ?_ | refine AW.jf ?_ | refine AW.jj (fun hb => ?_) (fun hb => ?_) | refine AW.go ?_ | fail)
      all_goals first
        | (exfalso; simp only [dT, dF, lM] at *; omega)
        | exact AW.again_keep (E.n.toNat - (i + 1)) [0, 1, 2, 3, 14, 15] (by omega) ⟨i + 1, m', by omega, rfl, rfl, rfl, hfit, by omega, fun o m2 h => hx o m2 (.rstep hex h)⟩
    · rw [show E.n.toNat - i = 0 by omega] at hx
      repeat' (first | refine AW.re 3 1 ?_ | refine AW.jt ?_ | refine AW.jf ?_ | refine AW.jj (fun hb => ?_) (fun hb => ?_) | refine AW.go ?_ | fail)
      all_goals first
        | (exfalso; simp only [dT, dF, lM] at *; omega)
        | exact AW.donev rfl ⟨_, ⟨none, u, hx _ _ .rz, hu, hle, rfl, rfl⟩, rfl⟩
theorem mach_times (s : GStmt) (hs : Fit F R sig s) (hk : s.Kind = 9) (hl : s.Body.length ≤ 4611686018427387904) (hbd : AllOk F R sig E B s.Body) (m : MS) (hm : MFit F R sig E B m) :
    Tri Tryz.prog 70 [.ref B.mb 0, s.st] (m.ah E B) (Post F R sig E B (.s s) m) := by
  have hN := hs.n
  have hlen : ((s.Body.map GStmt.av).length : Int) = s.Body.length := by simp
  refine Tri.enter 14 Tryz.func70 rfl rfl rfl rfl fun Fr w0 => ?_
  repeat' (first | (refine AW.r 0 ?_; refine AL.d (AOp.box_ro rfl rfl) ?_; refine AL.d (AOp.box_ro rfl rfl) ?_; refine AL.nil ?_) | refine AW.re 1 4 ?_ | refine AW.jt ?_ | refine AW.jf ?_ | refine AW.jj (fun hb => ?_) (fun hb => ?_) | refine AW.go ?_ | fail)
  · have h0 : s.Body = [] := by
      have : (s.Body.length : Int) = 0 := by rw [← hlen]; simpa using hb
      exact List.length_eq_zero_iff.1 (by omega)
    exact AW.retv rfl ⟨none, m, .t0 hk h0, hm, Int.le_refl _, rfl, rfl⟩
  · have h0 : s.Body ≠ [] := by
      rintro e
      rw [e] at hb
      simp at hb
    repeat' (first | (refine AW.r 2 ?_; refine AL.alloc_z (.val .nilFunc) (by kernel_rfl) rfl rfl fun bl => ?_; refine AL.nil ?_) | (refine xS 3 1 ?_; refine AL.sl 0 ?_; refine AL.nil ?_) | refine AW.jt ?_ | refine AW.jf ?_ | refine AW.jj (fun hb => ?_) (fun hb => ?_) | refine AW.go ?_ | fail)
    refine AW.perm (b := m.ah E B ++ [.box bl (loopV B s bl)]) (List.perm_append_comm (l₁ := [_])) ?_
    have hbox : (m.ah E B ++ [.box bl (loopV B s bl)])[(m.ah E B).length]? = some (.box bl (loopV B s bl)) := by simp
    have h2 := mach_loop s hbd bl s.N.toNat (by omega) m hm
    rw [show ((s.N.toNat : Nat) : Int) = s.N by omega] at h2
    repeat' (first | (refine AW.r 4 ?_; (first | refine AL.d (AOp.load_leaf (m.ah E B).length rfl hbox rfl rfl (by kernel_rfl)) ?_ | refine AL.d AOp.la ?_) <;> refine AL.es 1 ?_ <;> (first | refine AL.d (AOp.load_leaf (m.ah E B).length rfl hbox rfl rfl (by kernel_rfl)) ?_ | refine AL.d AOp.la ?_) <;> refine AL.callPostB rfl rfl h2 rfl (fun m' hex hfit hle2 => ?_) (fun e m' hex hfit hle2 => APan.drop (List.sublist_append_left _ _) (APan.of ⟨_, m', .t1 hk h0 hex, hfit, hle2, rfl, rfl⟩)) <;> refine AL.nil ?_) | refine AW.jt ?_ | refine AW.jf ?_ | refine AW.jj (fun hb => ?_) (fun hb => ?_) | refine AW.go ?_ | fail)
    exact AW.done_drop rfl (List.sublist_append_left _ _) ⟨none, m', .t1 hk h0 hex, hfit, hle2, rfl, rfl⟩
theorem prim_steps (n : Int) (s : GStmt) (m : MS) : (prim n s m).steps = m.steps := by
  have hif : ∀ (c : Prop) [Decidable c] (a b : MS), a.steps = m.steps → b.steps = m.steps → (if c then a else b).steps = m.steps := fun c _ a b h1 h2 => by split <;> assumption
  unfold prim
  exact hif _ _ _ rfl (hif _ _ _ rfl (hif _ _ _ rfl (hif _ _ _ rfl (hif _ _ _ rfl (hif _ _ _ rfl (hif _ _ _ rfl (hif _ _ _ rfl (hif _ _ _ rfl rfl))))))))
theorem Post.of_prim {m : MS} {s : GStmt} {f : FuncId} {args : List AV} (hm : MFit F R sig E B m) (hs : Fit F R sig s) (hp : isPrim s.Kind) (h : Tri Tryz.prog f args (m.ah E B) (D (.tup []) ((prim E.n s m).ah E B))) : Tri Tryz.prog f args (m.ah E B) (Post F R sig E B (.s s) m) :=
  h.mono fun x h' ⟨h1, h2⟩ => ⟨none, prim E.n s m, .prim hp, hm.prim s hs, by rw [prim_steps]; exact Int.le_refl _, h2, h1⟩
theorem mach_stmt (s : GStmt) (hok : s.Ok) (hs : SFit F R sig s) (hb : AllOk F R sig E B s.Body) (he : AllOk F R sig E B s.Else) (m : MS) (hm : MFit F R sig E B m) :
    Tri Tryz.prog (fnOf s.Kind) [.ref B.mb 0, s.st] (m.ah E B) (Post F R sig E B (.s s) m) := by
  have hf := hs.fit
  obtain ⟨hg, hb1, _, he1, _⟩ := hok
  have hl1 : s.Lit.At.length ≤ 4611686018427387904 := by have := hg.2.2.2.2.2.2.2.1.2.2.1; omega
  have hl2 : s.Regs.length ≤ 4611686018427387904 := by have := hg.2.2.2.2.2.2.2.2.1; omega
  have hk := hf.kind
  have hc : s.Kind = 0 ∨ s.Kind = 1 ∨ s.Kind = 2 ∨ s.Kind = 3 ∨ s.Kind = 4 ∨ s.Kind = 5 ∨ s.Kind = 6 ∨ s.Kind = 7 ∨ s.Kind = 8 ∨ s.Kind = 9 ∨ s.Kind = 10 ∨ s.Kind = 11 ∨ s.Kind = 12 ∨ s.Kind = 13 ∨ s.Kind = 14 := by omega
  rcases hc with h | h | h | h | h | h | h | h | h | h | h | h | h | h | h
  · rw [show fnOf s.Kind = 59 by rw [h]; rfl]; exact Post.of_prim hm hf (by unfold isPrim; omega) (mach_0 hm s hf h hl1)
  · rw [show fnOf s.Kind = 61 by rw [h]; rfl]; exact Post.of_prim hm hf (by unfold isPrim; omega) (mach_1 hm s hf h)
  · rw [show fnOf s.Kind = 62 by rw [h]; rfl]; exact Post.of_prim hm hf (by unfold isPrim; omega) (mach_2 hm s hf h)
  · rw [show fnOf s.Kind = 63 by rw [h]; rfl]; exact Post.of_prim hm hf (by unfold isPrim; omega) (mach_3 hm s hf h)
  · rw [show fnOf s.Kind = 64 by rw [h]; rfl]; exact Post.of_prim hm hf (by unfold isPrim; omega) (mach_4 hm s hf h)
  · rw [show fnOf s.Kind = 65 by rw [h]; rfl]; exact Post.of_prim hm hf (by unfold isPrim; omega) (mach_5 hm s hf h)
  · rw [show fnOf s.Kind = 66 by rw [h]; rfl]; exact Post.of_prim hm hf (by unfold isPrim; omega) (mach_6 hm s hf h hl2)
  · rw [show fnOf s.Kind = 68 by rw [h]; rfl]; exact mach_each s hf h hb m hm
  · rw [show fnOf s.Kind = 69 by rw [h]; rfl]; exact mach_if s hf h hb he m hm
  · rw [show fnOf s.Kind = 70 by rw [h]; rfl]; exact mach_times s hf h (by omega) hb m hm
  · rw [show fnOf s.Kind = 71 by rw [h]; rfl]; exact mach_until s hf h hb m hm
  · rw [show fnOf s.Kind = 73 by rw [h]; rfl]; exact Post.of_prim hm hf (by unfold isPrim; omega) (mach_11 hm s hf h)
  · rw [show fnOf s.Kind = 74 by rw [h]; rfl]
    by_cases hg : (E.G.length : Int) - m.used < (m.rels s.Name).length
    · exact (mach_guess_bad hm s hf h hg).mono fun x h' ⟨h1, h2⟩ => ⟨some 2, m, .gbad h hg, hm, Int.le_refl _, h2, h1⟩
    · exact (mach_guess_ok hm s hf h hg).mono fun x h' ⟨h1, h2⟩ => ⟨none, _, .gok h hg, hm.guess s hg, Int.le_refl _, h2, h1⟩
  · rw [show fnOf s.Kind = 75 by rw [h]; rfl]; exact Post.of_prim hm hf (by unfold isPrim; omega) (mach_13 hm s hf h)
  · rw [show fnOf s.Kind = 76 by rw [h]; rfl]; exact Post.of_prim hm hf (by unfold isPrim; omega) (mach_14 hm s hf h)
theorem mach_list : ∀ (n : Nat) (l : List GStmt), cntL l ≤ n → l.length ≤ 4611686018427387904 → (∀ x ∈ l, x.Ok) → (∀ x ∈ l, SFit F R sig x) → AllOk F R sig E B l := by
  intro n
  induction n using Nat.strongRecOn with
  | _ n ih =>
    intro l hn hl hok hs m hm
    refine mach_all l hl hs (fun x hx m hm => ?_) m hm
    have hc := cnt_mem hx
    have hcs := cntS_eq x
    have hxo := hok x hx
    have hxs := hs x hx
    obtain ⟨_, hb1, hb2, he1, he2⟩ := id hxo
    exact mach_stmt x hxo hxs (ih (cntL x.Body) (by omega) x.Body (Nat.le_refl _) (by omega) hb2 hxs.body) (ih (cntL x.Else) (by omega) x.Else (Nat.le_refl _) (by omega) he2 hxs.els) m hm
end
theorem code_actions : Tri Tryz.prog 28 [] [] (fun x h => ∃ b g, x = .ret (.map b) ∧ h = [.map b runKV g]) := by
  refine Tri.enter 3 Tryz.func28 rfl rfl rfl rfl fun Fr w0 => ?_
  repeat' (first | refine AW.re 0 1 ?_ | (refine AW.r 1 ?_; refine AL.makeMap rfl fun b => ?_; refine AL.insert (i := 0) (kd := .int .i64) (e := 115) rfl rfl rfl rfl (by kernel_rfl) rfl rfl ?_; refine AL.insert (i := 0) (kd := .int .i64) (e := 115) rfl rfl rfl rfl (by kernel_rfl) rfl rfl ?_; refine AL.insert (i := 0) (kd := .int .i64) (e := 115) rfl rfl rfl rfl (by kernel_rfl) rfl rfl ?_; refine AL.insert (i := 0) (kd := .int .i64) (e := 115) rfl rfl rfl rfl (by kernel_rfl) rfl rfl ?_; refine AL.insert (i := 0) (kd := .int .i64) (e := 115) rfl rfl rfl rfl (by kernel_rfl) rfl rfl ?_; refine AL.insert (i := 0) (kd := .int .i64) (e := 115) rfl rfl rfl rfl (by kernel_rfl) rfl rfl ?_; refine AL.insert (i := 0) (kd := .int .i64) (e := 115) rfl rfl rfl rfl (by kernel_rfl) rfl rfl ?_; refine AL.insert (i := 0) (kd := .int .i64) (e := 115) rfl rfl rfl rfl (by kernel_rfl) rfl rfl ?_; refine AL.insert (i := 0) (kd := .int .i64) (e := 115) rfl rfl rfl rfl (by kernel_rfl) rfl rfl ?_; refine AL.insert (i := 0) (kd := .int .i64) (e := 115) rfl rfl rfl rfl (by kernel_rfl) rfl rfl ?_; refine AL.insert (i := 0) (kd := .int .i64) (e := 115) rfl rfl rfl rfl (by kernel_rfl) rfl rfl ?_; refine AL.insert (i := 0) (kd := .int .i64) (e := 115) rfl rfl rfl rfl (by kernel_rfl) rfl rfl ?_; refine AL.insert (i := 0) (kd := .int .i64) (e := 115) rfl rfl rfl rfl (by kernel_rfl) rfl rfl ?_; refine AL.insert (i := 0) (kd := .int .i64) (e := 115) rfl rfl rfl rfl (by kernel_rfl) rfl rfl ?_; refine AL.insert (i := 0) (kd := .int .i64) (e := 115) rfl rfl rfl rfl (by kernel_rfl) rfl rfl ?_; refine xN 2 ?_) | refine AW.jt ?_ | refine AW.jf ?_ | refine AW.jj (fun hb => ?_) (fun hb => ?_) | refine AW.go ?_ | fail)
  first
    | exact AW.retv rfl ⟨_, _, rfl, rfl⟩
    | exact AW.donev rfl ⟨_, _, rfl, rfl⟩
end Go.Proofs.YtkolalhekgmmdaaGreat
