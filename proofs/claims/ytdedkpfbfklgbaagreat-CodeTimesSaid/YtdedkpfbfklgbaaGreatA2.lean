/- Contracts of the functions, part 2. -/
import Derived.Test.YtdedkpfbfklgbaaGreatA1
import Derived.Test.YtdedkpfbfklgbaaGreatA1
import Derived.Test.YtdedkpfbfklgbaaGreatS2
namespace Go.Proofs.YtdedkpfbfklgbaaGreat
open Go.RowKit Go.SX
set_option maxRecDepth 100000
set_option maxHeartbeats 4000000
set_option linter.unusedVariables false
set_option linter.unusedSimpArgs false

def plainB (s : GStmt) (u : ByteArray) : Bool :=
  let e := (!decide (s.Lit.Kind = 0) || s.Lit.Neg || !decide (s.Lit.Name = ⟨#[]⟩) || !decide (s.Lit.At.length = 0))
  (decide (s.F = 0) || hasB u 70) && (decide (s.G = 0) || hasB u 71) && (decide (s.R = 0) || hasB u 82) && (decide (s.N = 0) || hasB u 78) && (decide (s.Name = ⟨#[]⟩) || hasB u 110) && (decide (s.From = ⟨#[]⟩) || hasB u 102) && (!e || hasB u 108) && (decide (s.Regs.length = 0) || hasB u 114) && (decide (s.Body.length = 0) || hasB u 98) && (decide (s.Else.length = 0) || hasB u 101)
theorem ref_plain (s : GStmt) (u : ByteArray) (hu : strOk u) : Tri Tryz.prog 132 [s.st, .str u] [] (D (.bool (plainB s u)) []) := by
  have hz : ∀ e : Bool, e = (!decide (s.Lit.Kind = 0) || s.Lit.Neg || !decide (s.Lit.Name = ⟨#[]⟩) || !decide (s.Lit.At.length = 0)) → plainB s u = ((decide (s.F = 0) || hasB u 70) && (decide (s.G = 0) || hasB u 71) && (decide (s.R = 0) || hasB u 82) && (decide (s.N = 0) || hasB u 78) && (decide (s.Name = ⟨#[]⟩) || hasB u 110) && (decide (s.From = ⟨#[]⟩) || hasB u 102) && (!e || hasB u 108) && (decide (s.Regs.length = 0) || hasB u 114) && (decide (s.Body.length = 0) || hasB u 98) && (decide (s.Else.length = 0) || hasB u 101)) := by rintro e rfl; rfl
  have hh := fun n => ref_has u n hu
  have l1 : (s.Lit.At.map iav).length = s.Lit.At.length := List.length_map _
  have l2 : (s.Regs.map iav).length = s.Regs.length := List.length_map _
  have l3 : (s.Body.map GStmt.av).length = s.Body.length := List.length_map _
  have l4 : (s.Else.map GStmt.av).length = s.Else.length := List.length_map _
  refine Tri.enter 118 Tryz.func132 rfl rfl rfl rfl fun Fr w0 => ?_
  repeat' (first
    | refine AW.seq ?_
    | (refine AW.region_at 0 ?_ <;> (first | refine AL.d (AOp.box_ro rfl rfl) ?_ | refine AL.d (AOp.box_ro rfl rfl) ?_) <;> refine AL.e ?_ <;> refine AL.nil ?_)
    | refine AW.cond_true rfl ?_
    | refine AW.cond_false rfl ?_
    | refine AW.block ?_
    | refine AW.endblk ?_
    | refine AW.skip ?_
    | refine AW.exit rfl ?_
    | refine AW.label ?_
    | refine AW.j (fun hb => ?_) (fun hb => ?_))
  refine AW.cut (fun af ah => ∃ e : Bool, af = [(1, .str u), (2, .at s.st), (5, .bool e)] ∧ ah = [] ∧ e = (!decide (s.Lit.Kind = 0) || s.Lit.Neg || !decide (s.Lit.Name = ⟨#[]⟩) || !decide (s.Lit.At.length = 0))) ?_ ?_
  · repeat' (first
      | refine AW.seq ?_
      | (refine AW.region_at 1 ?_ <;> (first | refine AL.d AOp.fa ?_ | refine AL.d (AOp.fr 7) ?_) <;> (first | refine AL.d AOp.fa ?_ | refine AL.d (AOp.fr 0) ?_) <;> refine AL.d AOp.la ?_ <;> refine AL.e ?_ <;> refine AL.e ?_ <;> (first | (refine AL.gd ?_; (first | refine AL.d AOp.fa ?_ | refine AL.d (AOp.fr 7) ?_)) | refine AL.gs ?_ | refine AL.gu ?_ | (refine AL.gx (fun hb => ?_) (fun hb => ?_) <;> first | (refine AL.gd ?_; (first | refine AL.d AOp.fa ?_ | refine AL.d (AOp.fr 7) ?_)) | refine AL.gs ?_)) <;> (first | (refine AL.gd ?_; (first | refine AL.d AOp.fa ?_ | refine AL.d (AOp.fr 1) ?_)) | refine AL.gs ?_ | refine AL.gu ?_) <;> (first | (refine AL.gd ?_; refine AL.d AOp.la ?_) | refine AL.gs ?_ | refine AL.gu ?_) <;> refine AL.e ?_ <;> refine AL.e ?_ <;> (first | (refine AL.gd ?_; (first | refine AL.d AOp.fa ?_ | refine AL.d (AOp.fr 7) ?_)) | refine AL.gs ?_ | refine AL.gu ?_ | (refine AL.gx (fun hb => ?_) (fun hb => ?_) <;> first | (refine AL.gd ?_; (first | refine AL.d AOp.fa ?_ | refine AL.d (AOp.fr 7) ?_)) | refine AL.gs ?_)) <;> (first | (refine AL.gd ?_; (first | refine AL.d AOp.fa ?_ | refine AL.d (AOp.fr 2) ?_)) | refine AL.gs ?_ | refine AL.gu ?_) <;> (first | (refine AL.gd ?_; refine AL.d AOp.la ?_) | refine AL.gs ?_ | refine AL.gu ?_) <;> (first | (refine AL.gd ?_; refine AL.e ?_) | refine AL.gs ?_ | refine AL.gu ?_) <;> refine AL.e ?_ <;> refine AL.e ?_ <;> (first | (refine AL.gd ?_; (first | refine AL.d AOp.fa ?_ | refine AL.d (AOp.fr 7) ?_)) | refine AL.gs ?_ | refine AL.gu ?_ | (refine AL.gx (fun hb => ?_) (fun hb => ?_) <;> first | (refine AL.gd ?_; (first | refine AL.d AOp.fa ?_ | refine AL.d (AOp.fr 7) ?_)) | refine AL.gs ?_)) <;> (first | (refine AL.gd ?_; (first | refine AL.d AOp.fa ?_ | refine AL.d (AOp.fr 3) ?_)) | refine AL.gs ?_ | refine AL.gu ?_) <;> (first | (refine AL.gd ?_; refine AL.d AOp.la ?_) | refine AL.gs ?_ | refine AL.gu ?_) <;> (first | (refine AL.gd ?_; refine AL.d AOp.ln ?_) | refine AL.gs ?_ | refine AL.gu ?_) <;> (first | (refine AL.gd ?_; refine AL.e ?_) | refine AL.gs ?_ | refine AL.gu ?_) <;> refine AL.e ?_ <;> refine AL.e ?_ <;> refine AL.nil ?_)
      | refine AW.cond_true rfl ?_
      | refine AW.cond_false rfl ?_
      | refine AW.block ?_
      | refine AW.endblk ?_
      | refine AW.skip ?_
      | refine AW.exit rfl ?_
      | refine AW.label ?_
      | refine AW.j (fun hb => ?_) (fun hb => ?_))
    all_goals (refine AW.meet [1, 2, 5] ⟨_, rfl, rfl, ?_⟩; (try simp only [toList_beq] at *); simp_all [ofConst])
    all_goals (try (rw [Bool.eq_iff_iff]; simp; first | omega | exact List.length_pos_iff))
  rintro af ah ⟨e, rfl, rfl, he⟩
  have hz := hz e he
  clear he
  refine AW.seq ?_
  refine AW.region_at 2 ?_
  refine AL.cut 8 (fun af ah => ∃ v : Bool, af = [(35, .bool v), (1, .str u), (2, .at s.st), (5, .bool e)] ∧ ah = [] ∧ v = ((decide (s.F = 0) || hasB u 70))) ?_ ?_
  · (first | refine AL.d AOp.fa ?_ | refine AL.d (AOp.fr 1) ?_) <;> (refine AL.d AOp.la ?_) <;> (refine AL.e ?_) <;> (refine AL.e ?_) <;> (first | (refine AL.gd ?_; refine AL.e ?_) | refine AL.gs ?_ | refine AL.gu ?_ | (refine AL.gx (fun hb => ?_) (fun hb => ?_) <;> first | (refine AL.gd ?_; refine AL.e ?_) | refine AL.gs ?_)) <;> (first | (refine AL.gd ?_; refine AL.d (AOp.call rfl rfl (hh _)) ?_) | refine AL.gs ?_ | refine AL.gu ?_) <;> (refine AL.e ?_) <;> (refine AL.e ?_) <;> (refine AL.nil ?_)
    all_goals (refine AW.meet [35, 1, 2, 5] ⟨_, rfl, rfl, ?_⟩; (try simp only [toList_beq] at *); simp_all [ofConst])
    all_goals (try (rw [Bool.eq_iff_iff]; simp))
  rintro af ah ⟨v1, rfl, rfl, h1⟩
  refine AL.cut 9 (fun af ah => ∃ v : Bool, af = [(44, .bool v), (1, .str u), (2, .at s.st), (5, .bool e)] ∧ ah = [] ∧ v = (v1 && (decide (s.G = 0) || hasB u 71))) ?_ ?_
  · (first | (refine AL.gd ?_; (first | refine AL.d AOp.fa ?_ | refine AL.d (AOp.fr 2) ?_)) | refine AL.gs ?_ | refine AL.gu ?_ | (refine AL.gx (fun hb => ?_) (fun hb => ?_) <;> first | (refine AL.gd ?_; (first | refine AL.d AOp.fa ?_ | refine AL.d (AOp.fr 2) ?_)) | refine AL.gs ?_)) <;> (first | (refine AL.gd ?_; refine AL.d AOp.la ?_) | refine AL.gs ?_ | refine AL.gu ?_) <;> (first | (refine AL.gd ?_; refine AL.e ?_) | refine AL.gs ?_ | refine AL.gu ?_) <;> (first | (refine AL.gd ?_; refine AL.e ?_) | refine AL.gs ?_ | refine AL.gu ?_) <;> (first | (refine AL.gd ?_; refine AL.e ?_) | refine AL.gs ?_ | refine AL.gu ?_ | (refine AL.gx (fun hb => ?_) (fun hb => ?_) <;> first | (refine AL.gd ?_; refine AL.e ?_) | refine AL.gs ?_)) <;> (first | (refine AL.gd ?_; refine AL.d (AOp.call rfl rfl (hh _)) ?_) | refine AL.gs ?_ | refine AL.gu ?_) <;> (first | (refine AL.gd ?_; refine AL.e ?_) | refine AL.gs ?_ | refine AL.gu ?_) <;> (refine AL.e ?_) <;> (refine AL.e ?_) <;> (refine AL.nil ?_)
    all_goals (refine AW.meet [44, 1, 2, 5] ⟨_, rfl, rfl, ?_⟩; (try simp only [toList_beq] at *); simp_all [ofConst])
    all_goals (try (rw [Bool.eq_iff_iff]; simp))
  rintro af ah ⟨v2, rfl, rfl, h2⟩
  refine AL.cut 9 (fun af ah => ∃ v : Bool, af = [(53, .bool v), (1, .str u), (2, .at s.st), (5, .bool e)] ∧ ah = [] ∧ v = (v2 && (decide (s.R = 0) || hasB u 82))) ?_ ?_
  · (first | (refine AL.gd ?_; (first | refine AL.d AOp.fa ?_ | refine AL.d (AOp.fr 3) ?_)) | refine AL.gs ?_ | refine AL.gu ?_ | (refine AL.gx (fun hb => ?_) (fun hb => ?_) <;> first | (refine AL.gd ?_; (first | refine AL.d AOp.fa ?_ | refine AL.d (AOp.fr 3) ?_)) | refine AL.gs ?_)) <;> (first | (refine AL.gd ?_; refine AL.d AOp.la ?_) | refine AL.gs ?_ | refine AL.gu ?_) <;> (first | (refine AL.gd ?_; refine AL.e ?_) | refine AL.gs ?_ | refine AL.gu ?_) <;> (first | (refine AL.gd ?_; refine AL.e ?_) | refine AL.gs ?_ | refine AL.gu ?_) <;> (first | (refine AL.gd ?_; refine AL.e ?_) | refine AL.gs ?_ | refine AL.gu ?_ | (refine AL.gx (fun hb => ?_) (fun hb => ?_) <;> first | (refine AL.gd ?_; refine AL.e ?_) | refine AL.gs ?_)) <;> (first | (refine AL.gd ?_; refine AL.d (AOp.call rfl rfl (hh _)) ?_) | refine AL.gs ?_ | refine AL.gu ?_) <;> (first | (refine AL.gd ?_; refine AL.e ?_) | refine AL.gs ?_ | refine AL.gu ?_) <;> (refine AL.e ?_) <;> (refine AL.e ?_) <;> (refine AL.nil ?_)
    all_goals (refine AW.meet [53, 1, 2, 5] ⟨_, rfl, rfl, ?_⟩; (try simp only [toList_beq] at *); simp_all [ofConst])
    all_goals (try (rw [Bool.eq_iff_iff]; simp))
  rintro af ah ⟨v3, rfl, rfl, h3⟩
  refine AL.cut 9 (fun af ah => ∃ v : Bool, af = [(62, .bool v), (1, .str u), (2, .at s.st), (5, .bool e)] ∧ ah = [] ∧ v = (v3 && (decide (s.N = 0) || hasB u 78))) ?_ ?_
  · (first | (refine AL.gd ?_; (first | refine AL.d AOp.fa ?_ | refine AL.d (AOp.fr 4) ?_)) | refine AL.gs ?_ | refine AL.gu ?_ | (refine AL.gx (fun hb => ?_) (fun hb => ?_) <;> first | (refine AL.gd ?_; (first | refine AL.d AOp.fa ?_ | refine AL.d (AOp.fr 4) ?_)) | refine AL.gs ?_)) <;> (first | (refine AL.gd ?_; refine AL.d AOp.la ?_) | refine AL.gs ?_ | refine AL.gu ?_) <;> (first | (refine AL.gd ?_; refine AL.e ?_) | refine AL.gs ?_ | refine AL.gu ?_) <;> (first | (refine AL.gd ?_; refine AL.e ?_) | refine AL.gs ?_ | refine AL.gu ?_) <;> (first | (refine AL.gd ?_; refine AL.e ?_) | refine AL.gs ?_ | refine AL.gu ?_ | (refine AL.gx (fun hb => ?_) (fun hb => ?_) <;> first | (refine AL.gd ?_; refine AL.e ?_) | refine AL.gs ?_)) <;> (first | (refine AL.gd ?_; refine AL.d (AOp.call rfl rfl (hh _)) ?_) | refine AL.gs ?_ | refine AL.gu ?_) <;> (first | (refine AL.gd ?_; refine AL.e ?_) | refine AL.gs ?_ | refine AL.gu ?_) <;> (refine AL.e ?_) <;> (refine AL.e ?_) <;> (refine AL.nil ?_)
    all_goals (refine AW.meet [62, 1, 2, 5] ⟨_, rfl, rfl, ?_⟩; (try simp only [toList_beq] at *); simp_all [ofConst])
    all_goals (try (rw [Bool.eq_iff_iff]; simp))
  rintro af ah ⟨v4, rfl, rfl, h4⟩
  refine AL.cut 9 (fun af ah => ∃ v : Bool, af = [(71, .bool v), (1, .str u), (2, .at s.st), (5, .bool e)] ∧ ah = [] ∧ v = (v4 && (decide (s.Name = ⟨#[]⟩) || hasB u 110))) ?_ ?_
  · (first | (refine AL.gd ?_; (first | refine AL.d AOp.fa ?_ | refine AL.d (AOp.fr 5) ?_)) | refine AL.gs ?_ | refine AL.gu ?_ | (refine AL.gx (fun hb => ?_) (fun hb => ?_) <;> first | (refine AL.gd ?_; (first | refine AL.d AOp.fa ?_ | refine AL.d (AOp.fr 5) ?_)) | refine AL.gs ?_)) <;> (first | (refine AL.gd ?_; refine AL.d AOp.la ?_) | refine AL.gs ?_ | refine AL.gu ?_) <;> (first | (refine AL.gd ?_; refine AL.e ?_) | refine AL.gs ?_ | refine AL.gu ?_) <;> (first | (refine AL.gd ?_; refine AL.e ?_) | refine AL.gs ?_ | refine AL.gu ?_) <;> (first | (refine AL.gd ?_; refine AL.e ?_) | refine AL.gs ?_ | refine AL.gu ?_ | (refine AL.gx (fun hb => ?_) (fun hb => ?_) <;> first | (refine AL.gd ?_; refine AL.e ?_) | refine AL.gs ?_)) <;> (first | (refine AL.gd ?_; refine AL.d (AOp.call rfl rfl (hh _)) ?_) | refine AL.gs ?_ | refine AL.gu ?_) <;> (first | (refine AL.gd ?_; refine AL.e ?_) | refine AL.gs ?_ | refine AL.gu ?_) <;> (refine AL.e ?_) <;> (refine AL.e ?_) <;> (refine AL.nil ?_)
    all_goals (refine AW.meet [71, 1, 2, 5] ⟨_, rfl, rfl, ?_⟩; (try simp only [toList_beq] at *); simp_all [ofConst])
    all_goals (try (rw [Bool.eq_iff_iff]; simp))
  rintro af ah ⟨v5, rfl, rfl, h5⟩
  refine AL.cut 9 (fun af ah => ∃ v : Bool, af = [(80, .bool v), (1, .str u), (2, .at s.st), (5, .bool e)] ∧ ah = [] ∧ v = (v5 && (decide (s.From = ⟨#[]⟩) || hasB u 102))) ?_ ?_
  · (first | (refine AL.gd ?_; (first | refine AL.d AOp.fa ?_ | refine AL.d (AOp.fr 6) ?_)) | refine AL.gs ?_ | refine AL.gu ?_ | (refine AL.gx (fun hb => ?_) (fun hb => ?_) <;> first | (refine AL.gd ?_; (first | refine AL.d AOp.fa ?_ | refine AL.d (AOp.fr 6) ?_)) | refine AL.gs ?_)) <;> (first | (refine AL.gd ?_; refine AL.d AOp.la ?_) | refine AL.gs ?_ | refine AL.gu ?_) <;> (first | (refine AL.gd ?_; refine AL.e ?_) | refine AL.gs ?_ | refine AL.gu ?_) <;> (first | (refine AL.gd ?_; refine AL.e ?_) | refine AL.gs ?_ | refine AL.gu ?_) <;> (first | (refine AL.gd ?_; refine AL.e ?_) | refine AL.gs ?_ | refine AL.gu ?_ | (refine AL.gx (fun hb => ?_) (fun hb => ?_) <;> first | (refine AL.gd ?_; refine AL.e ?_) | refine AL.gs ?_)) <;> (first | (refine AL.gd ?_; refine AL.d (AOp.call rfl rfl (hh _)) ?_) | refine AL.gs ?_ | refine AL.gu ?_) <;> (first | (refine AL.gd ?_; refine AL.e ?_) | refine AL.gs ?_ | refine AL.gu ?_) <;> (refine AL.e ?_) <;> (refine AL.e ?_) <;> (refine AL.nil ?_)
    all_goals (refine AW.meet [80, 1, 2, 5] ⟨_, rfl, rfl, ?_⟩; (try simp only [toList_beq] at *); simp_all [ofConst])
    all_goals (try (rw [Bool.eq_iff_iff]; simp))
  rintro af ah ⟨v6, rfl, rfl, h6⟩
  refine AL.cut 8 (fun af ah => ∃ v : Bool, af = [(88, .bool v), (1, .str u), (2, .at s.st), (5, .bool e)] ∧ ah = [] ∧ v = (v6 && (!e || hasB u 108))) ?_ ?_
  · (first | (refine AL.gd ?_; refine AL.e ?_) | refine AL.gs ?_ | refine AL.gu ?_ | (refine AL.gx (fun hb => ?_) (fun hb => ?_) <;> first | (refine AL.gd ?_; refine AL.e ?_) | refine AL.gs ?_)) <;> (first | (refine AL.gd ?_; refine AL.e ?_) | refine AL.gs ?_ | refine AL.gu ?_) <;> (first | (refine AL.gd ?_; refine AL.e ?_) | refine AL.gs ?_ | refine AL.gu ?_) <;> (first | (refine AL.gd ?_; refine AL.e ?_) | refine AL.gs ?_ | refine AL.gu ?_ | (refine AL.gx (fun hb => ?_) (fun hb => ?_) <;> first | (refine AL.gd ?_; refine AL.e ?_) | refine AL.gs ?_)) <;> (first | (refine AL.gd ?_; refine AL.d (AOp.call rfl rfl (hh _)) ?_) | refine AL.gs ?_ | refine AL.gu ?_) <;> (first | (refine AL.gd ?_; refine AL.e ?_) | refine AL.gs ?_ | refine AL.gu ?_) <;> (refine AL.e ?_) <;> (refine AL.e ?_) <;> (refine AL.nil ?_)
    all_goals (refine AW.meet [88, 1, 2, 5] ⟨_, rfl, rfl, ?_⟩; (try simp only [toList_beq] at *); simp_all [ofConst])
    all_goals (try (rw [Bool.eq_iff_iff]; simp))
  rintro af ah ⟨v7, rfl, rfl, h7⟩
  refine AL.cut 10 (fun af ah => ∃ v : Bool, af = [(98, .bool v), (1, .str u), (2, .at s.st), (5, .bool e)] ∧ ah = [] ∧ v = (v7 && (decide (s.Regs.length = 0) || hasB u 114))) ?_ ?_
  · (first | (refine AL.gd ?_; (first | refine AL.d AOp.fa ?_ | refine AL.d (AOp.fr 11) ?_)) | refine AL.gs ?_ | refine AL.gu ?_ | (refine AL.gx (fun hb => ?_) (fun hb => ?_) <;> first | (refine AL.gd ?_; (first | refine AL.d AOp.fa ?_ | refine AL.d (AOp.fr 11) ?_)) | refine AL.gs ?_)) <;> (first | (refine AL.gd ?_; refine AL.d AOp.la ?_) | refine AL.gs ?_ | refine AL.gu ?_) <;> (first | (refine AL.gd ?_; refine AL.d AOp.ln ?_) | refine AL.gs ?_ | refine AL.gu ?_) <;> (first | (refine AL.gd ?_; refine AL.e ?_) | refine AL.gs ?_ | refine AL.gu ?_) <;> (first | (refine AL.gd ?_; refine AL.e ?_) | refine AL.gs ?_ | refine AL.gu ?_) <;> (first | (refine AL.gd ?_; refine AL.e ?_) | refine AL.gs ?_ | refine AL.gu ?_ | (refine AL.gx (fun hb => ?_) (fun hb => ?_) <;> first | (refine AL.gd ?_; refine AL.e ?_) | refine AL.gs ?_)) <;> (first | (refine AL.gd ?_; refine AL.d (AOp.call rfl rfl (hh _)) ?_) | refine AL.gs ?_ | refine AL.gu ?_) <;> (first | (refine AL.gd ?_; refine AL.e ?_) | refine AL.gs ?_ | refine AL.gu ?_) <;> (refine AL.e ?_) <;> (refine AL.e ?_) <;> (refine AL.nil ?_)
    all_goals (refine AW.meet [98, 1, 2, 5] ⟨_, rfl, rfl, ?_⟩; (try simp only [toList_beq] at *); simp_all [ofConst])
    all_goals (try (rw [Bool.eq_iff_iff]; simp))
  rintro af ah ⟨v8, rfl, rfl, h8⟩
  refine AL.cut 10 (fun af ah => ∃ v : Bool, af = [(108, .bool v), (1, .str u), (2, .at s.st), (5, .bool e)] ∧ ah = [] ∧ v = (v8 && (decide (s.Body.length = 0) || hasB u 98))) ?_ ?_
  · (first | (refine AL.gd ?_; (first | refine AL.d AOp.fa ?_ | refine AL.d (AOp.fr 12) ?_)) | refine AL.gs ?_ | refine AL.gu ?_ | (refine AL.gx (fun hb => ?_) (fun hb => ?_) <;> first | (refine AL.gd ?_; (first | refine AL.d AOp.fa ?_ | refine AL.d (AOp.fr 12) ?_)) | refine AL.gs ?_)) <;> (first | (refine AL.gd ?_; refine AL.d AOp.la ?_) | refine AL.gs ?_ | refine AL.gu ?_) <;> (first | (refine AL.gd ?_; refine AL.d AOp.ln ?_) | refine AL.gs ?_ | refine AL.gu ?_) <;> (first | (refine AL.gd ?_; refine AL.e ?_) | refine AL.gs ?_ | refine AL.gu ?_) <;> (first | (refine AL.gd ?_; refine AL.e ?_) | refine AL.gs ?_ | refine AL.gu ?_) <;> (first | (refine AL.gd ?_; refine AL.e ?_) | refine AL.gs ?_ | refine AL.gu ?_ | (refine AL.gx (fun hb => ?_) (fun hb => ?_) <;> first | (refine AL.gd ?_; refine AL.e ?_) | refine AL.gs ?_)) <;> (first | (refine AL.gd ?_; refine AL.d (AOp.call rfl rfl (hh _)) ?_) | refine AL.gs ?_ | refine AL.gu ?_) <;> (first | (refine AL.gd ?_; refine AL.e ?_) | refine AL.gs ?_ | refine AL.gu ?_) <;> (refine AL.e ?_) <;> (refine AL.e ?_) <;> (refine AL.nil ?_)
    all_goals (refine AW.meet [108, 1, 2, 5] ⟨_, rfl, rfl, ?_⟩; (try simp only [toList_beq] at *); simp_all [ofConst])
    all_goals (try (rw [Bool.eq_iff_iff]; simp))
  rintro af ah ⟨v9, rfl, rfl, h9⟩
  refine AL.cut 9 (fun af ah => ∃ v : Bool, af = [(117, .bool v), (1, .str u), (2, .at s.st), (5, .bool e)] ∧ ah = [] ∧ v = (v9 && (decide (s.Else.length = 0) || hasB u 101))) ?_ ?_
  · (first | (refine AL.gd ?_; (first | refine AL.d AOp.fa ?_ | refine AL.d (AOp.fr 13) ?_)) | refine AL.gs ?_ | refine AL.gu ?_ | (refine AL.gx (fun hb => ?_) (fun hb => ?_) <;> first | (refine AL.gd ?_; (first | refine AL.d AOp.fa ?_ | refine AL.d (AOp.fr 13) ?_)) | refine AL.gs ?_)) <;> (first | (refine AL.gd ?_; refine AL.d AOp.la ?_) | refine AL.gs ?_ | refine AL.gu ?_) <;> (first | (refine AL.gd ?_; refine AL.d AOp.ln ?_) | refine AL.gs ?_ | refine AL.gu ?_) <;> (first | (refine AL.gd ?_; refine AL.e ?_) | refine AL.gs ?_ | refine AL.gu ?_) <;> (first | (refine AL.gd ?_; refine AL.e ?_) | refine AL.gs ?_ | refine AL.gu ?_) <;> (first | (refine AL.gd ?_; refine AL.e ?_) | refine AL.gs ?_ | refine AL.gu ?_ | (refine AL.gx (fun hb => ?_) (fun hb => ?_) <;> first | (refine AL.gd ?_; refine AL.e ?_) | refine AL.gs ?_)) <;> (first | (refine AL.gd ?_; refine AL.d (AOp.call rfl rfl (hh _)) ?_) | refine AL.gs ?_ | refine AL.gu ?_) <;> (first | (refine AL.gd ?_; refine AL.e ?_) | refine AL.gs ?_ | refine AL.gu ?_) <;> (refine AL.e ?_) <;> (refine AL.nil ?_)
    all_goals (refine AW.meet [117, 1, 2, 5] ⟨_, rfl, rfl, ?_⟩; (try simp only [toList_beq] at *); simp_all [ofConst])
    all_goals (try (rw [Bool.eq_iff_iff]; simp))
  rintro af ah ⟨v10, rfl, rfl, h10⟩
  (refine AL.e ?_) <;> (refine AL.nil ?_)
  refine AW.retv rfl ⟨?_, rfl⟩
  rw [hz]
  subst h1 h2 h3 h4 h5 h6 h7 h8 h9 h10
  rfl
end Go.Proofs.YtdedkpfbfklgbaaGreat
namespace Go.Proofs.YtdedkpfbfklgbaaGreat
open Go.RowKit Go.SX
set_option maxRecDepth 100000
set_option linter.unusedVariables false
set_option linter.unusedSimpArgs false

def zeroB (s : GStmt) : Bool :=
  let u := useOf s.Kind
  let empty := decide (s.Lit.Kind = 0) && !s.Lit.Neg && decide (s.Lit.Name = ⟨#[]⟩) && decide (s.Lit.At.length = 0)
  (u.f || decide (s.F = 0)) && (u.g || decide (s.G = 0)) && (u.r || decide (s.R = 0)) && (u.n || decide (s.N = 0)) && (u.name || decide (s.Name = ⟨#[]⟩)) && (u.frm || decide (s.From = ⟨#[]⟩)) && (u.lit || empty) && (u.regs || decide (s.Regs.length = 0)) && (u.body || decide (s.Body.length = 0)) && (u.other || decide (s.Else.length = 0))
structure Chk where
  c : GCode
  A : List (ByteArray × Int)
  S : List (ByteArray × Int)
  gS : MG
  cnt : Int
  bad : Bool
def Chk.box (st : Chk) (ba bs : Nat) : AV := .st [st.c.av, .map ba, .map bs, .int .i64 st.cnt, .bool st.bad]
def Chk.ah (st : Chk) (b ba bs : Nat) (gA : MG) : AH := [.box b (st.box ba bs), .map ba (kvW iav st.A) gA, .map bs (kvW iav st.S) st.gS]
def Chk.need (st : Chk) (is : Bool) : Chk := { st with bad := st.bad || !is }
theorem chk_need (b ba bs : Nat) (gA : MG) (st : Chk) (is : Bool) : Tri Tryz.prog 59 [.ref b 0, .bool is] (st.ah b ba bs gA) (D (.tup []) ((st.need is).ah b ba bs gA)) := by
  have h1 : Tri Tryz.prog 59 [.ref b 0, .bool is] [.box b (st.box ba bs)] (D (.tup []) [.box b ((st.need is).box ba bs)]) := by
    obtain ⟨c, A, S, gS, cnt, bad⟩ := st
    cases bad <;> cases is
    all_goals
      refine Tri.enter 15 Tryz.func59 rfl rfl rfl rfl fun Fr w0 => ?_
      repeat' (first
        | refine AW.seq ?_
        | (refine AW.region_at 0 ?_ <;> refine AL.e ?_ <;> refine AL.e ?_ <;> refine AL.e ?_ <;> (first | refine AL.d AOp.fa ?_ | refine AL.d (AOp.fr 7) ?_) <;> (first | refine AL.d AOp.la ?_ | refine AL.d (AOp.ll 0) ?_ | refine AL.d (AOp.lw 0) ?_) <;> refine AL.e ?_ <;> (first | (refine AL.gd ?_; refine AL.e ?_) | refine AL.gs ?_ | refine AL.gu ?_ | (refine AL.gx (fun hb => ?_) (fun hb => ?_) <;> first | (refine AL.gd ?_; refine AL.e ?_) | refine AL.gs ?_)) <;> (first | (refine AL.gd ?_; refine AL.e ?_) | refine AL.gs ?_ | refine AL.gu ?_) <;> refine AL.e ?_ <;> refine AL.e ?_ <;> (first | refine AL.d AOp.fa ?_ | refine AL.d (AOp.fr 7) ?_) <;> refine AL.sl 0 ?_ <;> refine AL.nil ?_)
        | refine AW.cond_true rfl ?_
        | refine AW.cond_false rfl ?_
        | refine AW.block ?_
        | refine AW.endblk ?_
        | refine AW.skip ?_
        | refine AW.exit rfl ?_
        | refine AW.label ?_
        | refine AW.j (fun hb => ?_) (fun hb => ?_))
      exact AW.donev rfl ⟨rfl, rfl⟩
  exact Tri.frameD (ah := st.ah b ba bs gA) [true] h1
theorem chk_flag (b ba bs : Nat) (gA : MG) (st : Chk) (f : Int) : Tri Tryz.prog 111 [.ref b 0, .int .i64 f] (st.ah b ba bs gA) (D (.tup []) ((st.need (decide (0 ≤ f) && decide (f < st.c.Flags))).ah b ba bs gA)) := by
  have h1 := chk_need b ba bs gA st (decide (f < st.c.Flags))
  have h2 := chk_need b ba bs gA st false
  refine Tri.enter 17 Tryz.func111 rfl rfl rfl rfl fun Fr w0 => ?_
  repeat' (first
    | refine AW.seq ?_
    | (refine AW.region_at 0 ?_ <;> refine AL.e ?_ <;> refine AL.e ?_ <;> refine AL.e ?_ <;> refine AL.e ?_ <;> (first | (refine AL.gd ?_; refine AL.e ?_) | refine AL.gs ?_ | refine AL.gu ?_ | (refine AL.gx (fun hb => ?_) (fun hb => ?_) <;> first | (refine AL.gd ?_; refine AL.e ?_) | refine AL.gs ?_)) <;> (first | (refine AL.gd ?_; refine AL.e ?_) | refine AL.gs ?_ | refine AL.gu ?_) <;> (first | (refine AL.gd ?_; refine AL.e ?_) | refine AL.gs ?_ | refine AL.gu ?_) <;> (first | (refine AL.gd ?_; (first | refine AL.d AOp.fa ?_ | refine AL.d (AOp.fr 0) ?_)) | refine AL.gs ?_ | refine AL.gu ?_) <;> (first | (refine AL.gd ?_; (first | refine AL.d AOp.fa ?_ | refine AL.d (AOp.fr 0) ?_)) | refine AL.gs ?_ | refine AL.gu ?_) <;> (first | (refine AL.gd ?_; (first | refine AL.d AOp.la ?_ | refine AL.d (AOp.ll 0) ?_ | refine AL.d (AOp.lw 0) ?_)) | refine AL.gs ?_ | refine AL.gu ?_) <;> (first | (refine AL.gd ?_; refine AL.e ?_) | refine AL.gs ?_ | refine AL.gu ?_) <;> refine AL.e ?_ <;> (first | refine AL.d (AOp.call rfl rfl h1) ?_ | refine AL.d (AOp.call rfl rfl h2) ?_) <;> refine AL.nil ?_)
    | refine AW.cond_true rfl ?_
    | refine AW.cond_false rfl ?_
    | refine AW.block ?_
    | refine AW.endblk ?_
    | refine AW.skip ?_
    | refine AW.exit rfl ?_
    | refine AW.label ?_
    | refine AW.j (fun hb => ?_) (fun hb => ?_))
  · exact AW.donev rfl ⟨rfl, by rw [show decide (0 ≤ f) = true from hb]; rfl⟩
  · exact AW.donev rfl ⟨rfl, by rw [show decide (0 ≤ f) = false from hb]; rfl⟩
def Chk.regs (st : Chk) : List Int → Chk
  | [] => st
  | r :: l => (st.need (decide (0 ≤ r) && decide (r < st.c.Regs))).regs l
theorem Chk.regs_c : ∀ (l : List Int) (st : Chk), (st.regs l).c = st.c
  | [], st => rfl
  | r :: l, st => by rw [Chk.regs, Chk.regs_c l]; rfl
theorem chk_regs (b ba bs : Nat) (gA : MG) (st : Chk) (l : List Int) (hl : l.length ≤ 4611686018427387904) : Tri Tryz.prog 112 [.ref b 0, ints l] (st.ah b ba bs gA) (D (.tup []) ((st.regs l).ah b ba bs gA)) := by
  refine Tri.enter 26 Tryz.func112 rfl rfl rfl rfl fun Fr w0 => ?_
  repeat' (first
    | refine AW.seq ?_
    | (refine AW.region_at 0 ?_ <;> refine AL.e ?_ <;> refine AL.d AOp.ln ?_ <;> refine AL.e ?_ <;> refine AL.nil ?_)
    | refine AW.cond_true rfl ?_
    | refine AW.cond_false rfl ?_
    | refine AW.block ?_
    | refine AW.endblk ?_
    | refine AW.skip ?_
    | refine AW.exit rfl ?_
    | refine AW.label ?_
    | refine AW.j (fun hb => ?_) (fun hb => ?_))
  refine AW.prune [0, 6, 7, 8] (AW.loop (fun m af h => ∃ (i : Nat) (s : Chk), i ≤ l.length ∧ m = l.length - i ∧ af = [(0, .ref b 0), (6, ints l), (7, .int .i64 (l.map iav).length), (8, .int .i64 i)] ∧ h = s.ah b ba bs gA ∧ s.c = st.c ∧ st.regs l = s.regs (l.drop i)) l.length ⟨0, st, Nat.zero_le _, rfl, rfl, rfl, rfl, rfl⟩ ?_)
  rintro m af h ⟨i, s, hi, rfl, rfl, rfl, hsc, he⟩
  refine AW.seq ?_
  by_cases hlt : i < l.length
  · obtain ⟨x, hx⟩ := get_lt hlt
    have hx' : (l.map iav)[((i : Nat) : Int).toNat]? = some (iav x) := map_get hx
    rw [drop_cons hx, Chk.regs] at he
    have h1 := chk_need b ba bs gA s (decide (x < s.c.Regs))
    have h2 := chk_need b ba bs gA s false
    repeat' (first
      | refine AW.seq ?_
      | (refine AW.region_at 0 ?_ <;> refine AL.e ?_ <;> refine AL.d AOp.ln ?_ <;> refine AL.e ?_ <;> refine AL.nil ?_)
      | (refine AW.region_at 1 ?_ <;> refine AL.e ?_ <;> refine AL.nil ?_)
      | (refine AW.region_at 2 ?_ <;> refine AL.d (AOp.index_sl rfl rfl (by omega) hx' (by kernel_rfl) rfl) ?_ <;> (first | refine AL.d AOp.la ?_ | refine AL.d (AOp.ll 0) ?_ | refine AL.d (AOp.lw 0) ?_) <;> refine AL.e ?_ <;> refine AL.nil ?_)
      | (refine AW.region_at 3 ?_ <;> refine AL.e ?_ <;> refine AL.e ?_ <;> refine AL.e ?_ <;> refine AL.e ?_ <;> (first | (refine AL.gd ?_; refine AL.e ?_) | refine AL.gs ?_ | refine AL.gu ?_ | (refine AL.gx (fun hb => ?_) (fun hb => ?_) <;> first | (refine AL.gd ?_; refine AL.e ?_) | refine AL.gs ?_)) <;> (first | (refine AL.gd ?_; refine AL.e ?_) | refine AL.gs ?_ | refine AL.gu ?_) <;> (first | (refine AL.gd ?_; refine AL.e ?_) | refine AL.gs ?_ | refine AL.gu ?_) <;> (first | (refine AL.gd ?_; (first | refine AL.d AOp.fa ?_ | refine AL.d (AOp.fr 0) ?_)) | refine AL.gs ?_ | refine AL.gu ?_) <;> (first | (refine AL.gd ?_; (first | refine AL.d AOp.fa ?_ | refine AL.d (AOp.fr 1) ?_)) | refine AL.gs ?_ | refine AL.gu ?_) <;> (first | (refine AL.gd ?_; (first | refine AL.d AOp.la ?_ | refine AL.d (AOp.ll 0) ?_ | refine AL.d (AOp.lw 0) ?_)) | refine AL.gs ?_ | refine AL.gu ?_) <;> (first | (refine AL.gd ?_; refine AL.e ?_) | refine AL.gs ?_ | refine AL.gu ?_) <;> refine AL.e ?_ <;> (first | refine AL.d (AOp.call rfl rfl h1) ?_ | refine AL.d (AOp.call rfl rfl h2) ?_) <;> refine AL.nil ?_)
      | (refine AW.region_at 4 ?_ <;> refine AL.d AOp.ad ?_ <;> refine AL.e ?_ <;> refine AL.nil ?_)
      | refine AW.cond_true rfl ?_
      | refine AW.cond_false rfl ?_
      | refine AW.block ?_
      | refine AW.endblk ?_
      | refine AW.skip ?_
      | refine AW.exit rfl ?_
      | refine AW.label ?_
      | refine AW.j (fun hb => ?_) (fun hb => ?_))
    all_goals first
      | (exfalso; simp only [decide_eq_true_eq, decide_eq_false_iff_not, List.length_map] at *; omega)
      | (refine AW.again_keep (l.length - (i + 1)) [0, 6, 7, 8] (by omega) ⟨i + 1, _, hlt, rfl, rfl, rfl, ?_, ?_⟩; exact hsc; rw [he, show decide (0 ≤ x) = true from hb]; rfl)
      | (refine AW.again_keep (l.length - (i + 1)) [0, 6, 7, 8] (by omega) ⟨i + 1, _, hlt, rfl, rfl, rfl, ?_, ?_⟩; exact hsc; rw [he, show decide (0 ≤ x) = false from hb]; rfl)
  · rw [List.drop_eq_nil_of_le (by omega), Chk.regs] at he
    repeat' (first
      | refine AW.seq ?_
      | (refine AW.region_at 1 ?_ <;> refine AL.e ?_ <;> refine AL.nil ?_)
      | refine AW.cond_true rfl ?_
      | refine AW.cond_false rfl ?_
      | refine AW.block ?_
      | refine AW.endblk ?_
      | refine AW.skip ?_
      | refine AW.exit rfl ?_
      | refine AW.label ?_
      | refine AW.j (fun hb => ?_) (fun hb => ?_))
    all_goals first
      | (exfalso; simp only [decide_eq_true_eq, decide_eq_false_iff_not, List.length_map] at *; omega)
      | exact AW.donev rfl ⟨rfl, by rw [he]⟩
end Go.Proofs.YtdedkpfbfklgbaaGreat
namespace Go.Proofs.YtdedkpfbfklgbaaGreat
open Go.RowKit Go.SX
set_option maxRecDepth 100000
set_option linter.unusedVariables false
set_option linter.unusedSimpArgs false

theorem code_spare (s : GStmt) : Tri Tryz.prog 110 [s.st] [] (D (.bool (zeroB s)) []) := by
  have hu := code_fields s.Kind
  have hz : ∀ e : Bool, e = (decide (s.Lit.Kind = 0) && !s.Lit.Neg && decide (s.Lit.Name = ⟨#[]⟩) && decide (s.Lit.At.length = 0)) → zeroB s = (((useOf s.Kind).f || decide (s.F = 0)) && ((useOf s.Kind).g || decide (s.G = 0)) && ((useOf s.Kind).r || decide (s.R = 0)) && ((useOf s.Kind).n || decide (s.N = 0)) && ((useOf s.Kind).name || decide (s.Name = ⟨#[]⟩)) && ((useOf s.Kind).frm || decide (s.From = ⟨#[]⟩)) && ((useOf s.Kind).lit || e) && ((useOf s.Kind).regs || decide (s.Regs.length = 0)) && ((useOf s.Kind).body || decide (s.Body.length = 0)) && ((useOf s.Kind).other || decide (s.Else.length = 0))) := by rintro e rfl; rfl
  generalize useOf s.Kind = u at hu hz
  have l1 : (s.Lit.At.map iav).length = s.Lit.At.length := List.length_map _
  have l2 : (s.Regs.map iav).length = s.Regs.length := List.length_map _
  have l3 : (s.Body.map GStmt.av).length = s.Body.length := List.length_map _
  have l4 : (s.Else.map GStmt.av).length = s.Else.length := List.length_map _
  refine Tri.enter 120 Tryz.func110 rfl rfl rfl rfl fun Fr w0 => ?_
  repeat' (first
    | refine AW.seq ?_
    | (refine AW.region_at 0 ?_ <;> refine AL.d (AOp.box_ro rfl rfl) ?_ <;> refine AL.e ?_ <;> refine AL.nil ?_)
    | (refine AW.region_at 1 ?_ <;> (first | refine AL.d AOp.fa ?_ | refine AL.d (AOp.fr 0) ?_) <;> refine AL.d AOp.la ?_ <;> refine AL.d (AOp.call rfl rfl hu) ?_ <;> refine AL.alloc_store (by kernel_rfl) rfl rfl rfl rfl ?_ <;> refine AL.nil ?_)
    | refine AW.cond_true rfl ?_
    | refine AW.cond_false rfl ?_
    | refine AW.block ?_
    | refine AW.endblk ?_
    | refine AW.skip ?_
    | refine AW.exit rfl ?_
    | refine AW.label ?_
    | refine AW.j (fun hb => ?_) (fun hb => ?_))
  refine AW.cut (fun af ah => ∃ e : Bool, af = [(1, .at s.st), (3, .at u.av), (4, .bool e)] ∧ ah = [] ∧ e = (decide (s.Lit.Kind = 0) && !s.Lit.Neg && decide (s.Lit.Name = ⟨#[]⟩) && decide (s.Lit.At.length = 0))) ?_ ?_
  · repeat' (first
      | refine AW.seq ?_
      | (refine AW.region_at 2 ?_ <;> (first | refine AL.d AOp.fa ?_ | refine AL.d (AOp.fr 7) ?_) <;> (first | refine AL.d AOp.fa ?_ | refine AL.d (AOp.fr 0) ?_) <;> refine AL.d AOp.la ?_ <;> refine AL.e ?_ <;> refine AL.e ?_ <;> (first | (refine AL.gd ?_; (first | refine AL.d AOp.fa ?_ | refine AL.d (AOp.fr 7) ?_)) | refine AL.gs ?_ | refine AL.gu ?_ | (refine AL.gx (fun hb => ?_) (fun hb => ?_) <;> first | (refine AL.gd ?_; (first | refine AL.d AOp.fa ?_ | refine AL.d (AOp.fr 7) ?_)) | refine AL.gs ?_)) <;> (first | (refine AL.gd ?_; (first | refine AL.d AOp.fa ?_ | refine AL.d (AOp.fr 1) ?_)) | refine AL.gs ?_ | refine AL.gu ?_) <;> (first | (refine AL.gd ?_; refine AL.d AOp.la ?_) | refine AL.gs ?_ | refine AL.gu ?_) <;> (first | (refine AL.gd ?_; refine AL.e ?_) | refine AL.gs ?_ | refine AL.gu ?_) <;> refine AL.e ?_ <;> refine AL.e ?_ <;> (first | (refine AL.gd ?_; (first | refine AL.d AOp.fa ?_ | refine AL.d (AOp.fr 7) ?_)) | refine AL.gs ?_ | refine AL.gu ?_ | (refine AL.gx (fun hb => ?_) (fun hb => ?_) <;> first | (refine AL.gd ?_; (first | refine AL.d AOp.fa ?_ | refine AL.d (AOp.fr 7) ?_)) | refine AL.gs ?_)) <;> (first | (refine AL.gd ?_; (first | refine AL.d AOp.fa ?_ | refine AL.d (AOp.fr 2) ?_)) | refine AL.gs ?_ | refine AL.gu ?_) <;> (first | (refine AL.gd ?_; refine AL.d AOp.la ?_) | refine AL.gs ?_ | refine AL.gu ?_) <;> (first | (refine AL.gd ?_; refine AL.e ?_) | refine AL.gs ?_ | refine AL.gu ?_) <;> refine AL.e ?_ <;> refine AL.e ?_ <;> (first | (refine AL.gd ?_; (first | refine AL.d AOp.fa ?_ | refine AL.d (AOp.fr 7) ?_)) | refine AL.gs ?_ | refine AL.gu ?_ | (refine AL.gx (fun hb => ?_) (fun hb => ?_) <;> first | (refine AL.gd ?_; (first | refine AL.d AOp.fa ?_ | refine AL.d (AOp.fr 7) ?_)) | refine AL.gs ?_)) <;> (first | (refine AL.gd ?_; (first | refine AL.d AOp.fa ?_ | refine AL.d (AOp.fr 3) ?_)) | refine AL.gs ?_ | refine AL.gu ?_) <;> (first | (refine AL.gd ?_; refine AL.d AOp.la ?_) | refine AL.gs ?_ | refine AL.gu ?_) <;> (first | (refine AL.gd ?_; refine AL.d AOp.ln ?_) | refine AL.gs ?_ | refine AL.gu ?_) <;> (first | (refine AL.gd ?_; refine AL.e ?_) | refine AL.gs ?_ | refine AL.gu ?_) <;> refine AL.e ?_ <;> refine AL.e ?_ <;> refine AL.nil ?_)
      | refine AW.cond_true rfl ?_
      | refine AW.cond_false rfl ?_
      | refine AW.block ?_
      | refine AW.endblk ?_
      | refine AW.skip ?_
      | refine AW.exit rfl ?_
      | refine AW.label ?_
      | refine AW.j (fun hb => ?_) (fun hb => ?_))
    all_goals (refine AW.meet [1, 3, 4] ⟨_, rfl, rfl, ?_⟩; (try simp only [toList_beq] at *); simp_all [ofConst])
    all_goals (rw [Bool.eq_iff_iff]; simp)
  rintro af ah ⟨e, rfl, rfl, he⟩
  have hz := hz e he
  clear he hu
  refine AW.seq ?_
  refine AW.region_at 3 ?_
  refine AL.cut 7 (fun af ah => ∃ v : Bool, af = [(37, .bool v), (1, .at s.st), (3, .at u.av), (4, .bool e)] ∧ ah = [] ∧ v = ((u.f || decide (s.F = 0)))) ?_ ?_
  · (first | refine AL.d AOp.fa ?_ | refine AL.d (AOp.fr 0) ?_) <;> (refine AL.d AOp.la ?_) <;> (refine AL.e ?_) <;> (first | (refine AL.gd ?_; (first | refine AL.d AOp.fa ?_ | refine AL.d (AOp.fr 1) ?_)) | refine AL.gs ?_ | refine AL.gu ?_ | (refine AL.gx (fun hb => ?_) (fun hb => ?_) <;> first | (refine AL.gd ?_; (first | refine AL.d AOp.fa ?_ | refine AL.d (AOp.fr 1) ?_)) | refine AL.gs ?_)) <;> (first | (refine AL.gd ?_; refine AL.d AOp.la ?_) | refine AL.gs ?_ | refine AL.gu ?_) <;> (first | (refine AL.gd ?_; refine AL.e ?_) | refine AL.gs ?_ | refine AL.gu ?_) <;> (refine AL.e ?_) <;> (refine AL.nil ?_)
    all_goals (refine AW.meet [37, 1, 3, 4] ⟨_, rfl, rfl, ?_⟩; (try simp only [toList_beq] at *); simp_all [ofConst])
    all_goals (try (rw [Bool.eq_iff_iff]; simp))
  rintro af ah ⟨v1, rfl, rfl, h1⟩
  refine AL.cut 9 (fun af ah => ∃ v : Bool, af = [(46, .bool v), (1, .at s.st), (3, .at u.av), (4, .bool e)] ∧ ah = [] ∧ v = (v1 && (u.g || decide (s.G = 0)))) ?_ ?_
  · (refine AL.e ?_) <;> (first | (refine AL.gd ?_; (first | refine AL.d AOp.fa ?_ | refine AL.d (AOp.fr 1) ?_)) | refine AL.gs ?_ | refine AL.gu ?_ | (refine AL.gx (fun hb => ?_) (fun hb => ?_) <;> first | (refine AL.gd ?_; (first | refine AL.d AOp.fa ?_ | refine AL.d (AOp.fr 1) ?_)) | refine AL.gs ?_)) <;> (first | (refine AL.gd ?_; refine AL.d AOp.la ?_) | refine AL.gs ?_ | refine AL.gu ?_) <;> (first | (refine AL.gd ?_; refine AL.e ?_) | refine AL.gs ?_ | refine AL.gu ?_) <;> (first | (refine AL.gd ?_; (first | refine AL.d AOp.fa ?_ | refine AL.d (AOp.fr 2) ?_)) | refine AL.gs ?_ | refine AL.gu ?_ | (refine AL.gx (fun hb => ?_) (fun hb => ?_) <;> first | (refine AL.gd ?_; (first | refine AL.d AOp.fa ?_ | refine AL.d (AOp.fr 2) ?_)) | refine AL.gs ?_)) <;> (first | (refine AL.gd ?_; refine AL.d AOp.la ?_) | refine AL.gs ?_ | refine AL.gu ?_) <;> (first | (refine AL.gd ?_; refine AL.e ?_) | refine AL.gs ?_ | refine AL.gu ?_) <;> (first | (refine AL.gd ?_; refine AL.e ?_) | refine AL.gs ?_ | refine AL.gu ?_) <;> (refine AL.e ?_) <;> (refine AL.nil ?_)
    all_goals (refine AW.meet [46, 1, 3, 4] ⟨_, rfl, rfl, ?_⟩; (try simp only [toList_beq] at *); simp_all [ofConst])
    all_goals (try (rw [Bool.eq_iff_iff]; simp))
  rintro af ah ⟨v2, rfl, rfl, h2⟩
  refine AL.cut 9 (fun af ah => ∃ v : Bool, af = [(55, .bool v), (1, .at s.st), (3, .at u.av), (4, .bool e)] ∧ ah = [] ∧ v = (v2 && (u.r || decide (s.R = 0)))) ?_ ?_
  · (refine AL.e ?_) <;> (first | (refine AL.gd ?_; (first | refine AL.d AOp.fa ?_ | refine AL.d (AOp.fr 2) ?_)) | refine AL.gs ?_ | refine AL.gu ?_ | (refine AL.gx (fun hb => ?_) (fun hb => ?_) <;> first | (refine AL.gd ?_; (first | refine AL.d AOp.fa ?_ | refine AL.d (AOp.fr 2) ?_)) | refine AL.gs ?_)) <;> (first | (refine AL.gd ?_; refine AL.d AOp.la ?_) | refine AL.gs ?_ | refine AL.gu ?_) <;> (first | (refine AL.gd ?_; refine AL.e ?_) | refine AL.gs ?_ | refine AL.gu ?_) <;> (first | (refine AL.gd ?_; (first | refine AL.d AOp.fa ?_ | refine AL.d (AOp.fr 3) ?_)) | refine AL.gs ?_ | refine AL.gu ?_ | (refine AL.gx (fun hb => ?_) (fun hb => ?_) <;> first | (refine AL.gd ?_; (first | refine AL.d AOp.fa ?_ | refine AL.d (AOp.fr 3) ?_)) | refine AL.gs ?_)) <;> (first | (refine AL.gd ?_; refine AL.d AOp.la ?_) | refine AL.gs ?_ | refine AL.gu ?_) <;> (first | (refine AL.gd ?_; refine AL.e ?_) | refine AL.gs ?_ | refine AL.gu ?_) <;> (first | (refine AL.gd ?_; refine AL.e ?_) | refine AL.gs ?_ | refine AL.gu ?_) <;> (refine AL.e ?_) <;> (refine AL.nil ?_)
    all_goals (refine AW.meet [55, 1, 3, 4] ⟨_, rfl, rfl, ?_⟩; (try simp only [toList_beq] at *); simp_all [ofConst])
    all_goals (try (rw [Bool.eq_iff_iff]; simp))
  rintro af ah ⟨v3, rfl, rfl, h3⟩
  refine AL.cut 9 (fun af ah => ∃ v : Bool, af = [(64, .bool v), (1, .at s.st), (3, .at u.av), (4, .bool e)] ∧ ah = [] ∧ v = (v3 && (u.n || decide (s.N = 0)))) ?_ ?_
  · (refine AL.e ?_) <;> (first | (refine AL.gd ?_; (first | refine AL.d AOp.fa ?_ | refine AL.d (AOp.fr 3) ?_)) | refine AL.gs ?_ | refine AL.gu ?_ | (refine AL.gx (fun hb => ?_) (fun hb => ?_) <;> first | (refine AL.gd ?_; (first | refine AL.d AOp.fa ?_ | refine AL.d (AOp.fr 3) ?_)) | refine AL.gs ?_)) <;> (first | (refine AL.gd ?_; refine AL.d AOp.la ?_) | refine AL.gs ?_ | refine AL.gu ?_) <;> (first | (refine AL.gd ?_; refine AL.e ?_) | refine AL.gs ?_ | refine AL.gu ?_) <;> (first | (refine AL.gd ?_; (first | refine AL.d AOp.fa ?_ | refine AL.d (AOp.fr 4) ?_)) | refine AL.gs ?_ | refine AL.gu ?_ | (refine AL.gx (fun hb => ?_) (fun hb => ?_) <;> first | (refine AL.gd ?_; (first | refine AL.d AOp.fa ?_ | refine AL.d (AOp.fr 4) ?_)) | refine AL.gs ?_)) <;> (first | (refine AL.gd ?_; refine AL.d AOp.la ?_) | refine AL.gs ?_ | refine AL.gu ?_) <;> (first | (refine AL.gd ?_; refine AL.e ?_) | refine AL.gs ?_ | refine AL.gu ?_) <;> (first | (refine AL.gd ?_; refine AL.e ?_) | refine AL.gs ?_ | refine AL.gu ?_) <;> (refine AL.e ?_) <;> (refine AL.nil ?_)
    all_goals (refine AW.meet [64, 1, 3, 4] ⟨_, rfl, rfl, ?_⟩; (try simp only [toList_beq] at *); simp_all [ofConst])
    all_goals (try (rw [Bool.eq_iff_iff]; simp))
  rintro af ah ⟨v4, rfl, rfl, h4⟩
  refine AL.cut 9 (fun af ah => ∃ v : Bool, af = [(73, .bool v), (1, .at s.st), (3, .at u.av), (4, .bool e)] ∧ ah = [] ∧ v = (v4 && (u.name || decide (s.Name = ⟨#[]⟩)))) ?_ ?_
  · (refine AL.e ?_) <;> (first | (refine AL.gd ?_; (first | refine AL.d AOp.fa ?_ | refine AL.d (AOp.fr 4) ?_)) | refine AL.gs ?_ | refine AL.gu ?_ | (refine AL.gx (fun hb => ?_) (fun hb => ?_) <;> first | (refine AL.gd ?_; (first | refine AL.d AOp.fa ?_ | refine AL.d (AOp.fr 4) ?_)) | refine AL.gs ?_)) <;> (first | (refine AL.gd ?_; refine AL.d AOp.la ?_) | refine AL.gs ?_ | refine AL.gu ?_) <;> (first | (refine AL.gd ?_; refine AL.e ?_) | refine AL.gs ?_ | refine AL.gu ?_) <;> (first | (refine AL.gd ?_; (first | refine AL.d AOp.fa ?_ | refine AL.d (AOp.fr 5) ?_)) | refine AL.gs ?_ | refine AL.gu ?_ | (refine AL.gx (fun hb => ?_) (fun hb => ?_) <;> first | (refine AL.gd ?_; (first | refine AL.d AOp.fa ?_ | refine AL.d (AOp.fr 5) ?_)) | refine AL.gs ?_)) <;> (first | (refine AL.gd ?_; refine AL.d AOp.la ?_) | refine AL.gs ?_ | refine AL.gu ?_) <;> (first | (refine AL.gd ?_; refine AL.e ?_) | refine AL.gs ?_ | refine AL.gu ?_) <;> (first | (refine AL.gd ?_; refine AL.e ?_) | refine AL.gs ?_ | refine AL.gu ?_) <;> (refine AL.e ?_) <;> (refine AL.nil ?_)
    all_goals (refine AW.meet [73, 1, 3, 4] ⟨_, rfl, rfl, ?_⟩; (try simp only [toList_beq] at *); simp_all [ofConst])
    all_goals (try (rw [Bool.eq_iff_iff]; simp))
  rintro af ah ⟨v5, rfl, rfl, h5⟩
  refine AL.cut 9 (fun af ah => ∃ v : Bool, af = [(82, .bool v), (1, .at s.st), (3, .at u.av), (4, .bool e)] ∧ ah = [] ∧ v = (v5 && (u.frm || decide (s.From = ⟨#[]⟩)))) ?_ ?_
  · (refine AL.e ?_) <;> (first | (refine AL.gd ?_; (first | refine AL.d AOp.fa ?_ | refine AL.d (AOp.fr 5) ?_)) | refine AL.gs ?_ | refine AL.gu ?_ | (refine AL.gx (fun hb => ?_) (fun hb => ?_) <;> first | (refine AL.gd ?_; (first | refine AL.d AOp.fa ?_ | refine AL.d (AOp.fr 5) ?_)) | refine AL.gs ?_)) <;> (first | (refine AL.gd ?_; refine AL.d AOp.la ?_) | refine AL.gs ?_ | refine AL.gu ?_) <;> (first | (refine AL.gd ?_; refine AL.e ?_) | refine AL.gs ?_ | refine AL.gu ?_) <;> (first | (refine AL.gd ?_; (first | refine AL.d AOp.fa ?_ | refine AL.d (AOp.fr 6) ?_)) | refine AL.gs ?_ | refine AL.gu ?_ | (refine AL.gx (fun hb => ?_) (fun hb => ?_) <;> first | (refine AL.gd ?_; (first | refine AL.d AOp.fa ?_ | refine AL.d (AOp.fr 6) ?_)) | refine AL.gs ?_)) <;> (first | (refine AL.gd ?_; refine AL.d AOp.la ?_) | refine AL.gs ?_ | refine AL.gu ?_) <;> (first | (refine AL.gd ?_; refine AL.e ?_) | refine AL.gs ?_ | refine AL.gu ?_) <;> (first | (refine AL.gd ?_; refine AL.e ?_) | refine AL.gs ?_ | refine AL.gu ?_) <;> (refine AL.e ?_) <;> (refine AL.nil ?_)
    all_goals (refine AW.meet [82, 1, 3, 4] ⟨_, rfl, rfl, ?_⟩; (try simp only [toList_beq] at *); simp_all [ofConst])
    all_goals (try (rw [Bool.eq_iff_iff]; simp))
  rintro af ah ⟨v6, rfl, rfl, h6⟩
  refine AL.cut 7 (fun af ah => ∃ v : Bool, af = [(89, .bool v), (1, .at s.st), (3, .at u.av), (4, .bool e)] ∧ ah = [] ∧ v = (v6 && (u.lit || e))) ?_ ?_
  · (refine AL.e ?_) <;> (first | (refine AL.gd ?_; (first | refine AL.d AOp.fa ?_ | refine AL.d (AOp.fr 6) ?_)) | refine AL.gs ?_ | refine AL.gu ?_ | (refine AL.gx (fun hb => ?_) (fun hb => ?_) <;> first | (refine AL.gd ?_; (first | refine AL.d AOp.fa ?_ | refine AL.d (AOp.fr 6) ?_)) | refine AL.gs ?_)) <;> (first | (refine AL.gd ?_; refine AL.d AOp.la ?_) | refine AL.gs ?_ | refine AL.gu ?_) <;> (first | (refine AL.gd ?_; refine AL.e ?_) | refine AL.gs ?_ | refine AL.gu ?_) <;> (first | (refine AL.gd ?_; refine AL.e ?_) | refine AL.gs ?_ | refine AL.gu ?_ | (refine AL.gx (fun hb => ?_) (fun hb => ?_) <;> first | (refine AL.gd ?_; refine AL.e ?_) | refine AL.gs ?_)) <;> (first | (refine AL.gd ?_; refine AL.e ?_) | refine AL.gs ?_ | refine AL.gu ?_) <;> (refine AL.e ?_) <;> (refine AL.nil ?_)
    all_goals (refine AW.meet [89, 1, 3, 4] ⟨_, rfl, rfl, ?_⟩; (try simp only [toList_beq] at *); simp_all [ofConst])
    all_goals (try (rw [Bool.eq_iff_iff]; simp))
  rintro af ah ⟨v7, rfl, rfl, h7⟩
  refine AL.cut 10 (fun af ah => ∃ v : Bool, af = [(99, .bool v), (1, .at s.st), (3, .at u.av), (4, .bool e)] ∧ ah = [] ∧ v = (v7 && (u.regs || decide (s.Regs.length = 0)))) ?_ ?_
  · (refine AL.e ?_) <;> (first | (refine AL.gd ?_; (first | refine AL.d AOp.fa ?_ | refine AL.d (AOp.fr 7) ?_)) | refine AL.gs ?_ | refine AL.gu ?_ | (refine AL.gx (fun hb => ?_) (fun hb => ?_) <;> first | (refine AL.gd ?_; (first | refine AL.d AOp.fa ?_ | refine AL.d (AOp.fr 7) ?_)) | refine AL.gs ?_)) <;> (first | (refine AL.gd ?_; refine AL.d AOp.la ?_) | refine AL.gs ?_ | refine AL.gu ?_) <;> (first | (refine AL.gd ?_; refine AL.e ?_) | refine AL.gs ?_ | refine AL.gu ?_) <;> (first | (refine AL.gd ?_; (first | refine AL.d AOp.fa ?_ | refine AL.d (AOp.fr 11) ?_)) | refine AL.gs ?_ | refine AL.gu ?_ | (refine AL.gx (fun hb => ?_) (fun hb => ?_) <;> first | (refine AL.gd ?_; (first | refine AL.d AOp.fa ?_ | refine AL.d (AOp.fr 11) ?_)) | refine AL.gs ?_)) <;> (first | (refine AL.gd ?_; refine AL.d AOp.la ?_) | refine AL.gs ?_ | refine AL.gu ?_) <;> (first | (refine AL.gd ?_; refine AL.d AOp.ln ?_) | refine AL.gs ?_ | refine AL.gu ?_) <;> (first | (refine AL.gd ?_; refine AL.e ?_) | refine AL.gs ?_ | refine AL.gu ?_) <;> (first | (refine AL.gd ?_; refine AL.e ?_) | refine AL.gs ?_ | refine AL.gu ?_) <;> (refine AL.e ?_) <;> (refine AL.nil ?_)
    all_goals (refine AW.meet [99, 1, 3, 4] ⟨_, rfl, rfl, ?_⟩; (try simp only [toList_beq] at *); simp_all [ofConst])
    all_goals (try (rw [Bool.eq_iff_iff]; simp))
  rintro af ah ⟨v8, rfl, rfl, h8⟩
  refine AL.cut 10 (fun af ah => ∃ v : Bool, af = [(109, .bool v), (1, .at s.st), (3, .at u.av), (4, .bool e)] ∧ ah = [] ∧ v = (v8 && (u.body || decide (s.Body.length = 0)))) ?_ ?_
  · (refine AL.e ?_) <;> (first | (refine AL.gd ?_; (first | refine AL.d AOp.fa ?_ | refine AL.d (AOp.fr 8) ?_)) | refine AL.gs ?_ | refine AL.gu ?_ | (refine AL.gx (fun hb => ?_) (fun hb => ?_) <;> first | (refine AL.gd ?_; (first | refine AL.d AOp.fa ?_ | refine AL.d (AOp.fr 8) ?_)) | refine AL.gs ?_)) <;> (first | (refine AL.gd ?_; refine AL.d AOp.la ?_) | refine AL.gs ?_ | refine AL.gu ?_) <;> (first | (refine AL.gd ?_; refine AL.e ?_) | refine AL.gs ?_ | refine AL.gu ?_) <;> (first | (refine AL.gd ?_; (first | refine AL.d AOp.fa ?_ | refine AL.d (AOp.fr 12) ?_)) | refine AL.gs ?_ | refine AL.gu ?_ | (refine AL.gx (fun hb => ?_) (fun hb => ?_) <;> first | (refine AL.gd ?_; (first | refine AL.d AOp.fa ?_ | refine AL.d (AOp.fr 12) ?_)) | refine AL.gs ?_)) <;> (first | (refine AL.gd ?_; refine AL.d AOp.la ?_) | refine AL.gs ?_ | refine AL.gu ?_) <;> (first | (refine AL.gd ?_; refine AL.d AOp.ln ?_) | refine AL.gs ?_ | refine AL.gu ?_) <;> (first | (refine AL.gd ?_; refine AL.e ?_) | refine AL.gs ?_ | refine AL.gu ?_) <;> (first | (refine AL.gd ?_; refine AL.e ?_) | refine AL.gs ?_ | refine AL.gu ?_) <;> (refine AL.e ?_) <;> (refine AL.nil ?_)
    all_goals (refine AW.meet [109, 1, 3, 4] ⟨_, rfl, rfl, ?_⟩; (try simp only [toList_beq] at *); simp_all [ofConst])
    all_goals (try (rw [Bool.eq_iff_iff]; simp))
  rintro af ah ⟨v9, rfl, rfl, h9⟩
  refine AL.cut 10 (fun af ah => ∃ v : Bool, af = [(119, .bool v), (1, .at s.st), (3, .at u.av), (4, .bool e)] ∧ ah = [] ∧ v = (v9 && (u.other || decide (s.Else.length = 0)))) ?_ ?_
  · (refine AL.e ?_) <;> (first | (refine AL.gd ?_; (first | refine AL.d AOp.fa ?_ | refine AL.d (AOp.fr 9) ?_)) | refine AL.gs ?_ | refine AL.gu ?_ | (refine AL.gx (fun hb => ?_) (fun hb => ?_) <;> first | (refine AL.gd ?_; (first | refine AL.d AOp.fa ?_ | refine AL.d (AOp.fr 9) ?_)) | refine AL.gs ?_)) <;> (first | (refine AL.gd ?_; refine AL.d AOp.la ?_) | refine AL.gs ?_ | refine AL.gu ?_) <;> (first | (refine AL.gd ?_; refine AL.e ?_) | refine AL.gs ?_ | refine AL.gu ?_) <;> (first | (refine AL.gd ?_; (first | refine AL.d AOp.fa ?_ | refine AL.d (AOp.fr 13) ?_)) | refine AL.gs ?_ | refine AL.gu ?_ | (refine AL.gx (fun hb => ?_) (fun hb => ?_) <;> first | (refine AL.gd ?_; (first | refine AL.d AOp.fa ?_ | refine AL.d (AOp.fr 13) ?_)) | refine AL.gs ?_)) <;> (first | (refine AL.gd ?_; refine AL.d AOp.la ?_) | refine AL.gs ?_ | refine AL.gu ?_) <;> (first | (refine AL.gd ?_; refine AL.d AOp.ln ?_) | refine AL.gs ?_ | refine AL.gu ?_) <;> (first | (refine AL.gd ?_; refine AL.e ?_) | refine AL.gs ?_ | refine AL.gu ?_) <;> (first | (refine AL.gd ?_; refine AL.e ?_) | refine AL.gs ?_ | refine AL.gu ?_) <;> (refine AL.e ?_) <;> (refine AL.nil ?_)
    all_goals (refine AW.meet [119, 1, 3, 4] ⟨_, rfl, rfl, ?_⟩; (try simp only [toList_beq] at *); simp_all [ofConst])
    all_goals (try (rw [Bool.eq_iff_iff]; simp))
  rintro af ah ⟨v10, rfl, rfl, h10⟩
  (refine AL.e ?_) <;> (refine AL.nil ?_)
  refine AW.retv rfl ⟨?_, rfl⟩
  rw [hz]
  subst h1 h2 h3 h4 h5 h6 h7 h8 h9 h10
  rfl
end Go.Proofs.YtdedkpfbfklgbaaGreat
namespace Go.Proofs.YtdedkpfbfklgbaaGreat
open Go.RowKit Go.SX
set_option maxRecDepth 100000
set_option linter.unusedVariables false
set_option linter.unusedSimpArgs false

def Chk.lit (st : Chk) (l : GLit) : Chk :=
  let s1 := st.regs l.At
  if l.Kind = 1 ∨ l.Kind = 2 then s1.need (decide (l.Name = ⟨#[]⟩) && decide (l.At.length = 2))
  else
    let s2 := s1.need (decide (l.Kind = 0) && nameB l.Name && decide (l.At.length ≤ 12))
    match lookA s2.A l.Name with
    | some n => s2.need (decide (n = l.At.length))
    | none =>
      let s3 := s2.need (match lookA s2.S l.Name with | none => true | some n => decide (n = l.At.length))
      { s3 with S := setA s3.S l.Name l.At.length, gS := gsetA s3.S s3.gS l.Name }
theorem chk_lit (b ba bs : Nat) (gA : MG) (st : Chk) (l : GLit) (hl : l.Ok) : Tri Tryz.prog 113 [.ref b 0, l.av] (st.ah b ba bs gA) (D (.tup []) ((st.lit l).ah b ba bs gA)) := by
  obtain ⟨_, hl1, hl2, _⟩ := hl
  have h1 := chk_regs b ba bs gA st l.At (by omega)
  have h2 := shape_Name l.Name hl1
  have hf : st.lit l = (let s1 := st.regs l.At; if l.Kind = 1 ∨ l.Kind = 2 then s1.need (decide (l.Name = ⟨#[]⟩) && decide (l.At.length = 2)) else
    let s2 := s1.need (decide (l.Kind = 0) && nameB l.Name && decide (l.At.length ≤ 12))
    match lookA s1.A l.Name with
    | some n => s2.need (decide (n = l.At.length))
    | none =>
      let s3 := s2.need (match lookA s1.S l.Name with | none => true | some n => decide (n = l.At.length))
      { s3 with S := setA s1.S l.Name l.At.length, gS := gsetA s1.S s1.gS l.Name }) := rfl
  generalize st.lit l = sf at *
  generalize st.regs l.At = s1 at *
  obtain ⟨c, A, S, gS, cnt, bad⟩ := s1
  have hlen : ((l.At.map iav).length : Int) = l.At.length := by simp
  refine Tri.enter 95 Tryz.func113 rfl rfl rfl rfl fun Fr w0 => ?_
  repeat' (first
    | refine AW.seq ?_
    | (refine AW.region_at 0 ?_ <;> (first | refine AL.d (AOp.box_ro (v := .st [.int .i64 l.Kind, .bool l.Neg, .str l.Name, ints l.At]) rfl rfl) ?_ | refine AL.d (AOp.box_ro rfl rfl) ?_) <;> refine AL.nil ?_)
    | (refine AW.region_at 1 ?_ <;> refine AL.e ?_ <;> (first | refine AL.d AOp.fa ?_ | refine AL.d (AOp.fr 3) ?_) <;> (first | refine AL.d AOp.la ?_ | refine AL.d (AOp.ll 0) ?_ | refine AL.d (AOp.lw 0) ?_) <;> (first | refine AL.d (AOp.call rfl rfl h1) ?_ | refine AL.d (AOp.call rfl rfl (h2.pure _)) ?_ | refine AL.d (AOp.call rfl rfl (chk_need b ba bs gA _ _)) ?_) <;> refine AL.nil ?_)
    | (refine AW.region_at 2 ?_ <;> (first | refine AL.d AOp.fa ?_ | refine AL.d (AOp.fr 0) ?_) <;> (first | refine AL.d AOp.la ?_ | refine AL.d (AOp.ll 0) ?_ | refine AL.d (AOp.lw 0) ?_) <;> refine AL.e ?_ <;> refine AL.e ?_ <;> (first | (refine AL.gd ?_; (first | refine AL.d AOp.fa ?_ | refine AL.d (AOp.fr 0) ?_)) | refine AL.gs ?_ | refine AL.gu ?_ | (refine AL.gx (fun hb => ?_) (fun hb => ?_) <;> first | (refine AL.gd ?_; (first | refine AL.d AOp.fa ?_ | refine AL.d (AOp.fr 0) ?_)) | refine AL.gs ?_)) <;> (first | (refine AL.gd ?_; (first | refine AL.d AOp.la ?_ | refine AL.d (AOp.ll 0) ?_ | refine AL.d (AOp.lw 0) ?_)) | refine AL.gs ?_ | refine AL.gu ?_) <;> (first | (refine AL.gd ?_; refine AL.e ?_) | refine AL.gs ?_ | refine AL.gu ?_) <;> refine AL.e ?_ <;> refine AL.nil ?_)
    | (refine AW.region_at 3 ?_ <;> refine AL.e ?_ <;> (first | refine AL.d AOp.fa ?_ | refine AL.d (AOp.fr 2) ?_) <;> (first | refine AL.d AOp.la ?_ | refine AL.d (AOp.ll 0) ?_ | refine AL.d (AOp.lw 0) ?_) <;> refine AL.e ?_ <;> refine AL.e ?_ <;> (first | (refine AL.gd ?_; (first | refine AL.d AOp.fa ?_ | refine AL.d (AOp.fr 3) ?_)) | refine AL.gs ?_ | refine AL.gu ?_ | (refine AL.gx (fun hb => ?_) (fun hb => ?_) <;> first | (refine AL.gd ?_; (first | refine AL.d AOp.fa ?_ | refine AL.d (AOp.fr 3) ?_)) | refine AL.gs ?_)) <;> (first | (refine AL.gd ?_; (first | refine AL.d AOp.la ?_ | refine AL.d (AOp.ll 0) ?_ | refine AL.d (AOp.lw 0) ?_)) | refine AL.gs ?_ | refine AL.gu ?_) <;> (first | (refine AL.gd ?_; refine AL.d AOp.ln ?_) | refine AL.gs ?_ | refine AL.gu ?_) <;> (first | (refine AL.gd ?_; refine AL.e ?_) | refine AL.gs ?_ | refine AL.gu ?_) <;> refine AL.e ?_ <;> (first | refine AL.d (AOp.call rfl rfl h1) ?_ | refine AL.d (AOp.call rfl rfl (h2.pure _)) ?_ | refine AL.d (AOp.call rfl rfl (chk_need b ba bs gA _ _)) ?_) <;> refine AL.nil ?_)
    | (refine AW.region_at 4 ?_ <;> refine AL.e ?_ <;> (first | refine AL.d AOp.fa ?_ | refine AL.d (AOp.fr 0) ?_) <;> (first | refine AL.d AOp.la ?_ | refine AL.d (AOp.ll 0) ?_ | refine AL.d (AOp.lw 0) ?_) <;> refine AL.e ?_ <;> refine AL.e ?_ <;> (first | (refine AL.gd ?_; (first | refine AL.d AOp.fa ?_ | refine AL.d (AOp.fr 2) ?_)) | refine AL.gs ?_ | refine AL.gu ?_ | (refine AL.gx (fun hb => ?_) (fun hb => ?_) <;> first | (refine AL.gd ?_; (first | refine AL.d AOp.fa ?_ | refine AL.d (AOp.fr 2) ?_)) | refine AL.gs ?_)) <;> (first | (refine AL.gd ?_; (first | refine AL.d AOp.la ?_ | refine AL.d (AOp.ll 0) ?_ | refine AL.d (AOp.lw 0) ?_)) | refine AL.gs ?_ | refine AL.gu ?_) <;> (first | (refine AL.gd ?_; (first | refine AL.d (AOp.call rfl rfl h1) ?_ | refine AL.d (AOp.call rfl rfl (h2.pure _)) ?_ | refine AL.d (AOp.call rfl rfl (chk_need b ba bs gA _ _)) ?_)) | refine AL.gs ?_ | refine AL.gu ?_) <;> refine AL.e ?_ <;> refine AL.e ?_ <;> (first | (refine AL.gd ?_; (first | refine AL.d AOp.fa ?_ | refine AL.d (AOp.fr 3) ?_)) | refine AL.gs ?_ | refine AL.gu ?_ | (refine AL.gx (fun hb => ?_) (fun hb => ?_) <;> first | (refine AL.gd ?_; (first | refine AL.d AOp.fa ?_ | refine AL.d (AOp.fr 3) ?_)) | refine AL.gs ?_)) <;> (first | (refine AL.gd ?_; (first | refine AL.d AOp.la ?_ | refine AL.d (AOp.ll 0) ?_ | refine AL.d (AOp.lw 0) ?_)) | refine AL.gs ?_ | refine AL.gu ?_) <;> (first | (refine AL.gd ?_; refine AL.d AOp.ln ?_) | refine AL.gs ?_ | refine AL.gu ?_) <;> (first | (refine AL.gd ?_; refine AL.e ?_) | refine AL.gs ?_ | refine AL.gu ?_) <;> refine AL.e ?_ <;> (first | refine AL.d (AOp.call rfl rfl h1) ?_ | refine AL.d (AOp.call rfl rfl (h2.pure _)) ?_ | refine AL.d (AOp.call rfl rfl (chk_need b ba bs gA _ _)) ?_) <;> refine AL.nil ?_)
    | (refine AW.da 5 ?_ <;> refine AQ.e ?_ <;> refine AQ.e ?_ <;> (first | refine AQ.p rfl AOp.fa ?_ | refine AQ.p rfl (AOp.fr 4) ?_) <;> (first | refine AQ.p rfl AOp.la ?_ | refine AQ.p rfl (AOp.ll 0) ?_ | refine AQ.p rfl (AOp.lw 0) ?_) <;> (first | refine AQ.p rfl AOp.fa ?_ | refine AQ.p rfl (AOp.fr 2) ?_) <;> (first | refine AQ.p rfl AOp.la ?_ | refine AQ.p rfl (AOp.ll 0) ?_ | refine AQ.p rfl (AOp.lw 0) ?_) <;> (first | refine AQ.p rfl (AOp.lookS_int 1 3 rfl rfl rfl (by kernel_rfl) (by kernel_rfl)) ?_ | refine AQ.p rfl (AOp.lookS_int 2 3 rfl rfl rfl (by kernel_rfl) (by kernel_rfl)) ?_) <;> refine AQ.e ?_ <;> refine AQ.e ?_ <;> refine AQ.e ?_ <;> refine AQ.e ?_ <;> refine AQ.e ?_ <;> refine AQ.nil ?_)
    | (refine AW.region_at 6 ?_ <;> refine AL.e ?_ <;> refine AL.nil ?_)
    | (refine AW.region_at 7 ?_ <;> refine AL.e ?_ <;> refine AL.e ?_ <;> (first | refine AL.d AOp.fa ?_ | refine AL.d (AOp.fr 3) ?_) <;> (first | refine AL.d AOp.la ?_ | refine AL.d (AOp.ll 0) ?_ | refine AL.d (AOp.lw 0) ?_) <;> refine AL.d AOp.ln ?_ <;> refine AL.e ?_ <;> (first | refine AL.d (AOp.call rfl rfl h1) ?_ | refine AL.d (AOp.call rfl rfl (h2.pure _)) ?_ | refine AL.d (AOp.call rfl rfl (chk_need b ba bs gA _ _)) ?_) <;> refine AL.nil ?_)
    | (refine AW.da 8 ?_ <;> refine AQ.e ?_ <;> refine AQ.e ?_ <;> (first | refine AQ.p rfl AOp.fa ?_ | refine AQ.p rfl (AOp.fr 5) ?_) <;> (first | refine AQ.p rfl AOp.la ?_ | refine AQ.p rfl (AOp.ll 0) ?_ | refine AQ.p rfl (AOp.lw 0) ?_) <;> (first | refine AQ.p rfl AOp.fa ?_ | refine AQ.p rfl (AOp.fr 2) ?_) <;> (first | refine AQ.p rfl AOp.la ?_ | refine AQ.p rfl (AOp.ll 0) ?_ | refine AQ.p rfl (AOp.lw 0) ?_) <;> (first | refine AQ.p rfl (AOp.lookS_int 1 3 rfl rfl rfl (by kernel_rfl) (by kernel_rfl)) ?_ | refine AQ.p rfl (AOp.lookS_int 2 3 rfl rfl rfl (by kernel_rfl) (by kernel_rfl)) ?_) <;> refine AQ.e ?_ <;> refine AQ.e ?_ <;> refine AQ.e ?_ <;> refine AQ.e ?_ <;> refine AQ.e ?_ <;> refine AQ.nil ?_)
    | (refine AW.region_at 9 ?_ <;> refine AL.e ?_ <;> refine AL.e ?_ <;> refine AL.e ?_ <;> refine AL.e ?_ <;> (first | (refine AL.gd ?_; refine AL.e ?_) | refine AL.gs ?_ | refine AL.gu ?_ | (refine AL.gx (fun hb => ?_) (fun hb => ?_) <;> first | (refine AL.gd ?_; refine AL.e ?_) | refine AL.gs ?_)) <;> (first | (refine AL.gd ?_; (first | refine AL.d AOp.fa ?_ | refine AL.d (AOp.fr 3) ?_)) | refine AL.gs ?_ | refine AL.gu ?_) <;> (first | (refine AL.gd ?_; (first | refine AL.d AOp.la ?_ | refine AL.d (AOp.ll 0) ?_ | refine AL.d (AOp.lw 0) ?_)) | refine AL.gs ?_ | refine AL.gu ?_) <;> (first | (refine AL.gd ?_; refine AL.d AOp.ln ?_) | refine AL.gs ?_ | refine AL.gu ?_) <;> (first | (refine AL.gd ?_; refine AL.e ?_) | refine AL.gs ?_ | refine AL.gu ?_) <;> refine AL.e ?_ <;> (first | refine AL.d (AOp.call rfl rfl h1) ?_ | refine AL.d (AOp.call rfl rfl (h2.pure _)) ?_ | refine AL.d (AOp.call rfl rfl (chk_need b ba bs gA _ _)) ?_) <;> refine AL.nil ?_)
    | (refine AW.draw_last_at 10 9 rfl (by kernel_rfl) (by kernel_rfl) (by kernel_rfl) (by kernel_rfl) ?_ <;> refine AQ.e ?_ <;> refine AQ.e ?_ <;> (first | refine AQ.p rfl AOp.fa ?_ | refine AQ.p rfl (AOp.fr 5) ?_) <;> (first | refine AQ.p rfl AOp.la ?_ | refine AQ.p rfl (AOp.ll 0) ?_ | refine AQ.p rfl (AOp.lw 0) ?_) <;> (first | refine AQ.p rfl AOp.fa ?_ | refine AQ.p rfl (AOp.fr 2) ?_) <;> (first | refine AQ.p rfl AOp.la ?_ | refine AQ.p rfl (AOp.ll 0) ?_ | refine AQ.p rfl (AOp.lw 0) ?_) <;> (first | refine AQ.p rfl AOp.fa ?_ | refine AQ.p rfl (AOp.fr 3) ?_) <;> (first | refine AQ.p rfl AOp.la ?_ | refine AQ.p rfl (AOp.ll 0) ?_ | refine AQ.p rfl (AOp.lw 0) ?_) <;> refine AQ.p rfl AOp.ln ?_ <;> refine AQ.nil ?_ <;> refine AL.setS 2 3 iav _ rfl rfl rfl rfl (by kernel_rfl) ?_ <;> refine AL.nil ?_)
    | refine AW.cond_true rfl ?_
    | refine AW.cond_false rfl ?_
    | refine AW.block ?_
    | refine AW.endblk ?_
    | refine AW.skip ?_
    | refine AW.exit rfl ?_
    | refine AW.label ?_
    | refine AW.j (fun hb => ?_) (fun hb => ?_))
  all_goals first | refine AW.retv rfl ⟨rfl, ?_⟩ | refine AW.donev rfl ⟨rfl, ?_⟩
  all_goals (clear h1 h2; subst hf; simp only [toList_beq, beq_iff_eq, beq_eq_false_iff_ne, ne_eq, decide_eq_true_eq, decide_eq_false_iff_not, Chk.need, Bool.not_eq_true', Bool.not_eq_false'] at *)
  all_goals (cases hA : lookA A l.Name <;> cases hS : lookA S l.Name)
  all_goals simp_all [Chk.ah, Chk.box, ofConst, iav]
  all_goals (try (congr 2; rw [Bool.eq_iff_iff]; simp; try omega))
end Go.Proofs.YtdedkpfbfklgbaaGreat
namespace Go.Proofs.YtdedkpfbfklgbaaGreat
open Go.RowKit Go.SX
set_option maxRecDepth 100000
set_option linter.unusedVariables false
set_option linter.unusedSimpArgs false

def Chk.flag (st : Chk) (f : Int) : Chk := st.need (decide (0 ≤ f) && decide (f < st.c.Flags))
/-- What a statement's own fields are checked for. -/
def Chk.flds (st : Chk) (s : GStmt) : Chk :=
  let u := useOf s.Kind
  let st := st.need (zeroB s)
  let st := if u.f then st.flag s.F else st
  let st := if u.g && decide (s.Kind ≠ 4) then st.flag s.G else st
  let st := if s.Kind = 4 then st.need (decide (s.G = 0) || decide (s.G = 1)) else st
  let st := if u.r then st.regs [s.R] else st
  let st := st.need (decide (0 ≤ s.N) && decide (s.N ≤ 12))
  let st := if u.lit then st.lit s.Lit else st
  let st := st.regs s.Regs
  let n := (lookA st.A s.Name).getD 0
  let is := (lookA st.A s.Name).isSome
  let st := st.need (!u.name || is)
  let st := st.need (!u.regs || decide (n = s.Regs.length))
  if u.frm then st.need ((lookA st.A s.From).isSome && decide (n = (lookA st.A s.From).getD 0)) else st
def Chk.enter (st : Chk) (s : GStmt) (level : Int) : Chk :=
  ({ st with cnt := st.cnt + 1 } : Chk).need (decide (0 ≤ s.Kind) && decide (s.Kind < 15) && decide (st.cnt + 1 ≤ 20000) && decide (level ≤ 60))
mutual
def stmtP : GStmt → Int → Chk → Chk
  | ⟨k, f, g, r, n, nm, fr, lit, regs, body, els⟩, level, st =>
    let s1 := st.enter ⟨k, f, g, r, n, nm, fr, lit, regs, body, els⟩ level
    if s1.bad then s1 else
      let s2 := s1.flds ⟨k, f, g, r, n, nm, fr, lit, regs, body, els⟩
      let p := listP body (level + 1) s2
      if p.2 then p.1 else (listP els (level + 1) p.1).1
/-- With whether it stopped. -/
def listP : List GStmt → Int → Chk → Chk × Bool
  | [], _, st => (st, false)
  | x :: l, level, st => let s1 := stmtP x level st; if s1.bad then (s1, true) else listP l level s1
end
theorem stmtP_eq (s : GStmt) (level : Int) (st : Chk) : stmtP s level st = (let s1 := st.enter s level; if s1.bad then s1 else let p := listP s.Body (level + 1) (s1.flds s); if p.2 then p.1 else (listP s.Else (level + 1) p.1).1) := by cases s; rfl
theorem Chk.regs_cnt : ∀ (l : List Int) (st : Chk), (st.regs l).cnt = st.cnt
  | [], st => rfl
  | r :: l, st => by rw [Chk.regs, Chk.regs_cnt l]; rfl
theorem Chk.lit_cnt (st : Chk) (l : GLit) : (st.lit l).cnt = st.cnt := by
  unfold Chk.lit
  simp only
  split
  · exact st.regs_cnt l.At
  · split
    · exact st.regs_cnt l.At
    · exact st.regs_cnt l.At
theorem Chk.flds_cnt (st : Chk) (s : GStmt) : (st.flds s).cnt = st.cnt := by
  have hif : ∀ (c : Prop) [Decidable c] (a b : Chk) (n : Int), a.cnt = n → b.cnt = n → (if c then a else b).cnt = n := fun c _ a b n h1 h2 => by split <;> assumption
  unfold Chk.flds
  simp only
  refine hif _ _ _ _ ?_ ?_
  all_goals simp only [Chk.need, Chk.regs_cnt]
  all_goals (refine hif _ _ _ _ ?_ ?_)
  all_goals (try rw [Chk.lit_cnt])
  all_goals (refine hif _ _ _ _ ?_ ?_)
  all_goals (try rw [Chk.regs_cnt])
  all_goals (refine hif _ _ _ _ ?_ ?_)
  all_goals (try simp only [Chk.need])
  all_goals (refine hif _ _ _ _ ?_ ?_)
  all_goals (try simp only [Chk.flag, Chk.need])
  all_goals (refine hif _ _ _ _ ?_ ?_)
  all_goals rfl
mutual
theorem stmtP_cnt : ∀ (s : GStmt) (level : Int) (st : Chk), 0 ≤ st.cnt → st.cnt ≤ 20000 → 0 ≤ (stmtP s level st).cnt ∧ (stmtP s level st).cnt ≤ 20001 ∧ ((stmtP s level st).bad = false → (stmtP s level st).cnt ≤ 20000)
  | ⟨k, f, g, r, n, nm, fr, lit, regs, body, els⟩, level, st, h0, h1 => by
    rw [stmtP]
    try simp only
    generalize hs1 : st.enter ⟨k, f, g, r, n, nm, fr, lit, regs, body, els⟩ level = s1
    have hc : s1.cnt = st.cnt + 1 := by rw [← hs1]; rfl
    by_cases hb : s1.bad = true
    · rw [if_pos hb]; exact ⟨by omega, by omega, fun h => by rw [hb] at h; cases h⟩
    · rw [if_neg hb]
      have hle : st.cnt + 1 ≤ 20000 := by
        rw [← hs1] at hb
        simp only [Chk.enter, Chk.need, Bool.not_eq_true, Bool.or_eq_false_iff, Bool.not_eq_false', Bool.and_eq_true, decide_eq_true_eq] at hb
        exact hb.2.1.2
      have hf := s1.flds_cnt ⟨k, f, g, r, n, nm, fr, lit, regs, body, els⟩
      generalize s1.flds ⟨k, f, g, r, n, nm, fr, lit, regs, body, els⟩ = s2 at hf ⊢
      have e1 := listP_cnt body (level + 1) s2 (by omega) (by omega)
      by_cases hp : (listP body (level + 1) s2).2 = true
      · rw [if_pos hp]; exact ⟨e1.1, e1.2.1, e1.2.2.1⟩
      · rw [if_neg hp]
        have e2 := listP_cnt els (level + 1) _ e1.1 (e1.2.2.2 (by simpa using hp))
        exact ⟨e2.1, e2.2.1, e2.2.2.1⟩
theorem listP_cnt : ∀ (l : List GStmt) (level : Int) (st : Chk), 0 ≤ st.cnt → st.cnt ≤ 20000 → 0 ≤ (listP l level st).1.cnt ∧ (listP l level st).1.cnt ≤ 20001 ∧ ((listP l level st).1.bad = false → (listP l level st).1.cnt ≤ 20000) ∧ ((listP l level st).2 = false → (listP l level st).1.cnt ≤ 20000)
  | [], level, st, h0, h1 => by rw [listP]; exact ⟨h0, by show st.cnt ≤ _; omega, fun _ => h1, fun _ => h1⟩
  | x :: l, level, st, h0, h1 => by
    have e1 := stmtP_cnt x level st h0 h1
    rw [listP]
    try simp only
    by_cases hb : (stmtP x level st).bad = true
    · rw [if_pos hb]; exact ⟨e1.1, e1.2.1, e1.2.2, fun h => by cases h⟩
    · rw [if_neg hb]
      exact listP_cnt l level _ e1.1 (e1.2.2 (by simpa using hb))
end
end Go.Proofs.YtdedkpfbfklgbaaGreat
namespace Go.Proofs.YtdedkpfbfklgbaaGreat
open Go.RowKit Go.SX
set_option maxRecDepth 100000
set_option maxHeartbeats 4000000
set_option linter.unusedVariables false
set_option linter.unusedSimpArgs false

def fldB (A : Ar) (fl regs : Int) (s : GStmt) : Bool :=
  let u := useOf s.Kind
  zeroB s && (!u.f || inr fl s.F) && (!(u.g && decide (s.Kind ≠ 4)) || inr fl s.G) && (!decide (s.Kind = 4) || (decide (s.G = 0) || decide (s.G = 1))) && (!u.r || inr regs s.R) && (decide (0 ≤ s.N) && decide (s.N ≤ 12)) && (!u.lit || litB A regs s.Lit) && inB regs s.Regs && (!u.name || (A s.Name).isSome) && (!u.regs || decide ((A s.Name).getD 0 = s.Regs.length)) && (!u.frm || (A s.From).isSome && decide ((A s.Name).getD 0 = (A s.From).getD 0))
theorem fld_0 (A : Ar) (fl regs : Int) (s : GStmt) (hk : s.Kind = 0) : fldB A fl regs s = (plainB s ⟨#[70, 108]⟩ && inB fl [s.F] && litB A regs s.Lit) := by
  unfold fldB zeroB plainB
  rw [hk, show useOf 0 = ⟨true, false, false, false, false, false, true, false, false, false⟩ from rfl]
  simp only [show hasB ⟨#[70, 108]⟩ 70 = true from rfl, show hasB ⟨#[70, 108]⟩ 71 = false from rfl, show hasB ⟨#[70, 108]⟩ 82 = false from rfl, show hasB ⟨#[70, 108]⟩ 78 = false from rfl, show hasB ⟨#[70, 108]⟩ 110 = false from rfl, show hasB ⟨#[70, 108]⟩ 102 = false from rfl, show hasB ⟨#[70, 108]⟩ 108 = true from rfl, show hasB ⟨#[70, 108]⟩ 114 = false from rfl, show hasB ⟨#[70, 108]⟩ 98 = false from rfl, show hasB ⟨#[70, 108]⟩ 101 = false from rfl]
  rw [Bool.eq_iff_iff]
  simp only [inB, inr, List.all_cons, List.all_nil, Bool.and_true, Bool.true_or, Bool.or_true, Bool.false_or, Bool.or_false, Bool.true_and, Bool.not_true, Bool.not_false, Bool.false_and, Bool.and_false, Bool.and_eq_true, Bool.or_eq_true, Bool.not_eq_true', decide_eq_true_eq, decide_eq_false_iff_not]
  constructor <;> intro h <;> simp_all [inB] <;> omega
theorem fld_1 (A : Ar) (fl regs : Int) (s : GStmt) (hk : s.Kind = 1) : fldB A fl regs s = (plainB s ⟨#[70, 71]⟩ && inB fl [s.F, s.G]) := by
  unfold fldB zeroB plainB
  rw [hk, show useOf 1 = ⟨true, true, false, false, false, false, false, false, false, false⟩ from rfl]
  simp only [show hasB ⟨#[70, 71]⟩ 70 = true from rfl, show hasB ⟨#[70, 71]⟩ 71 = true from rfl, show hasB ⟨#[70, 71]⟩ 82 = false from rfl, show hasB ⟨#[70, 71]⟩ 78 = false from rfl, show hasB ⟨#[70, 71]⟩ 110 = false from rfl, show hasB ⟨#[70, 71]⟩ 102 = false from rfl, show hasB ⟨#[70, 71]⟩ 108 = false from rfl, show hasB ⟨#[70, 71]⟩ 114 = false from rfl, show hasB ⟨#[70, 71]⟩ 98 = false from rfl, show hasB ⟨#[70, 71]⟩ 101 = false from rfl]
  rw [Bool.eq_iff_iff]
  simp only [inB, inr, List.all_cons, List.all_nil, Bool.and_true, Bool.true_or, Bool.or_true, Bool.false_or, Bool.or_false, Bool.true_and, Bool.not_true, Bool.not_false, Bool.false_and, Bool.and_false, Bool.and_eq_true, Bool.or_eq_true, Bool.not_eq_true', decide_eq_true_eq, decide_eq_false_iff_not]
  constructor <;> intro h <;> simp_all [inB] <;> omega
theorem fld_2 (A : Ar) (fl regs : Int) (s : GStmt) (hk : s.Kind = 2) : fldB A fl regs s = (plainB s ⟨#[70, 71]⟩ && inB fl [s.F, s.G]) := by
  unfold fldB zeroB plainB
  rw [hk, show useOf 2 = ⟨true, true, false, false, false, false, false, false, false, false⟩ from rfl]
  simp only [show hasB ⟨#[70, 71]⟩ 70 = true from rfl, show hasB ⟨#[70, 71]⟩ 71 = true from rfl, show hasB ⟨#[70, 71]⟩ 82 = false from rfl, show hasB ⟨#[70, 71]⟩ 78 = false from rfl, show hasB ⟨#[70, 71]⟩ 110 = false from rfl, show hasB ⟨#[70, 71]⟩ 102 = false from rfl, show hasB ⟨#[70, 71]⟩ 108 = false from rfl, show hasB ⟨#[70, 71]⟩ 114 = false from rfl, show hasB ⟨#[70, 71]⟩ 98 = false from rfl, show hasB ⟨#[70, 71]⟩ 101 = false from rfl]
  rw [Bool.eq_iff_iff]
  simp only [inB, inr, List.all_cons, List.all_nil, Bool.and_true, Bool.true_or, Bool.or_true, Bool.false_or, Bool.or_false, Bool.true_and, Bool.not_true, Bool.not_false, Bool.false_and, Bool.and_false, Bool.and_eq_true, Bool.or_eq_true, Bool.not_eq_true', decide_eq_true_eq, decide_eq_false_iff_not]
  constructor <;> intro h <;> simp_all [inB] <;> omega
theorem fld_3 (A : Ar) (fl regs : Int) (s : GStmt) (hk : s.Kind = 3) : fldB A fl regs s = (plainB s ⟨#[70, 71]⟩ && inB fl [s.F, s.G]) := by
  unfold fldB zeroB plainB
  rw [hk, show useOf 3 = ⟨true, true, false, false, false, false, false, false, false, false⟩ from rfl]
  simp only [show hasB ⟨#[70, 71]⟩ 70 = true from rfl, show hasB ⟨#[70, 71]⟩ 71 = true from rfl, show hasB ⟨#[70, 71]⟩ 82 = false from rfl, show hasB ⟨#[70, 71]⟩ 78 = false from rfl, show hasB ⟨#[70, 71]⟩ 110 = false from rfl, show hasB ⟨#[70, 71]⟩ 102 = false from rfl, show hasB ⟨#[70, 71]⟩ 108 = false from rfl, show hasB ⟨#[70, 71]⟩ 114 = false from rfl, show hasB ⟨#[70, 71]⟩ 98 = false from rfl, show hasB ⟨#[70, 71]⟩ 101 = false from rfl]
  rw [Bool.eq_iff_iff]
  simp only [inB, inr, List.all_cons, List.all_nil, Bool.and_true, Bool.true_or, Bool.or_true, Bool.false_or, Bool.or_false, Bool.true_and, Bool.not_true, Bool.not_false, Bool.false_and, Bool.and_false, Bool.and_eq_true, Bool.or_eq_true, Bool.not_eq_true', decide_eq_true_eq, decide_eq_false_iff_not]
  constructor <;> intro h <;> simp_all [inB] <;> omega
theorem fld_4 (A : Ar) (fl regs : Int) (s : GStmt) (hk : s.Kind = 4) : fldB A fl regs s = (plainB s ⟨#[70, 71]⟩ && inB fl [s.F] && inB 2 [s.G]) := by
  unfold fldB zeroB plainB
  rw [hk, show useOf 4 = ⟨true, true, false, false, false, false, false, false, false, false⟩ from rfl]
  simp only [show hasB ⟨#[70, 71]⟩ 70 = true from rfl, show hasB ⟨#[70, 71]⟩ 71 = true from rfl, show hasB ⟨#[70, 71]⟩ 82 = false from rfl, show hasB ⟨#[70, 71]⟩ 78 = false from rfl, show hasB ⟨#[70, 71]⟩ 110 = false from rfl, show hasB ⟨#[70, 71]⟩ 102 = false from rfl, show hasB ⟨#[70, 71]⟩ 108 = false from rfl, show hasB ⟨#[70, 71]⟩ 114 = false from rfl, show hasB ⟨#[70, 71]⟩ 98 = false from rfl, show hasB ⟨#[70, 71]⟩ 101 = false from rfl]
  rw [Bool.eq_iff_iff]
  simp only [inB, inr, List.all_cons, List.all_nil, Bool.and_true, Bool.true_or, Bool.or_true, Bool.false_or, Bool.or_false, Bool.true_and, Bool.not_true, Bool.not_false, Bool.false_and, Bool.and_false, Bool.and_eq_true, Bool.or_eq_true, Bool.not_eq_true', decide_eq_true_eq, decide_eq_false_iff_not]
  constructor <;> intro h <;> simp_all [inB] <;> omega
theorem fld_5 (A : Ar) (fl regs : Int) (s : GStmt) (hk : s.Kind = 5) : fldB A fl regs s = (plainB s ⟨#[70, 71]⟩ && inB fl [s.F, s.G]) := by
  unfold fldB zeroB plainB
  rw [hk, show useOf 5 = ⟨true, true, false, false, false, false, false, false, false, false⟩ from rfl]
  simp only [show hasB ⟨#[70, 71]⟩ 70 = true from rfl, show hasB ⟨#[70, 71]⟩ 71 = true from rfl, show hasB ⟨#[70, 71]⟩ 82 = false from rfl, show hasB ⟨#[70, 71]⟩ 78 = false from rfl, show hasB ⟨#[70, 71]⟩ 110 = false from rfl, show hasB ⟨#[70, 71]⟩ 102 = false from rfl, show hasB ⟨#[70, 71]⟩ 108 = false from rfl, show hasB ⟨#[70, 71]⟩ 114 = false from rfl, show hasB ⟨#[70, 71]⟩ 98 = false from rfl, show hasB ⟨#[70, 71]⟩ 101 = false from rfl]
  rw [Bool.eq_iff_iff]
  simp only [inB, inr, List.all_cons, List.all_nil, Bool.and_true, Bool.true_or, Bool.or_true, Bool.false_or, Bool.or_false, Bool.true_and, Bool.not_true, Bool.not_false, Bool.false_and, Bool.and_false, Bool.and_eq_true, Bool.or_eq_true, Bool.not_eq_true', decide_eq_true_eq, decide_eq_false_iff_not]
  constructor <;> intro h <;> simp_all [inB] <;> omega
theorem fld_6 (A : Ar) (fl regs : Int) (s : GStmt) (hk : s.Kind = 6) : fldB A fl regs s = (plainB s ⟨#[70, 110, 114]⟩ && inB fl [s.F] && (A s.Name).isSome && decide ((s.Regs.length : Int) = (A s.Name).getD 0) && inB regs s.Regs) := by
  unfold fldB zeroB plainB
  rw [hk, show useOf 6 = ⟨true, false, false, false, true, false, false, true, false, false⟩ from rfl]
  simp only [show hasB ⟨#[70, 110, 114]⟩ 70 = true from rfl, show hasB ⟨#[70, 110, 114]⟩ 71 = false from rfl, show hasB ⟨#[70, 110, 114]⟩ 82 = false from rfl, show hasB ⟨#[70, 110, 114]⟩ 78 = false from rfl, show hasB ⟨#[70, 110, 114]⟩ 110 = true from rfl, show hasB ⟨#[70, 110, 114]⟩ 102 = false from rfl, show hasB ⟨#[70, 110, 114]⟩ 108 = false from rfl, show hasB ⟨#[70, 110, 114]⟩ 114 = true from rfl, show hasB ⟨#[70, 110, 114]⟩ 98 = false from rfl, show hasB ⟨#[70, 110, 114]⟩ 101 = false from rfl]
  rw [Bool.eq_iff_iff]
  simp only [inB, inr, List.all_cons, List.all_nil, Bool.and_true, Bool.true_or, Bool.or_true, Bool.false_or, Bool.or_false, Bool.true_and, Bool.not_true, Bool.not_false, Bool.false_and, Bool.and_false, Bool.and_eq_true, Bool.or_eq_true, Bool.not_eq_true', decide_eq_true_eq, decide_eq_false_iff_not]
  constructor <;> intro h <;> simp_all [inB] <;> omega
theorem fld_7 (A : Ar) (fl regs : Int) (s : GStmt) (hk : s.Kind = 7) : fldB A fl regs s = (plainB s ⟨#[82, 98]⟩ && inB regs [s.R]) := by
  unfold fldB zeroB plainB
  rw [hk, show useOf 7 = ⟨false, false, true, false, false, false, false, false, true, false⟩ from rfl]
  simp only [show hasB ⟨#[82, 98]⟩ 70 = false from rfl, show hasB ⟨#[82, 98]⟩ 71 = false from rfl, show hasB ⟨#[82, 98]⟩ 82 = true from rfl, show hasB ⟨#[82, 98]⟩ 78 = false from rfl, show hasB ⟨#[82, 98]⟩ 110 = false from rfl, show hasB ⟨#[82, 98]⟩ 102 = false from rfl, show hasB ⟨#[82, 98]⟩ 108 = false from rfl, show hasB ⟨#[82, 98]⟩ 114 = false from rfl, show hasB ⟨#[82, 98]⟩ 98 = true from rfl, show hasB ⟨#[82, 98]⟩ 101 = false from rfl]
  rw [Bool.eq_iff_iff]
  simp only [inB, inr, List.all_cons, List.all_nil, Bool.and_true, Bool.true_or, Bool.or_true, Bool.false_or, Bool.or_false, Bool.true_and, Bool.not_true, Bool.not_false, Bool.false_and, Bool.and_false, Bool.and_eq_true, Bool.or_eq_true, Bool.not_eq_true', decide_eq_true_eq, decide_eq_false_iff_not]
  constructor <;> intro h <;> simp_all [inB] <;> omega
theorem fld_8 (A : Ar) (fl regs : Int) (s : GStmt) (hk : s.Kind = 8) : fldB A fl regs s = (plainB s ⟨#[70, 98, 101]⟩ && inB fl [s.F]) := by
  unfold fldB zeroB plainB
  rw [hk, show useOf 8 = ⟨true, false, false, false, false, false, false, false, true, true⟩ from rfl]
  simp only [show hasB ⟨#[70, 98, 101]⟩ 70 = true from rfl, show hasB ⟨#[70, 98, 101]⟩ 71 = false from rfl, show hasB ⟨#[70, 98, 101]⟩ 82 = false from rfl, show hasB ⟨#[70, 98, 101]⟩ 78 = false from rfl, show hasB ⟨#[70, 98, 101]⟩ 110 = false from rfl, show hasB ⟨#[70, 98, 101]⟩ 102 = false from rfl, show hasB ⟨#[70, 98, 101]⟩ 108 = false from rfl, show hasB ⟨#[70, 98, 101]⟩ 114 = false from rfl, show hasB ⟨#[70, 98, 101]⟩ 98 = true from rfl, show hasB ⟨#[70, 98, 101]⟩ 101 = true from rfl]
  rw [Bool.eq_iff_iff]
  simp only [inB, inr, List.all_cons, List.all_nil, Bool.and_true, Bool.true_or, Bool.or_true, Bool.false_or, Bool.or_false, Bool.true_and, Bool.not_true, Bool.not_false, Bool.false_and, Bool.and_false, Bool.and_eq_true, Bool.or_eq_true, Bool.not_eq_true', decide_eq_true_eq, decide_eq_false_iff_not]
  constructor <;> intro h <;> simp_all [inB] <;> omega
theorem fld_9 (A : Ar) (fl regs : Int) (s : GStmt) (hk : s.Kind = 9) : fldB A fl regs s = (plainB s ⟨#[78, 98]⟩ && inB 13 [s.N]) := by
  unfold fldB zeroB plainB
  rw [hk, show useOf 9 = ⟨false, false, false, true, false, false, false, false, true, false⟩ from rfl]
  simp only [show hasB ⟨#[78, 98]⟩ 70 = false from rfl, show hasB ⟨#[78, 98]⟩ 71 = false from rfl, show hasB ⟨#[78, 98]⟩ 82 = false from rfl, show hasB ⟨#[78, 98]⟩ 78 = true from rfl, show hasB ⟨#[78, 98]⟩ 110 = false from rfl, show hasB ⟨#[78, 98]⟩ 102 = false from rfl, show hasB ⟨#[78, 98]⟩ 108 = false from rfl, show hasB ⟨#[78, 98]⟩ 114 = false from rfl, show hasB ⟨#[78, 98]⟩ 98 = true from rfl, show hasB ⟨#[78, 98]⟩ 101 = false from rfl]
  rw [Bool.eq_iff_iff]
  simp only [inB, inr, List.all_cons, List.all_nil, Bool.and_true, Bool.true_or, Bool.or_true, Bool.false_or, Bool.or_false, Bool.true_and, Bool.not_true, Bool.not_false, Bool.false_and, Bool.and_false, Bool.and_eq_true, Bool.or_eq_true, Bool.not_eq_true', decide_eq_true_eq, decide_eq_false_iff_not]
  constructor <;> intro h <;> simp_all [inB] <;> omega
theorem fld_10 (A : Ar) (fl regs : Int) (s : GStmt) (hk : s.Kind = 10) : fldB A fl regs s = (plainB s ⟨#[70, 98]⟩ && inB fl [s.F]) := by
  unfold fldB zeroB plainB
  rw [hk, show useOf 10 = ⟨true, false, false, false, false, false, false, false, true, false⟩ from rfl]
  simp only [show hasB ⟨#[70, 98]⟩ 70 = true from rfl, show hasB ⟨#[70, 98]⟩ 71 = false from rfl, show hasB ⟨#[70, 98]⟩ 82 = false from rfl, show hasB ⟨#[70, 98]⟩ 78 = false from rfl, show hasB ⟨#[70, 98]⟩ 110 = false from rfl, show hasB ⟨#[70, 98]⟩ 102 = false from rfl, show hasB ⟨#[70, 98]⟩ 108 = false from rfl, show hasB ⟨#[70, 98]⟩ 114 = false from rfl, show hasB ⟨#[70, 98]⟩ 98 = true from rfl, show hasB ⟨#[70, 98]⟩ 101 = false from rfl]
  rw [Bool.eq_iff_iff]
  simp only [inB, inr, List.all_cons, List.all_nil, Bool.and_true, Bool.true_or, Bool.or_true, Bool.false_or, Bool.or_false, Bool.true_and, Bool.not_true, Bool.not_false, Bool.false_and, Bool.and_false, Bool.and_eq_true, Bool.or_eq_true, Bool.not_eq_true', decide_eq_true_eq, decide_eq_false_iff_not]
  constructor <;> intro h <;> simp_all [inB] <;> omega
theorem fld_11 (A : Ar) (fl regs : Int) (s : GStmt) (hk : s.Kind = 11) : fldB A fl regs s = (plainB s ⟨#[110]⟩ && (A s.Name).isSome) := by
  unfold fldB zeroB plainB
  rw [hk, show useOf 11 = ⟨false, false, false, false, true, false, false, false, false, false⟩ from rfl]
  simp only [show hasB ⟨#[110]⟩ 70 = false from rfl, show hasB ⟨#[110]⟩ 71 = false from rfl, show hasB ⟨#[110]⟩ 82 = false from rfl, show hasB ⟨#[110]⟩ 78 = false from rfl, show hasB ⟨#[110]⟩ 110 = true from rfl, show hasB ⟨#[110]⟩ 102 = false from rfl, show hasB ⟨#[110]⟩ 108 = false from rfl, show hasB ⟨#[110]⟩ 114 = false from rfl, show hasB ⟨#[110]⟩ 98 = false from rfl, show hasB ⟨#[110]⟩ 101 = false from rfl]
  rw [Bool.eq_iff_iff]
  simp only [inB, inr, List.all_cons, List.all_nil, Bool.and_true, Bool.true_or, Bool.or_true, Bool.false_or, Bool.or_false, Bool.true_and, Bool.not_true, Bool.not_false, Bool.false_and, Bool.and_false, Bool.and_eq_true, Bool.or_eq_true, Bool.not_eq_true', decide_eq_true_eq, decide_eq_false_iff_not]
  constructor <;> intro h <;> simp_all [inB] <;> omega
theorem fld_12 (A : Ar) (fl regs : Int) (s : GStmt) (hk : s.Kind = 12) : fldB A fl regs s = (plainB s ⟨#[110]⟩ && (A s.Name).isSome) := by
  unfold fldB zeroB plainB
  rw [hk, show useOf 12 = ⟨false, false, false, false, true, false, false, false, false, false⟩ from rfl]
  simp only [show hasB ⟨#[110]⟩ 70 = false from rfl, show hasB ⟨#[110]⟩ 71 = false from rfl, show hasB ⟨#[110]⟩ 82 = false from rfl, show hasB ⟨#[110]⟩ 78 = false from rfl, show hasB ⟨#[110]⟩ 110 = true from rfl, show hasB ⟨#[110]⟩ 102 = false from rfl, show hasB ⟨#[110]⟩ 108 = false from rfl, show hasB ⟨#[110]⟩ 114 = false from rfl, show hasB ⟨#[110]⟩ 98 = false from rfl, show hasB ⟨#[110]⟩ 101 = false from rfl]
  rw [Bool.eq_iff_iff]
  simp only [inB, inr, List.all_cons, List.all_nil, Bool.and_true, Bool.true_or, Bool.or_true, Bool.false_or, Bool.or_false, Bool.true_and, Bool.not_true, Bool.not_false, Bool.false_and, Bool.and_false, Bool.and_eq_true, Bool.or_eq_true, Bool.not_eq_true', decide_eq_true_eq, decide_eq_false_iff_not]
  constructor <;> intro h <;> simp_all [inB] <;> omega
theorem fld_13 (A : Ar) (fl regs : Int) (s : GStmt) (hk : s.Kind = 13) : fldB A fl regs s = (plainB s ⟨#[110, 102]⟩ && (A s.Name).isSome && (A s.From).isSome && decide ((A s.Name).getD 0 = (A s.From).getD 0)) := by
  unfold fldB zeroB plainB
  rw [hk, show useOf 13 = ⟨false, false, false, false, true, true, false, false, false, false⟩ from rfl]
  simp only [show hasB ⟨#[110, 102]⟩ 70 = false from rfl, show hasB ⟨#[110, 102]⟩ 71 = false from rfl, show hasB ⟨#[110, 102]⟩ 82 = false from rfl, show hasB ⟨#[110, 102]⟩ 78 = false from rfl, show hasB ⟨#[110, 102]⟩ 110 = true from rfl, show hasB ⟨#[110, 102]⟩ 102 = true from rfl, show hasB ⟨#[110, 102]⟩ 108 = false from rfl, show hasB ⟨#[110, 102]⟩ 114 = false from rfl, show hasB ⟨#[110, 102]⟩ 98 = false from rfl, show hasB ⟨#[110, 102]⟩ 101 = false from rfl]
  rw [Bool.eq_iff_iff]
  simp only [inB, inr, List.all_cons, List.all_nil, Bool.and_true, Bool.true_or, Bool.or_true, Bool.false_or, Bool.or_false, Bool.true_and, Bool.not_true, Bool.not_false, Bool.false_and, Bool.and_false, Bool.and_eq_true, Bool.or_eq_true, Bool.not_eq_true', decide_eq_true_eq, decide_eq_false_iff_not]
  constructor <;> intro h <;> simp_all [inB] <;> omega
theorem fld_14 (A : Ar) (fl regs : Int) (s : GStmt) (hk : s.Kind = 14) : fldB A fl regs s = (plainB s ⟨#[70, 110, 102]⟩ && inB fl [s.F] && (A s.Name).isSome && (A s.From).isSome && decide ((A s.Name).getD 0 = (A s.From).getD 0)) := by
  unfold fldB zeroB plainB
  rw [hk, show useOf 14 = ⟨true, false, false, false, true, true, false, false, false, false⟩ from rfl]
  simp only [show hasB ⟨#[70, 110, 102]⟩ 70 = true from rfl, show hasB ⟨#[70, 110, 102]⟩ 71 = false from rfl, show hasB ⟨#[70, 110, 102]⟩ 82 = false from rfl, show hasB ⟨#[70, 110, 102]⟩ 78 = false from rfl, show hasB ⟨#[70, 110, 102]⟩ 110 = true from rfl, show hasB ⟨#[70, 110, 102]⟩ 102 = true from rfl, show hasB ⟨#[70, 110, 102]⟩ 108 = false from rfl, show hasB ⟨#[70, 110, 102]⟩ 114 = false from rfl, show hasB ⟨#[70, 110, 102]⟩ 98 = false from rfl, show hasB ⟨#[70, 110, 102]⟩ 101 = false from rfl]
  rw [Bool.eq_iff_iff]
  simp only [inB, inr, List.all_cons, List.all_nil, Bool.and_true, Bool.true_or, Bool.or_true, Bool.false_or, Bool.or_false, Bool.true_and, Bool.not_true, Bool.not_false, Bool.false_and, Bool.and_false, Bool.and_eq_true, Bool.or_eq_true, Bool.not_eq_true', decide_eq_true_eq, decide_eq_false_iff_not]
  constructor <;> intro h <;> simp_all [inB] <;> omega
def refS (A : Ar) (fl regs : Int) (s : GStmt) : Bool := decide (0 ≤ s.Kind) && decide (s.Kind < 15) && fldB A fl regs s
theorem fldAll (A : Ar) (fl regs : Int) (s : GStmt) : refS A fl regs s =
    (if s.Kind = 0 then plainB s ⟨#[70, 108]⟩ && inB fl [s.F] && litB A regs s.Lit else
    if s.Kind = 1 ∨ s.Kind = 2 ∨ s.Kind = 3 ∨ s.Kind = 5 then plainB s ⟨#[70, 71]⟩ && inB fl [s.F, s.G] else
    if s.Kind = 4 then plainB s ⟨#[70, 71]⟩ && inB fl [s.F] && inB 2 [s.G] else
    if s.Kind = 6 then plainB s ⟨#[70, 110, 114]⟩ && inB fl [s.F] && (A s.Name).isSome && decide ((s.Regs.length : Int) = (A s.Name).getD 0) && inB regs s.Regs else
    if s.Kind = 7 then plainB s ⟨#[82, 98]⟩ && inB regs [s.R] else
    if s.Kind = 8 then plainB s ⟨#[70, 98, 101]⟩ && inB fl [s.F] else
    if s.Kind = 9 then plainB s ⟨#[78, 98]⟩ && inB 13 [s.N] else
    if s.Kind = 10 then plainB s ⟨#[70, 98]⟩ && inB fl [s.F] else
    if s.Kind = 11 ∨ s.Kind = 12 then plainB s ⟨#[110]⟩ && (A s.Name).isSome else
    if s.Kind = 13 then plainB s ⟨#[110, 102]⟩ && (A s.Name).isSome && (A s.From).isSome && decide ((A s.Name).getD 0 = (A s.From).getD 0) else
    if s.Kind = 14 then plainB s ⟨#[70, 110, 102]⟩ && inB fl [s.F] && (A s.Name).isSome && (A s.From).isSome && decide ((A s.Name).getD 0 = (A s.From).getD 0) else false) := by
  unfold refS
  by_cases h0 : 0 ≤ s.Kind ∧ s.Kind < 15
  · have : s.Kind = 0 ∨ s.Kind = 1 ∨ s.Kind = 2 ∨ s.Kind = 3 ∨ s.Kind = 4 ∨ s.Kind = 5 ∨ s.Kind = 6 ∨ s.Kind = 7 ∨ s.Kind = 8 ∨ s.Kind = 9 ∨ s.Kind = 10 ∨ s.Kind = 11 ∨ s.Kind = 12 ∨ s.Kind = 13 ∨ s.Kind = 14 := by omega
    rw [decide_eq_true h0.1, decide_eq_true h0.2, Bool.true_and, Bool.true_and]
    rcases this with h | h | h | h | h | h | h | h | h | h | h | h | h | h | h
    · rw [fld_0 A fl regs s h, h]; simp only [Bool.and_assoc]; rfl
    · rw [fld_1 A fl regs s h, h]; rfl
    · rw [fld_2 A fl regs s h, h]; rfl
    · rw [fld_3 A fl regs s h, h]; rfl
    · rw [fld_4 A fl regs s h, h]; rfl
    · rw [fld_5 A fl regs s h, h]; rfl
    · rw [fld_6 A fl regs s h, h]; rfl
    · rw [fld_7 A fl regs s h, h]; rfl
    · rw [fld_8 A fl regs s h, h]; rfl
    · rw [fld_9 A fl regs s h, h]; rfl
    · rw [fld_10 A fl regs s h, h]; rfl
    · rw [fld_11 A fl regs s h, h]; rfl
    · rw [fld_12 A fl regs s h, h]; rfl
    · rw [fld_13 A fl regs s h, h]; rfl
    · rw [fld_14 A fl regs s h, h]; rfl
  · have e1 : (decide (0 ≤ s.Kind) && decide (s.Kind < 15)) = false := by
      rw [Bool.eq_false_iff]; intro h; simp at h; exact h0 h
    rw [e1, Bool.false_and]
    have n := fun (k : Int) (hk : 0 ≤ k ∧ k < 15) => show s.Kind ≠ k from fun e => h0 (by rw [e]; exact hk)
    simp only [n 0 (by omega), n 1 (by omega), n 2 (by omega), n 3 (by omega), n 4 (by omega), n 5 (by omega), n 6 (by omega), n 7 (by omega), n 8 (by omega), n 9 (by omega), n 10 (by omega), n 11 (by omega), n 12 (by omega), n 13 (by omega), n 14 (by omega), false_or, if_false]
theorem ref_stmt (c : GCode) (hc : c.Ok) (s : GStmt) (hs : s.Ok) : Tri Tryz.prog 105 [c.av, s.st] [] (D (.bool (refS (arOf c.Arrays) c.Flags c.Regs s)) []) := by
  have hLit := ref_literal c hc s.Lit (by obtain ⟨h, _, _, _, _⟩ := hs; exact h.2.2.2.2.2.2.2.1)
  obtain ⟨_, _, hca, hcb⟩ := hc
  have hal : c.Arrays.length ≤ 4611686018427387904 := by have := hca.1; omega
  have hP : ∀ u, strOk u → Tri Tryz.prog 132 [s.st, .str u] [] (D (.bool (plainB s u)) []) := ref_plain s
  have i1 := ref_in c.Flags [s.F] (by simp)
  have i2 := ref_in c.Flags [s.F, s.G] (by simp)
  have i3 := ref_in 2 [s.G] (by simp)
  have i4 := ref_in c.Regs [s.R] (by simp)
  have i5 := ref_in 13 [s.N] (by simp)
  have i6 := ref_in c.Regs s.Regs (by obtain ⟨h, _, _, _, _⟩ := hs; have := h.2.2.2.2.2.2.2.2.1; omega)
  have f1 := ref_find c.Arrays s.Name hal
  have f2 := ref_find c.Arrays s.From hal
  have hF := fldAll (arOf c.Arrays) c.Flags c.Regs s
  generalize refS (arOf c.Arrays) c.Flags c.Regs s = v at hF ⊢
  have hA : decide (findJ s.Name c.Arrays 0 ≥ 0) = (arOf c.Arrays s.Name).isSome ∧ (0 ≤ findJ s.Name c.Arrays 0 → ∃ a : GSym, (c.Arrays.map GSym.av)[(findJ s.Name c.Arrays 0).toNat]? = some a.av ∧ a.Arity = (arOf c.Arrays s.Name).getD 0) := by
    rcases findJ_spec s.Name c.Arrays 0 with ⟨e1, e2⟩ | ⟨k, a, e1, ha, -, e2⟩
    · rw [e1, e2]; exact ⟨rfl, fun h => absurd h (by omega)⟩
    · rw [e1, e2]; exact ⟨by simp, fun _ => ⟨a, by simpa using map_get ha, rfl⟩⟩
  have hB : decide (findJ s.From c.Arrays 0 ≥ 0) = (arOf c.Arrays s.From).isSome ∧ (0 ≤ findJ s.From c.Arrays 0 → ∃ a : GSym, (c.Arrays.map GSym.av)[(findJ s.From c.Arrays 0).toNat]? = some a.av ∧ a.Arity = (arOf c.Arrays s.From).getD 0) := by
    rcases findJ_spec s.From c.Arrays 0 with ⟨e1, e2⟩ | ⟨k, a, e1, ha, -, e2⟩
    · rw [e1, e2]; exact ⟨rfl, fun h => absurd h (by omega)⟩
    · rw [e1, e2]; exact ⟨by simp, fun _ => ⟨a, by simpa using map_get ha, rfl⟩⟩
  generalize findJ s.Name c.Arrays 0 = ja at *
  generalize findJ s.From c.Arrays 0 = jb at *
  obtain ⟨hA1, hA2⟩ := hA
  obtain ⟨hB1, hB2⟩ := hB
  obtain ⟨xa, hxa⟩ : ∃ a : GSym, 0 ≤ ja → (c.Arrays.map GSym.av)[ja.toNat]? = some a.av ∧ a.Arity = (arOf c.Arrays s.Name).getD 0 := by
    by_cases h : 0 ≤ ja
    · obtain ⟨a, h1, h2⟩ := hA2 h; exact ⟨a, fun _ => ⟨h1, h2⟩⟩
    · exact ⟨⟨⟨#[]⟩, 0⟩, fun h' => absurd h' h⟩
  obtain ⟨xb, hxb⟩ : ∃ a : GSym, 0 ≤ jb → (c.Arrays.map GSym.av)[jb.toNat]? = some a.av ∧ a.Arity = (arOf c.Arrays s.From).getD 0 := by
    by_cases h : 0 ≤ jb
    · obtain ⟨a, h1, h2⟩ := hB2 h; exact ⟨a, fun _ => ⟨h1, h2⟩⟩
    · exact ⟨⟨⟨#[]⟩, 0⟩, fun h' => absurd h' h⟩
  clear hA2 hB2
  refine Tri.enter 224 Tryz.func105 rfl rfl rfl rfl fun Fr w0 => ?_
  repeat' (first
    | refine AW.seq ?_
    | (refine AW.region_at 0 ?_ <;> (first | refine AL.d (AOp.box_ro rfl rfl) ?_ | refine AL.d (AOp.box_ro rfl rfl) ?_) <;> (first | refine AL.d (AOp.box_ro rfl rfl) ?_ | refine AL.d (AOp.box_ro rfl rfl) ?_) <;> refine AL.e ?_ <;> refine AL.nil ?_)
    | (refine AW.da 1 ?_ <;> (first | refine AQ.p rfl AOp.fa ?_ | refine AQ.p rfl (AOp.fr 2) ?_) <;> refine AQ.p rfl AOp.la ?_ <;> (first | refine AQ.p rfl AOp.fa ?_ | refine AQ.p rfl (AOp.fr 5) ?_) <;> refine AQ.p rfl AOp.la ?_ <;> (first | refine AQ.p rfl (AOp.call rfl rfl f1) ?_ | refine AQ.p rfl (AOp.call rfl rfl f2) ?_) <;> (first | refine AQ.p rfl AOp.fa ?_ | refine AQ.p rfl (AOp.fr 2) ?_) <;> refine AQ.p rfl AOp.la ?_ <;> (first | refine AQ.p rfl AOp.fa ?_ | refine AQ.p rfl (AOp.fr 6) ?_) <;> refine AQ.p rfl AOp.la ?_ <;> (first | refine AQ.p rfl (AOp.call rfl rfl f1) ?_ | refine AQ.p rfl (AOp.call rfl rfl f2) ?_) <;> refine AQ.e ?_ <;> refine AQ.e ?_ <;> refine AQ.nil ?_)
    | (refine AW.region_at 2 ?_ <;> (first | refine AL.d AOp.fa ?_ | refine AL.d (AOp.fr 0) ?_) <;> refine AL.d AOp.la ?_ <;> refine AL.nil ?_)
    | (refine AW.region_at 3 ?_ <;> refine AL.e ?_ <;> refine AL.e ?_ <;> refine AL.nil ?_)
    | (refine AW.region_at 5 ?_ <;> refine AL.e ?_ <;> refine AL.e ?_ <;> refine AL.nil ?_)
    | (refine AW.region_at 6 ?_ <;> refine AL.e ?_ <;> refine AL.e ?_ <;> refine AL.nil ?_)
    | (refine AW.region_at 7 ?_ <;> refine AL.e ?_ <;> refine AL.e ?_ <;> refine AL.nil ?_)
    | (refine AW.region_at 8 ?_ <;> refine AL.e ?_ <;> refine AL.e ?_ <;> refine AL.nil ?_)
    | (refine AW.region_at 10 ?_ <;> refine AL.e ?_ <;> refine AL.e ?_ <;> refine AL.nil ?_)
    | (refine AW.region_at 12 ?_ <;> refine AL.e ?_ <;> refine AL.e ?_ <;> refine AL.nil ?_)
    | (refine AW.region_at 14 ?_ <;> refine AL.e ?_ <;> refine AL.e ?_ <;> refine AL.nil ?_)
    | (refine AW.region_at 16 ?_ <;> refine AL.e ?_ <;> refine AL.e ?_ <;> refine AL.nil ?_)
    | (refine AW.region_at 18 ?_ <;> refine AL.e ?_ <;> refine AL.e ?_ <;> refine AL.nil ?_)
    | (refine AW.region_at 20 ?_ <;> refine AL.e ?_ <;> refine AL.e ?_ <;> refine AL.nil ?_)
    | (refine AW.region_at 22 ?_ <;> refine AL.e ?_ <;> refine AL.e ?_ <;> refine AL.nil ?_)
    | (refine AW.region_at 23 ?_ <;> refine AL.e ?_ <;> refine AL.e ?_ <;> refine AL.nil ?_)
    | (refine AW.region_at 25 ?_ <;> refine AL.e ?_ <;> refine AL.e ?_ <;> refine AL.nil ?_)
    | (refine AW.region_at 27 ?_ <;> refine AL.e ?_ <;> refine AL.e ?_ <;> refine AL.nil ?_)
    | (refine AW.region_at 29 ?_ <;> refine AL.e ?_ <;> refine AL.nil ?_)
    | refine AW.cond_true rfl ?_
    | refine AW.cond_false rfl ?_
    | refine AW.block ?_
    | refine AW.endblk ?_
    | refine AW.skip ?_
    | refine AW.exit rfl ?_
    | refine AW.label ?_
    | refine AW.j (fun hb => ?_) (fun hb => ?_))
  all_goals try first | exact absurd ((by assumption : (s.Kind == 1) = false).symm.trans (by assumption : (s.Kind == 1) = true)) (by decide) | exact absurd ((by assumption : (s.Kind == 2) = false).symm.trans (by assumption : (s.Kind == 2) = true)) (by decide) | exact absurd ((by assumption : (s.Kind == 3) = false).symm.trans (by assumption : (s.Kind == 3) = true)) (by decide) | exact absurd ((by assumption : (s.Kind == 5) = false).symm.trans (by assumption : (s.Kind == 5) = true)) (by decide) | exact absurd ((by assumption : (s.Kind == 11) = false).symm.trans (by assumption : (s.Kind == 11) = true)) (by decide) | exact absurd ((by assumption : (s.Kind == 12) = false).symm.trans (by assumption : (s.Kind == 12) = true)) (by decide)
  · have hk := eq_of_beq hb
    repeat' (first
      | refine AW.seq ?_
      | (refine AW.region_at 4 ?_ <;> refine AL.d AOp.la ?_ <;> (first | (refine AL.d (AOp.call rfl rfl (hP _ (by show (2 : Nat) ≤ _; omega))) ?_) | refine AL.d (AOp.call rfl rfl i1) ?_ | refine AL.d (AOp.call rfl rfl hLit) ?_) <;> refine AL.e ?_ <;> (first | (refine AL.gd ?_; (first | refine AL.d AOp.fa ?_ | refine AL.d (AOp.fr 0) ?_)) | refine AL.gs ?_ | refine AL.gu ?_ | (refine AL.gx (fun hb => ?_) (fun hb => ?_) <;> first | (refine AL.gd ?_; (first | refine AL.d AOp.fa ?_ | refine AL.d (AOp.fr 0) ?_)) | refine AL.gs ?_)) <;> (first | (refine AL.gd ?_; refine AL.d AOp.la ?_) | refine AL.gs ?_ | refine AL.gu ?_) <;> (first | (refine AL.gd ?_; (first | refine AL.d AOp.fa ?_ | refine AL.d (AOp.fr 1) ?_)) | refine AL.gs ?_ | refine AL.gu ?_) <;> (first | (refine AL.gd ?_; refine AL.d AOp.la ?_) | refine AL.gs ?_ | refine AL.gu ?_) <;> (first | (refine AL.gd ?_; refine AL.d (AOp.lit (e := 3) (sz := 1) (by kernel_rfl) rfl rfl rfl (by simp [AV.size, ofConst]) (by decide)) ?_) | refine AL.gs ?_ | refine AL.gu ?_) <;> (first | (refine AL.gd ?_; (first | (refine AL.d (AOp.call rfl rfl (hP _ (by show (2 : Nat) ≤ _; omega))) ?_) | refine AL.d (AOp.call rfl rfl i1) ?_ | refine AL.d (AOp.call rfl rfl hLit) ?_)) | refine AL.gs ?_ | refine AL.gu ?_) <;> refine AL.e ?_ <;> refine AL.e ?_ <;> (first | (refine AL.gd ?_; refine AL.d AOp.la ?_) | refine AL.gs ?_ | refine AL.gu ?_ | (refine AL.gx (fun hb => ?_) (fun hb => ?_) <;> first | (refine AL.gd ?_; refine AL.d AOp.la ?_) | refine AL.gs ?_)) <;> (first | (refine AL.gd ?_; (first | refine AL.d AOp.fa ?_ | refine AL.d (AOp.fr 7) ?_)) | refine AL.gs ?_ | refine AL.gu ?_) <;> (first | (refine AL.gd ?_; refine AL.d AOp.la ?_) | refine AL.gs ?_ | refine AL.gu ?_) <;> (first | (refine AL.gd ?_; (first | (refine AL.d (AOp.call rfl rfl (hP _ (by show (2 : Nat) ≤ _; omega))) ?_) | refine AL.d (AOp.call rfl rfl i1) ?_ | refine AL.d (AOp.call rfl rfl hLit) ?_)) | refine AL.gs ?_ | refine AL.gu ?_) <;> refine AL.e ?_ <;> refine AL.e ?_ <;> refine AL.nil ?_)
      | refine AW.cond_true rfl ?_
      | refine AW.cond_false rfl ?_
      | refine AW.block ?_
      | refine AW.endblk ?_
      | refine AW.skip ?_
      | refine AW.exit rfl ?_
      | refine AW.label ?_
      | refine AW.j (fun hb => ?_) (fun hb => ?_))
    all_goals refine AW.retv rfl ⟨?_, rfl⟩
    all_goals (clear hP i1 i2 i3 i4 i5 i6 f1 f2 hLit hs hca hcb hal; rw [hk] at hF; subst hF; show AEnd.ret (.bool _) = AEnd.ret (.bool _); congr 2; simp only [ge_iff_le, decide_eq_true_eq, decide_eq_false_iff_not, List.length_map, Int.reduceEq, if_true, if_false, or_true, true_or, or_false, false_or] at *)
    all_goals simp_all [ofConst]
    all_goals (rw [Bool.eq_iff_iff]; simp)
  · have hk := eq_of_beq hb
    repeat' (first
      | refine AW.seq ?_
      | (refine AW.region_at 9 ?_ <;> refine AL.d AOp.la ?_ <;> (first | (refine AL.d (AOp.call rfl rfl (hP _ (by show (2 : Nat) ≤ _; omega))) ?_) | refine AL.d (AOp.call rfl rfl i2) ?_) <;> refine AL.e ?_ <;> (first | (refine AL.gd ?_; (first | refine AL.d AOp.fa ?_ | refine AL.d (AOp.fr 0) ?_)) | refine AL.gs ?_ | refine AL.gu ?_ | (refine AL.gx (fun hb => ?_) (fun hb => ?_) <;> first | (refine AL.gd ?_; (first | refine AL.d AOp.fa ?_ | refine AL.d (AOp.fr 0) ?_)) | refine AL.gs ?_)) <;> (first | (refine AL.gd ?_; refine AL.d AOp.la ?_) | refine AL.gs ?_ | refine AL.gu ?_) <;> (first | (refine AL.gd ?_; (first | refine AL.d AOp.fa ?_ | refine AL.d (AOp.fr 1) ?_)) | refine AL.gs ?_ | refine AL.gu ?_) <;> (first | (refine AL.gd ?_; refine AL.d AOp.la ?_) | refine AL.gs ?_ | refine AL.gu ?_) <;> (first | (refine AL.gd ?_; (first | refine AL.d AOp.fa ?_ | refine AL.d (AOp.fr 2) ?_)) | refine AL.gs ?_ | refine AL.gu ?_) <;> (first | (refine AL.gd ?_; refine AL.d AOp.la ?_) | refine AL.gs ?_ | refine AL.gu ?_) <;> (first | (refine AL.gd ?_; refine AL.d (AOp.lit (e := 3) (sz := 1) (by kernel_rfl) rfl rfl rfl (by simp [AV.size, ofConst]) (by decide)) ?_) | refine AL.gs ?_ | refine AL.gu ?_) <;> (first | (refine AL.gd ?_; (first | (refine AL.d (AOp.call rfl rfl (hP _ (by show (2 : Nat) ≤ _; omega))) ?_) | refine AL.d (AOp.call rfl rfl i2) ?_)) | refine AL.gs ?_ | refine AL.gu ?_) <;> refine AL.e ?_ <;> refine AL.e ?_ <;> refine AL.nil ?_)
      | refine AW.cond_true rfl ?_
      | refine AW.cond_false rfl ?_
      | refine AW.block ?_
      | refine AW.endblk ?_
      | refine AW.skip ?_
      | refine AW.exit rfl ?_
      | refine AW.label ?_
      | refine AW.j (fun hb => ?_) (fun hb => ?_))
    all_goals refine AW.retv rfl ⟨?_, rfl⟩
    all_goals (clear hP i1 i2 i3 i4 i5 i6 f1 f2 hLit hs hca hcb hal; rw [hk] at hF; subst hF; show AEnd.ret (.bool _) = AEnd.ret (.bool _); congr 2; simp only [ge_iff_le, decide_eq_true_eq, decide_eq_false_iff_not, List.length_map, Int.reduceEq, if_true, if_false, or_true, true_or, or_false, false_or] at *)
    all_goals simp_all [ofConst]
    all_goals (rw [Bool.eq_iff_iff]; simp)
  · have hk := eq_of_beq hb
    repeat' (first
      | refine AW.seq ?_
      | (refine AW.region_at 9 ?_ <;> refine AL.d AOp.la ?_ <;> (first | (refine AL.d (AOp.call rfl rfl (hP _ (by show (2 : Nat) ≤ _; omega))) ?_) | refine AL.d (AOp.call rfl rfl i2) ?_) <;> refine AL.e ?_ <;> (first | (refine AL.gd ?_; (first | refine AL.d AOp.fa ?_ | refine AL.d (AOp.fr 0) ?_)) | refine AL.gs ?_ | refine AL.gu ?_ | (refine AL.gx (fun hb => ?_) (fun hb => ?_) <;> first | (refine AL.gd ?_; (first | refine AL.d AOp.fa ?_ | refine AL.d (AOp.fr 0) ?_)) | refine AL.gs ?_)) <;> (first | (refine AL.gd ?_; refine AL.d AOp.la ?_) | refine AL.gs ?_ | refine AL.gu ?_) <;> (first | (refine AL.gd ?_; (first | refine AL.d AOp.fa ?_ | refine AL.d (AOp.fr 1) ?_)) | refine AL.gs ?_ | refine AL.gu ?_) <;> (first | (refine AL.gd ?_; refine AL.d AOp.la ?_) | refine AL.gs ?_ | refine AL.gu ?_) <;> (first | (refine AL.gd ?_; (first | refine AL.d AOp.fa ?_ | refine AL.d (AOp.fr 2) ?_)) | refine AL.gs ?_ | refine AL.gu ?_) <;> (first | (refine AL.gd ?_; refine AL.d AOp.la ?_) | refine AL.gs ?_ | refine AL.gu ?_) <;> (first | (refine AL.gd ?_; refine AL.d (AOp.lit (e := 3) (sz := 1) (by kernel_rfl) rfl rfl rfl (by simp [AV.size, ofConst]) (by decide)) ?_) | refine AL.gs ?_ | refine AL.gu ?_) <;> (first | (refine AL.gd ?_; (first | (refine AL.d (AOp.call rfl rfl (hP _ (by show (2 : Nat) ≤ _; omega))) ?_) | refine AL.d (AOp.call rfl rfl i2) ?_)) | refine AL.gs ?_ | refine AL.gu ?_) <;> refine AL.e ?_ <;> refine AL.e ?_ <;> refine AL.nil ?_)
      | refine AW.cond_true rfl ?_
      | refine AW.cond_false rfl ?_
      | refine AW.block ?_
      | refine AW.endblk ?_
      | refine AW.skip ?_
      | refine AW.exit rfl ?_
      | refine AW.label ?_
      | refine AW.j (fun hb => ?_) (fun hb => ?_))
    all_goals refine AW.retv rfl ⟨?_, rfl⟩
    all_goals (clear hP i1 i2 i3 i4 i5 i6 f1 f2 hLit hs hca hcb hal; rw [hk] at hF; subst hF; show AEnd.ret (.bool _) = AEnd.ret (.bool _); congr 2; simp only [ge_iff_le, decide_eq_true_eq, decide_eq_false_iff_not, List.length_map, Int.reduceEq, if_true, if_false, or_true, true_or, or_false, false_or] at *)
    all_goals simp_all [ofConst]
    all_goals (rw [Bool.eq_iff_iff]; simp)
  · have hk := eq_of_beq hb
    repeat' (first
      | refine AW.seq ?_
      | (refine AW.region_at 9 ?_ <;> refine AL.d AOp.la ?_ <;> (first | (refine AL.d (AOp.call rfl rfl (hP _ (by show (2 : Nat) ≤ _; omega))) ?_) | refine AL.d (AOp.call rfl rfl i2) ?_) <;> refine AL.e ?_ <;> (first | (refine AL.gd ?_; (first | refine AL.d AOp.fa ?_ | refine AL.d (AOp.fr 0) ?_)) | refine AL.gs ?_ | refine AL.gu ?_ | (refine AL.gx (fun hb => ?_) (fun hb => ?_) <;> first | (refine AL.gd ?_; (first | refine AL.d AOp.fa ?_ | refine AL.d (AOp.fr 0) ?_)) | refine AL.gs ?_)) <;> (first | (refine AL.gd ?_; refine AL.d AOp.la ?_) | refine AL.gs ?_ | refine AL.gu ?_) <;> (first | (refine AL.gd ?_; (first | refine AL.d AOp.fa ?_ | refine AL.d (AOp.fr 1) ?_)) | refine AL.gs ?_ | refine AL.gu ?_) <;> (first | (refine AL.gd ?_; refine AL.d AOp.la ?_) | refine AL.gs ?_ | refine AL.gu ?_) <;> (first | (refine AL.gd ?_; (first | refine AL.d AOp.fa ?_ | refine AL.d (AOp.fr 2) ?_)) | refine AL.gs ?_ | refine AL.gu ?_) <;> (first | (refine AL.gd ?_; refine AL.d AOp.la ?_) | refine AL.gs ?_ | refine AL.gu ?_) <;> (first | (refine AL.gd ?_; refine AL.d (AOp.lit (e := 3) (sz := 1) (by kernel_rfl) rfl rfl rfl (by simp [AV.size, ofConst]) (by decide)) ?_) | refine AL.gs ?_ | refine AL.gu ?_) <;> (first | (refine AL.gd ?_; (first | (refine AL.d (AOp.call rfl rfl (hP _ (by show (2 : Nat) ≤ _; omega))) ?_) | refine AL.d (AOp.call rfl rfl i2) ?_)) | refine AL.gs ?_ | refine AL.gu ?_) <;> refine AL.e ?_ <;> refine AL.e ?_ <;> refine AL.nil ?_)
      | refine AW.cond_true rfl ?_
      | refine AW.cond_false rfl ?_
      | refine AW.block ?_
      | refine AW.endblk ?_
      | refine AW.skip ?_
      | refine AW.exit rfl ?_
      | refine AW.label ?_
      | refine AW.j (fun hb => ?_) (fun hb => ?_))
    all_goals refine AW.retv rfl ⟨?_, rfl⟩
    all_goals (clear hP i1 i2 i3 i4 i5 i6 f1 f2 hLit hs hca hcb hal; rw [hk] at hF; subst hF; show AEnd.ret (.bool _) = AEnd.ret (.bool _); congr 2; simp only [ge_iff_le, decide_eq_true_eq, decide_eq_false_iff_not, List.length_map, Int.reduceEq, if_true, if_false, or_true, true_or, or_false, false_or] at *)
    all_goals simp_all [ofConst]
    all_goals (rw [Bool.eq_iff_iff]; simp)
  · have hk := eq_of_beq hb
    repeat' (first
      | refine AW.seq ?_
      | (refine AW.region_at 9 ?_ <;> refine AL.d AOp.la ?_ <;> (first | (refine AL.d (AOp.call rfl rfl (hP _ (by show (2 : Nat) ≤ _; omega))) ?_) | refine AL.d (AOp.call rfl rfl i2) ?_) <;> refine AL.e ?_ <;> (first | (refine AL.gd ?_; (first | refine AL.d AOp.fa ?_ | refine AL.d (AOp.fr 0) ?_)) | refine AL.gs ?_ | refine AL.gu ?_ | (refine AL.gx (fun hb => ?_) (fun hb => ?_) <;> first | (refine AL.gd ?_; (first | refine AL.d AOp.fa ?_ | refine AL.d (AOp.fr 0) ?_)) | refine AL.gs ?_)) <;> (first | (refine AL.gd ?_; refine AL.d AOp.la ?_) | refine AL.gs ?_ | refine AL.gu ?_) <;> (first | (refine AL.gd ?_; (first | refine AL.d AOp.fa ?_ | refine AL.d (AOp.fr 1) ?_)) | refine AL.gs ?_ | refine AL.gu ?_) <;> (first | (refine AL.gd ?_; refine AL.d AOp.la ?_) | refine AL.gs ?_ | refine AL.gu ?_) <;> (first | (refine AL.gd ?_; (first | refine AL.d AOp.fa ?_ | refine AL.d (AOp.fr 2) ?_)) | refine AL.gs ?_ | refine AL.gu ?_) <;> (first | (refine AL.gd ?_; refine AL.d AOp.la ?_) | refine AL.gs ?_ | refine AL.gu ?_) <;> (first | (refine AL.gd ?_; refine AL.d (AOp.lit (e := 3) (sz := 1) (by kernel_rfl) rfl rfl rfl (by simp [AV.size, ofConst]) (by decide)) ?_) | refine AL.gs ?_ | refine AL.gu ?_) <;> (first | (refine AL.gd ?_; (first | (refine AL.d (AOp.call rfl rfl (hP _ (by show (2 : Nat) ≤ _; omega))) ?_) | refine AL.d (AOp.call rfl rfl i2) ?_)) | refine AL.gs ?_ | refine AL.gu ?_) <;> refine AL.e ?_ <;> refine AL.e ?_ <;> refine AL.nil ?_)
      | refine AW.cond_true rfl ?_
      | refine AW.cond_false rfl ?_
      | refine AW.block ?_
      | refine AW.endblk ?_
      | refine AW.skip ?_
      | refine AW.exit rfl ?_
      | refine AW.label ?_
      | refine AW.j (fun hb => ?_) (fun hb => ?_))
    all_goals refine AW.retv rfl ⟨?_, rfl⟩
    all_goals (clear hP i1 i2 i3 i4 i5 i6 f1 f2 hLit hs hca hcb hal; rw [hk] at hF; subst hF; show AEnd.ret (.bool _) = AEnd.ret (.bool _); congr 2; simp only [ge_iff_le, decide_eq_true_eq, decide_eq_false_iff_not, List.length_map, Int.reduceEq, if_true, if_false, or_true, true_or, or_false, false_or] at *)
    all_goals simp_all [ofConst]
    all_goals (rw [Bool.eq_iff_iff]; simp)
  · have hk := eq_of_beq hb
    repeat' (first
      | refine AW.seq ?_
      | (refine AW.region_at 11 ?_ <;> refine AL.d AOp.la ?_ <;> (first | (refine AL.d (AOp.call rfl rfl (hP _ (by show (2 : Nat) ≤ _; omega))) ?_) | refine AL.d (AOp.call rfl rfl i1) ?_ | refine AL.d (AOp.call rfl rfl i3) ?_) <;> refine AL.e ?_ <;> (first | (refine AL.gd ?_; (first | refine AL.d AOp.fa ?_ | refine AL.d (AOp.fr 0) ?_)) | refine AL.gs ?_ | refine AL.gu ?_ | (refine AL.gx (fun hb => ?_) (fun hb => ?_) <;> first | (refine AL.gd ?_; (first | refine AL.d AOp.fa ?_ | refine AL.d (AOp.fr 0) ?_)) | refine AL.gs ?_)) <;> (first | (refine AL.gd ?_; refine AL.d AOp.la ?_) | refine AL.gs ?_ | refine AL.gu ?_) <;> (first | (refine AL.gd ?_; (first | refine AL.d AOp.fa ?_ | refine AL.d (AOp.fr 1) ?_)) | refine AL.gs ?_ | refine AL.gu ?_) <;> (first | (refine AL.gd ?_; refine AL.d AOp.la ?_) | refine AL.gs ?_ | refine AL.gu ?_) <;> (first | (refine AL.gd ?_; refine AL.d (AOp.lit (e := 3) (sz := 1) (by kernel_rfl) rfl rfl rfl (by simp [AV.size, ofConst]) (by decide)) ?_) | refine AL.gs ?_ | refine AL.gu ?_) <;> (first | (refine AL.gd ?_; (first | (refine AL.d (AOp.call rfl rfl (hP _ (by show (2 : Nat) ≤ _; omega))) ?_) | refine AL.d (AOp.call rfl rfl i1) ?_ | refine AL.d (AOp.call rfl rfl i3) ?_)) | refine AL.gs ?_ | refine AL.gu ?_) <;> refine AL.e ?_ <;> refine AL.e ?_ <;> (first | (refine AL.gd ?_; (first | refine AL.d AOp.fa ?_ | refine AL.d (AOp.fr 2) ?_)) | refine AL.gs ?_ | refine AL.gu ?_ | (refine AL.gx (fun hb => ?_) (fun hb => ?_) <;> first | (refine AL.gd ?_; (first | refine AL.d AOp.fa ?_ | refine AL.d (AOp.fr 2) ?_)) | refine AL.gs ?_)) <;> (first | (refine AL.gd ?_; refine AL.d AOp.la ?_) | refine AL.gs ?_ | refine AL.gu ?_) <;> (first | (refine AL.gd ?_; refine AL.d (AOp.lit (e := 3) (sz := 1) (by kernel_rfl) rfl rfl rfl (by simp [AV.size, ofConst]) (by decide)) ?_) | refine AL.gs ?_ | refine AL.gu ?_) <;> (first | (refine AL.gd ?_; (first | (refine AL.d (AOp.call rfl rfl (hP _ (by show (2 : Nat) ≤ _; omega))) ?_) | refine AL.d (AOp.call rfl rfl i1) ?_ | refine AL.d (AOp.call rfl rfl i3) ?_)) | refine AL.gs ?_ | refine AL.gu ?_) <;> refine AL.e ?_ <;> refine AL.e ?_ <;> refine AL.nil ?_)
      | refine AW.cond_true rfl ?_
      | refine AW.cond_false rfl ?_
      | refine AW.block ?_
      | refine AW.endblk ?_
      | refine AW.skip ?_
      | refine AW.exit rfl ?_
      | refine AW.label ?_
      | refine AW.j (fun hb => ?_) (fun hb => ?_))
    all_goals refine AW.retv rfl ⟨?_, rfl⟩
    all_goals (clear hP i1 i2 i3 i4 i5 i6 f1 f2 hLit hs hca hcb hal; rw [hk] at hF; subst hF; show AEnd.ret (.bool _) = AEnd.ret (.bool _); congr 2; simp only [ge_iff_le, decide_eq_true_eq, decide_eq_false_iff_not, List.length_map, Int.reduceEq, if_true, if_false, or_true, true_or, or_false, false_or] at *)
    all_goals simp_all [ofConst]
    all_goals (rw [Bool.eq_iff_iff]; simp)
  · have hk := eq_of_beq hb
    repeat' (first
      | refine AW.seq ?_
      | (refine AW.da 13 ?_ <;> refine AQ.p rfl AOp.la ?_ <;> (first | (refine AQ.p rfl (AOp.call rfl rfl (hP _ (by show (3 : Nat) ≤ _; omega))) ?_) | refine AQ.p rfl (AOp.call rfl rfl i1) ?_ | refine AQ.p rfl (AOp.call rfl rfl i6) ?_) <;> refine AQ.e ?_ <;> (first | refine AQ.gp rfl AOp.fa ?_ | refine AQ.gp rfl (AOp.fr 0) ?_ | refine AQ.k ?_ | (refine AQ.x (fun hb => ?_) (fun hb => ?_) <;> first | refine AQ.gp rfl AOp.fa ?_ | refine AQ.gp rfl (AOp.fr 0) ?_ | refine AQ.k ?_)) <;> (first | refine AQ.gp rfl AOp.la ?_ | refine AQ.k ?_) <;> (first | refine AQ.gp rfl AOp.fa ?_ | refine AQ.gp rfl (AOp.fr 1) ?_ | refine AQ.k ?_) <;> (first | refine AQ.gp rfl AOp.la ?_ | refine AQ.k ?_) <;> (first | refine AQ.gp rfl (AOp.lit (e := 3) (sz := 1) (by kernel_rfl) rfl rfl rfl (by simp [AV.size, ofConst]) (by decide)) ?_ | refine AQ.k ?_) <;> (first | refine AQ.gp rfl (AOp.call rfl rfl (hP _ (by show (3 : Nat) ≤ _; omega))) ?_ | refine AQ.gp rfl (AOp.call rfl rfl i1) ?_ | refine AQ.gp rfl (AOp.call rfl rfl i6) ?_ | refine AQ.k ?_) <;> refine AQ.e ?_ <;> refine AQ.e ?_ <;> (first | refine AQ.ge ?_ | refine AQ.k ?_ | (refine AQ.x (fun hb => ?_) (fun hb => ?_) <;> first | refine AQ.ge ?_ | refine AQ.k ?_)) <;> (first | refine AQ.ge ?_ | refine AQ.k ?_) <;> refine AQ.e ?_ <;> refine AQ.e ?_ <;> (first | refine AQ.gp rfl AOp.fa ?_ | refine AQ.gp rfl (AOp.fr 11) ?_ | refine AQ.k ?_ | (refine AQ.x (fun hb => ?_) (fun hb => ?_) <;> first | refine AQ.gp rfl AOp.fa ?_ | refine AQ.gp rfl (AOp.fr 11) ?_ | refine AQ.k ?_)) <;> (first | refine AQ.gp rfl AOp.la ?_ | refine AQ.k ?_) <;> (first | refine AQ.gp rfl AOp.ln ?_ | refine AQ.k ?_) <;> (first | refine AQ.gp rfl AOp.fa ?_ | refine AQ.gp rfl (AOp.fr 2) ?_ | refine AQ.k ?_) <;> (first | refine AQ.gp rfl AOp.la ?_ | refine AQ.k ?_) <;> (first | refine AQ.ge ?_ | refine AQ.k ?_) <;> (first | refine AQ.gp rfl (AOp.index_sl rfl rfl (of_decide_eq_true (by assumption)) (hxa (of_decide_eq_true (by assumption))).1 (by kernel_rfl) rfl) ?_ | refine AQ.k ?_) <;> (first | refine AQ.gp rfl AOp.fa ?_ | refine AQ.gp rfl (AOp.fr 1) ?_ | refine AQ.k ?_) <;> (first | refine AQ.gp rfl AOp.la ?_ | refine AQ.k ?_) <;> (first | refine AQ.ge ?_ | refine AQ.k ?_) <;> refine AQ.e ?_ <;> refine AQ.e ?_ <;> (first | refine AQ.gp rfl AOp.fa ?_ | refine AQ.gp rfl (AOp.fr 1) ?_ | refine AQ.k ?_ | (refine AQ.x (fun hb => ?_) (fun hb => ?_) <;> first | refine AQ.gp rfl AOp.fa ?_ | refine AQ.gp rfl (AOp.fr 1) ?_ | refine AQ.k ?_)) <;> (first | refine AQ.gp rfl AOp.la ?_ | refine AQ.k ?_) <;> (first | refine AQ.gp rfl AOp.fa ?_ | refine AQ.gp rfl (AOp.fr 11) ?_ | refine AQ.k ?_) <;> (first | refine AQ.gp rfl AOp.la ?_ | refine AQ.k ?_) <;> (first | refine AQ.gp rfl (AOp.call rfl rfl (hP _ (by show (3 : Nat) ≤ _; omega))) ?_ | refine AQ.gp rfl (AOp.call rfl rfl i1) ?_ | refine AQ.gp rfl (AOp.call rfl rfl i6) ?_ | refine AQ.k ?_) <;> refine AQ.e ?_ <;> refine AQ.e ?_ <;> refine AQ.nil ?_)
      | refine AW.cond_true rfl ?_
      | refine AW.cond_false rfl ?_
      | refine AW.block ?_
      | refine AW.endblk ?_
      | refine AW.skip ?_
      | refine AW.exit rfl ?_
      | refine AW.label ?_
      | refine AW.j (fun hb => ?_) (fun hb => ?_))
    all_goals refine AW.retv rfl ⟨?_, rfl⟩
    all_goals (clear hP i1 i2 i3 i4 i5 i6 f1 f2 hLit hs hca hcb hal; rw [hk] at hF; subst hF; show AEnd.ret (.bool _) = AEnd.ret (.bool _); congr 2; simp only [ge_iff_le, decide_eq_true_eq, decide_eq_false_iff_not, List.length_map, Int.reduceEq, if_true, if_false, or_true, true_or, or_false, false_or] at *)
    all_goals simp_all [ofConst]
    all_goals (rw [Bool.eq_iff_iff]; simp)
  · have hk := eq_of_beq hb
    repeat' (first
      | refine AW.seq ?_
      | (refine AW.region_at 15 ?_ <;> refine AL.d AOp.la ?_ <;> (first | (refine AL.d (AOp.call rfl rfl (hP _ (by show (2 : Nat) ≤ _; omega))) ?_) | refine AL.d (AOp.call rfl rfl i4) ?_) <;> refine AL.e ?_ <;> (first | (refine AL.gd ?_; (first | refine AL.d AOp.fa ?_ | refine AL.d (AOp.fr 1) ?_)) | refine AL.gs ?_ | refine AL.gu ?_ | (refine AL.gx (fun hb => ?_) (fun hb => ?_) <;> first | (refine AL.gd ?_; (first | refine AL.d AOp.fa ?_ | refine AL.d (AOp.fr 1) ?_)) | refine AL.gs ?_)) <;> (first | (refine AL.gd ?_; refine AL.d AOp.la ?_) | refine AL.gs ?_ | refine AL.gu ?_) <;> (first | (refine AL.gd ?_; (first | refine AL.d AOp.fa ?_ | refine AL.d (AOp.fr 3) ?_)) | refine AL.gs ?_ | refine AL.gu ?_) <;> (first | (refine AL.gd ?_; refine AL.d AOp.la ?_) | refine AL.gs ?_ | refine AL.gu ?_) <;> (first | (refine AL.gd ?_; refine AL.d (AOp.lit (e := 3) (sz := 1) (by kernel_rfl) rfl rfl rfl (by simp [AV.size, ofConst]) (by decide)) ?_) | refine AL.gs ?_ | refine AL.gu ?_) <;> (first | (refine AL.gd ?_; (first | (refine AL.d (AOp.call rfl rfl (hP _ (by show (2 : Nat) ≤ _; omega))) ?_) | refine AL.d (AOp.call rfl rfl i4) ?_)) | refine AL.gs ?_ | refine AL.gu ?_) <;> refine AL.e ?_ <;> refine AL.e ?_ <;> refine AL.nil ?_)
      | refine AW.cond_true rfl ?_
      | refine AW.cond_false rfl ?_
      | refine AW.block ?_
      | refine AW.endblk ?_
      | refine AW.skip ?_
      | refine AW.exit rfl ?_
      | refine AW.label ?_
      | refine AW.j (fun hb => ?_) (fun hb => ?_))
    all_goals refine AW.retv rfl ⟨?_, rfl⟩
    all_goals (clear hP i1 i2 i3 i4 i5 i6 f1 f2 hLit hs hca hcb hal; rw [hk] at hF; subst hF; show AEnd.ret (.bool _) = AEnd.ret (.bool _); congr 2; simp only [ge_iff_le, decide_eq_true_eq, decide_eq_false_iff_not, List.length_map, Int.reduceEq, if_true, if_false, or_true, true_or, or_false, false_or] at *)
    all_goals simp_all [ofConst]
    all_goals (rw [Bool.eq_iff_iff]; simp)
  · have hk := eq_of_beq hb
    repeat' (first
      | refine AW.seq ?_
      | (refine AW.region_at 17 ?_ <;> refine AL.d AOp.la ?_ <;> (first | (refine AL.d (AOp.call rfl rfl (hP _ (by show (3 : Nat) ≤ _; omega))) ?_) | refine AL.d (AOp.call rfl rfl i1) ?_) <;> refine AL.e ?_ <;> (first | (refine AL.gd ?_; (first | refine AL.d AOp.fa ?_ | refine AL.d (AOp.fr 0) ?_)) | refine AL.gs ?_ | refine AL.gu ?_ | (refine AL.gx (fun hb => ?_) (fun hb => ?_) <;> first | (refine AL.gd ?_; (first | refine AL.d AOp.fa ?_ | refine AL.d (AOp.fr 0) ?_)) | refine AL.gs ?_)) <;> (first | (refine AL.gd ?_; refine AL.d AOp.la ?_) | refine AL.gs ?_ | refine AL.gu ?_) <;> (first | (refine AL.gd ?_; (first | refine AL.d AOp.fa ?_ | refine AL.d (AOp.fr 1) ?_)) | refine AL.gs ?_ | refine AL.gu ?_) <;> (first | (refine AL.gd ?_; refine AL.d AOp.la ?_) | refine AL.gs ?_ | refine AL.gu ?_) <;> (first | (refine AL.gd ?_; refine AL.d (AOp.lit (e := 3) (sz := 1) (by kernel_rfl) rfl rfl rfl (by simp [AV.size, ofConst]) (by decide)) ?_) | refine AL.gs ?_ | refine AL.gu ?_) <;> (first | (refine AL.gd ?_; (first | (refine AL.d (AOp.call rfl rfl (hP _ (by show (3 : Nat) ≤ _; omega))) ?_) | refine AL.d (AOp.call rfl rfl i1) ?_)) | refine AL.gs ?_ | refine AL.gu ?_) <;> refine AL.e ?_ <;> refine AL.e ?_ <;> refine AL.nil ?_)
      | refine AW.cond_true rfl ?_
      | refine AW.cond_false rfl ?_
      | refine AW.block ?_
      | refine AW.endblk ?_
      | refine AW.skip ?_
      | refine AW.exit rfl ?_
      | refine AW.label ?_
      | refine AW.j (fun hb => ?_) (fun hb => ?_))
    all_goals refine AW.retv rfl ⟨?_, rfl⟩
    all_goals (clear hP i1 i2 i3 i4 i5 i6 f1 f2 hLit hs hca hcb hal; rw [hk] at hF; subst hF; show AEnd.ret (.bool _) = AEnd.ret (.bool _); congr 2; simp only [ge_iff_le, decide_eq_true_eq, decide_eq_false_iff_not, List.length_map, Int.reduceEq, if_true, if_false, or_true, true_or, or_false, false_or] at *)
    all_goals simp_all [ofConst]
    all_goals (rw [Bool.eq_iff_iff]; simp)
  · have hk := eq_of_beq hb
    repeat' (first
      | refine AW.seq ?_
      | (refine AW.region_at 19 ?_ <;> refine AL.d AOp.la ?_ <;> (first | (refine AL.d (AOp.call rfl rfl (hP _ (by show (2 : Nat) ≤ _; omega))) ?_) | refine AL.d (AOp.call rfl rfl i5) ?_) <;> refine AL.e ?_ <;> (first | (refine AL.gd ?_; (first | refine AL.d AOp.fa ?_ | refine AL.d (AOp.fr 4) ?_)) | refine AL.gs ?_ | refine AL.gu ?_ | (refine AL.gx (fun hb => ?_) (fun hb => ?_) <;> first | (refine AL.gd ?_; (first | refine AL.d AOp.fa ?_ | refine AL.d (AOp.fr 4) ?_)) | refine AL.gs ?_)) <;> (first | (refine AL.gd ?_; refine AL.d AOp.la ?_) | refine AL.gs ?_ | refine AL.gu ?_) <;> (first | (refine AL.gd ?_; refine AL.d (AOp.lit (e := 3) (sz := 1) (by kernel_rfl) rfl rfl rfl (by simp [AV.size, ofConst]) (by decide)) ?_) | refine AL.gs ?_ | refine AL.gu ?_) <;> (first | (refine AL.gd ?_; (first | (refine AL.d (AOp.call rfl rfl (hP _ (by show (2 : Nat) ≤ _; omega))) ?_) | refine AL.d (AOp.call rfl rfl i5) ?_)) | refine AL.gs ?_ | refine AL.gu ?_) <;> refine AL.e ?_ <;> refine AL.e ?_ <;> refine AL.nil ?_)
      | refine AW.cond_true rfl ?_
      | refine AW.cond_false rfl ?_
      | refine AW.block ?_
      | refine AW.endblk ?_
      | refine AW.skip ?_
      | refine AW.exit rfl ?_
      | refine AW.label ?_
      | refine AW.j (fun hb => ?_) (fun hb => ?_))
    all_goals refine AW.retv rfl ⟨?_, rfl⟩
    all_goals (clear hP i1 i2 i3 i4 i5 i6 f1 f2 hLit hs hca hcb hal; rw [hk] at hF; subst hF; show AEnd.ret (.bool _) = AEnd.ret (.bool _); congr 2; simp only [ge_iff_le, decide_eq_true_eq, decide_eq_false_iff_not, List.length_map, Int.reduceEq, if_true, if_false, or_true, true_or, or_false, false_or] at *)
    all_goals simp_all [ofConst]
    all_goals (rw [Bool.eq_iff_iff]; simp)
  · have hk := eq_of_beq hb
    repeat' (first
      | refine AW.seq ?_
      | (refine AW.region_at 21 ?_ <;> refine AL.d AOp.la ?_ <;> (first | (refine AL.d (AOp.call rfl rfl (hP _ (by show (2 : Nat) ≤ _; omega))) ?_) | refine AL.d (AOp.call rfl rfl i1) ?_) <;> refine AL.e ?_ <;> (first | (refine AL.gd ?_; (first | refine AL.d AOp.fa ?_ | refine AL.d (AOp.fr 0) ?_)) | refine AL.gs ?_ | refine AL.gu ?_ | (refine AL.gx (fun hb => ?_) (fun hb => ?_) <;> first | (refine AL.gd ?_; (first | refine AL.d AOp.fa ?_ | refine AL.d (AOp.fr 0) ?_)) | refine AL.gs ?_)) <;> (first | (refine AL.gd ?_; refine AL.d AOp.la ?_) | refine AL.gs ?_ | refine AL.gu ?_) <;> (first | (refine AL.gd ?_; (first | refine AL.d AOp.fa ?_ | refine AL.d (AOp.fr 1) ?_)) | refine AL.gs ?_ | refine AL.gu ?_) <;> (first | (refine AL.gd ?_; refine AL.d AOp.la ?_) | refine AL.gs ?_ | refine AL.gu ?_) <;> (first | (refine AL.gd ?_; refine AL.d (AOp.lit (e := 3) (sz := 1) (by kernel_rfl) rfl rfl rfl (by simp [AV.size, ofConst]) (by decide)) ?_) | refine AL.gs ?_ | refine AL.gu ?_) <;> (first | (refine AL.gd ?_; (first | (refine AL.d (AOp.call rfl rfl (hP _ (by show (2 : Nat) ≤ _; omega))) ?_) | refine AL.d (AOp.call rfl rfl i1) ?_)) | refine AL.gs ?_ | refine AL.gu ?_) <;> refine AL.e ?_ <;> refine AL.e ?_ <;> refine AL.nil ?_)
      | refine AW.cond_true rfl ?_
      | refine AW.cond_false rfl ?_
      | refine AW.block ?_
      | refine AW.endblk ?_
      | refine AW.skip ?_
      | refine AW.exit rfl ?_
      | refine AW.label ?_
      | refine AW.j (fun hb => ?_) (fun hb => ?_))
    all_goals refine AW.retv rfl ⟨?_, rfl⟩
    all_goals (clear hP i1 i2 i3 i4 i5 i6 f1 f2 hLit hs hca hcb hal; rw [hk] at hF; subst hF; show AEnd.ret (.bool _) = AEnd.ret (.bool _); congr 2; simp only [ge_iff_le, decide_eq_true_eq, decide_eq_false_iff_not, List.length_map, Int.reduceEq, if_true, if_false, or_true, true_or, or_false, false_or] at *)
    all_goals simp_all [ofConst]
    all_goals (rw [Bool.eq_iff_iff]; simp)
  · have hk := eq_of_beq hb
    repeat' (first
      | refine AW.seq ?_
      | (refine AW.region_at 24 ?_ <;> refine AL.d AOp.la ?_ <;> refine AL.d (AOp.call rfl rfl (hP _ (by show (1 : Nat) ≤ _; omega))) ?_ <;> refine AL.e ?_ <;> (first | (refine AL.gd ?_; refine AL.e ?_) | refine AL.gs ?_ | refine AL.gu ?_ | (refine AL.gx (fun hb => ?_) (fun hb => ?_) <;> first | (refine AL.gd ?_; refine AL.e ?_) | refine AL.gs ?_)) <;> (first | (refine AL.gd ?_; refine AL.e ?_) | refine AL.gs ?_ | refine AL.gu ?_) <;> refine AL.e ?_ <;> refine AL.e ?_ <;> refine AL.nil ?_)
      | refine AW.cond_true rfl ?_
      | refine AW.cond_false rfl ?_
      | refine AW.block ?_
      | refine AW.endblk ?_
      | refine AW.skip ?_
      | refine AW.exit rfl ?_
      | refine AW.label ?_
      | refine AW.j (fun hb => ?_) (fun hb => ?_))
    all_goals refine AW.retv rfl ⟨?_, rfl⟩
    all_goals (clear hP i1 i2 i3 i4 i5 i6 f1 f2 hLit hs hca hcb hal; rw [hk] at hF; subst hF; show AEnd.ret (.bool _) = AEnd.ret (.bool _); congr 2; simp only [ge_iff_le, decide_eq_true_eq, decide_eq_false_iff_not, List.length_map, Int.reduceEq, if_true, if_false, or_true, true_or, or_false, false_or] at *)
    all_goals simp_all [ofConst]
    all_goals (rw [Bool.eq_iff_iff]; simp)
  · have hk := eq_of_beq hb
    repeat' (first
      | refine AW.seq ?_
      | (refine AW.region_at 24 ?_ <;> refine AL.d AOp.la ?_ <;> refine AL.d (AOp.call rfl rfl (hP _ (by show (1 : Nat) ≤ _; omega))) ?_ <;> refine AL.e ?_ <;> (first | (refine AL.gd ?_; refine AL.e ?_) | refine AL.gs ?_ | refine AL.gu ?_ | (refine AL.gx (fun hb => ?_) (fun hb => ?_) <;> first | (refine AL.gd ?_; refine AL.e ?_) | refine AL.gs ?_)) <;> (first | (refine AL.gd ?_; refine AL.e ?_) | refine AL.gs ?_ | refine AL.gu ?_) <;> refine AL.e ?_ <;> refine AL.e ?_ <;> refine AL.nil ?_)
      | refine AW.cond_true rfl ?_
      | refine AW.cond_false rfl ?_
      | refine AW.block ?_
      | refine AW.endblk ?_
      | refine AW.skip ?_
      | refine AW.exit rfl ?_
      | refine AW.label ?_
      | refine AW.j (fun hb => ?_) (fun hb => ?_))
    all_goals refine AW.retv rfl ⟨?_, rfl⟩
    all_goals (clear hP i1 i2 i3 i4 i5 i6 f1 f2 hLit hs hca hcb hal; rw [hk] at hF; subst hF; show AEnd.ret (.bool _) = AEnd.ret (.bool _); congr 2; simp only [ge_iff_le, decide_eq_true_eq, decide_eq_false_iff_not, List.length_map, Int.reduceEq, if_true, if_false, or_true, true_or, or_false, false_or] at *)
    all_goals simp_all [ofConst]
    all_goals (rw [Bool.eq_iff_iff]; simp)
  · have hk := eq_of_beq hb
    repeat' (first
      | refine AW.seq ?_
      | (refine AW.da 26 ?_ <;> refine AQ.p rfl AOp.la ?_ <;> refine AQ.p rfl (AOp.call rfl rfl (hP _ (by show (2 : Nat) ≤ _; omega))) ?_ <;> refine AQ.e ?_ <;> (first | refine AQ.ge ?_ | refine AQ.k ?_ | (refine AQ.x (fun hb => ?_) (fun hb => ?_) <;> first | refine AQ.ge ?_ | refine AQ.k ?_)) <;> (first | refine AQ.ge ?_ | refine AQ.k ?_) <;> refine AQ.e ?_ <;> refine AQ.e ?_ <;> (first | refine AQ.ge ?_ | refine AQ.k ?_ | (refine AQ.x (fun hb => ?_) (fun hb => ?_) <;> first | refine AQ.ge ?_ | refine AQ.k ?_)) <;> (first | refine AQ.ge ?_ | refine AQ.k ?_) <;> refine AQ.e ?_ <;> refine AQ.e ?_ <;> (first | refine AQ.gp rfl AOp.fa ?_ | refine AQ.gp rfl (AOp.fr 2) ?_ | refine AQ.k ?_ | (refine AQ.x (fun hb => ?_) (fun hb => ?_) <;> first | refine AQ.gp rfl AOp.fa ?_ | refine AQ.gp rfl (AOp.fr 2) ?_ | refine AQ.k ?_)) <;> (first | refine AQ.gp rfl AOp.la ?_ | refine AQ.k ?_) <;> (first | refine AQ.ge ?_ | refine AQ.k ?_) <;> (first | refine AQ.gp rfl (AOp.index_sl rfl rfl (of_decide_eq_true (by assumption)) (hxa (of_decide_eq_true (by assumption))).1 (by kernel_rfl) rfl) ?_ | refine AQ.gp rfl (AOp.index_sl rfl rfl (of_decide_eq_true (by assumption)) (hxb (of_decide_eq_true (by assumption))).1 (by kernel_rfl) rfl) ?_ | refine AQ.k ?_) <;> (first | refine AQ.gp rfl AOp.fa ?_ | refine AQ.gp rfl (AOp.fr 1) ?_ | refine AQ.k ?_) <;> (first | refine AQ.gp rfl AOp.la ?_ | refine AQ.k ?_) <;> (first | refine AQ.gp rfl AOp.fa ?_ | refine AQ.gp rfl (AOp.fr 2) ?_ | refine AQ.k ?_) <;> (first | refine AQ.gp rfl AOp.la ?_ | refine AQ.k ?_) <;> (first | refine AQ.ge ?_ | refine AQ.k ?_) <;> (first | refine AQ.gp rfl (AOp.index_sl rfl rfl (of_decide_eq_true (by assumption)) (hxa (of_decide_eq_true (by assumption))).1 (by kernel_rfl) rfl) ?_ | refine AQ.gp rfl (AOp.index_sl rfl rfl (of_decide_eq_true (by assumption)) (hxb (of_decide_eq_true (by assumption))).1 (by kernel_rfl) rfl) ?_ | refine AQ.k ?_) <;> (first | refine AQ.gp rfl AOp.fa ?_ | refine AQ.gp rfl (AOp.fr 1) ?_ | refine AQ.k ?_) <;> (first | refine AQ.gp rfl AOp.la ?_ | refine AQ.k ?_) <;> (first | refine AQ.ge ?_ | refine AQ.k ?_) <;> refine AQ.e ?_ <;> refine AQ.e ?_ <;> refine AQ.nil ?_)
      | refine AW.cond_true rfl ?_
      | refine AW.cond_false rfl ?_
      | refine AW.block ?_
      | refine AW.endblk ?_
      | refine AW.skip ?_
      | refine AW.exit rfl ?_
      | refine AW.label ?_
      | refine AW.j (fun hb => ?_) (fun hb => ?_))
    all_goals refine AW.retv rfl ⟨?_, rfl⟩
    all_goals (clear hP i1 i2 i3 i4 i5 i6 f1 f2 hLit hs hca hcb hal; rw [hk] at hF; subst hF; show AEnd.ret (.bool _) = AEnd.ret (.bool _); congr 2; simp only [ge_iff_le, decide_eq_true_eq, decide_eq_false_iff_not, List.length_map, Int.reduceEq, if_true, if_false, or_true, true_or, or_false, false_or] at *)
    all_goals simp_all [ofConst]
    all_goals (rw [Bool.eq_iff_iff]; simp)
  · have hk := eq_of_beq hb
    repeat' (first
      | refine AW.seq ?_
      | (refine AW.da 28 ?_ <;> refine AQ.p rfl AOp.la ?_ <;> (first | (refine AQ.p rfl (AOp.call rfl rfl (hP _ (by show (3 : Nat) ≤ _; omega))) ?_) | refine AQ.p rfl (AOp.call rfl rfl i1) ?_) <;> refine AQ.e ?_ <;> (first | refine AQ.gp rfl AOp.fa ?_ | refine AQ.gp rfl (AOp.fr 0) ?_ | refine AQ.k ?_ | (refine AQ.x (fun hb => ?_) (fun hb => ?_) <;> first | refine AQ.gp rfl AOp.fa ?_ | refine AQ.gp rfl (AOp.fr 0) ?_ | refine AQ.k ?_)) <;> (first | refine AQ.gp rfl AOp.la ?_ | refine AQ.k ?_) <;> (first | refine AQ.gp rfl AOp.fa ?_ | refine AQ.gp rfl (AOp.fr 1) ?_ | refine AQ.k ?_) <;> (first | refine AQ.gp rfl AOp.la ?_ | refine AQ.k ?_) <;> (first | refine AQ.gp rfl (AOp.lit (e := 3) (sz := 1) (by kernel_rfl) rfl rfl rfl (by simp [AV.size, ofConst]) (by decide)) ?_ | refine AQ.k ?_) <;> (first | refine AQ.gp rfl (AOp.call rfl rfl (hP _ (by show (3 : Nat) ≤ _; omega))) ?_ | refine AQ.gp rfl (AOp.call rfl rfl i1) ?_ | refine AQ.k ?_) <;> refine AQ.e ?_ <;> refine AQ.e ?_ <;> (first | refine AQ.ge ?_ | refine AQ.k ?_ | (refine AQ.x (fun hb => ?_) (fun hb => ?_) <;> first | refine AQ.ge ?_ | refine AQ.k ?_)) <;> (first | refine AQ.ge ?_ | refine AQ.k ?_) <;> refine AQ.e ?_ <;> refine AQ.e ?_ <;> (first | refine AQ.ge ?_ | refine AQ.k ?_ | (refine AQ.x (fun hb => ?_) (fun hb => ?_) <;> first | refine AQ.ge ?_ | refine AQ.k ?_)) <;> (first | refine AQ.ge ?_ | refine AQ.k ?_) <;> refine AQ.e ?_ <;> refine AQ.e ?_ <;> (first | refine AQ.gp rfl AOp.fa ?_ | refine AQ.gp rfl (AOp.fr 2) ?_ | refine AQ.k ?_ | (refine AQ.x (fun hb => ?_) (fun hb => ?_) <;> first | refine AQ.gp rfl AOp.fa ?_ | refine AQ.gp rfl (AOp.fr 2) ?_ | refine AQ.k ?_)) <;> (first | refine AQ.gp rfl AOp.la ?_ | refine AQ.k ?_) <;> (first | refine AQ.ge ?_ | refine AQ.k ?_) <;> (first | refine AQ.gp rfl (AOp.index_sl rfl rfl (of_decide_eq_true (by assumption)) (hxa (of_decide_eq_true (by assumption))).1 (by kernel_rfl) rfl) ?_ | refine AQ.gp rfl (AOp.index_sl rfl rfl (of_decide_eq_true (by assumption)) (hxb (of_decide_eq_true (by assumption))).1 (by kernel_rfl) rfl) ?_ | refine AQ.k ?_) <;> (first | refine AQ.gp rfl AOp.fa ?_ | refine AQ.gp rfl (AOp.fr 1) ?_ | refine AQ.k ?_) <;> (first | refine AQ.gp rfl AOp.la ?_ | refine AQ.k ?_) <;> (first | refine AQ.gp rfl AOp.fa ?_ | refine AQ.gp rfl (AOp.fr 2) ?_ | refine AQ.k ?_) <;> (first | refine AQ.gp rfl AOp.la ?_ | refine AQ.k ?_) <;> (first | refine AQ.ge ?_ | refine AQ.k ?_) <;> (first | refine AQ.gp rfl (AOp.index_sl rfl rfl (of_decide_eq_true (by assumption)) (hxa (of_decide_eq_true (by assumption))).1 (by kernel_rfl) rfl) ?_ | refine AQ.gp rfl (AOp.index_sl rfl rfl (of_decide_eq_true (by assumption)) (hxb (of_decide_eq_true (by assumption))).1 (by kernel_rfl) rfl) ?_ | refine AQ.k ?_) <;> (first | refine AQ.gp rfl AOp.fa ?_ | refine AQ.gp rfl (AOp.fr 1) ?_ | refine AQ.k ?_) <;> (first | refine AQ.gp rfl AOp.la ?_ | refine AQ.k ?_) <;> (first | refine AQ.ge ?_ | refine AQ.k ?_) <;> refine AQ.e ?_ <;> refine AQ.e ?_ <;> refine AQ.nil ?_)
      | refine AW.cond_true rfl ?_
      | refine AW.cond_false rfl ?_
      | refine AW.block ?_
      | refine AW.endblk ?_
      | refine AW.skip ?_
      | refine AW.exit rfl ?_
      | refine AW.label ?_
      | refine AW.j (fun hb => ?_) (fun hb => ?_))
    all_goals refine AW.retv rfl ⟨?_, rfl⟩
    all_goals (clear hP i1 i2 i3 i4 i5 i6 f1 f2 hLit hs hca hcb hal; rw [hk] at hF; subst hF; show AEnd.ret (.bool _) = AEnd.ret (.bool _); congr 2; simp only [ge_iff_le, decide_eq_true_eq, decide_eq_false_iff_not, List.length_map, Int.reduceEq, if_true, if_false, or_true, true_or, or_false, false_or] at *)
    all_goals simp_all [ofConst]
    all_goals (rw [Bool.eq_iff_iff]; simp)
  · have n := fun (k : Int) (h : (s.Kind == k) = false) => ne_of_beq_false h
    rw [if_neg (n 0 (by assumption)), if_neg (by rintro (h | h | h | h); exact n 1 (by assumption) h; exact n 2 (by assumption) h; exact n 3 (by assumption) h; exact n 5 (by assumption) h), if_neg (n 4 (by assumption)), if_neg (n 6 (by assumption)), if_neg (n 7 (by assumption)), if_neg (n 8 (by assumption)), if_neg (n 9 (by assumption)), if_neg (n 10 (by assumption)), if_neg (by rintro (h | h); exact n 11 (by assumption) h; exact n 12 (by assumption) h), if_neg (n 13 (by assumption)), if_neg (n 14 (by assumption))] at hF
    exact AW.retv rfl ⟨by rw [hF]; rfl, rfl⟩
end Go.Proofs.YtdedkpfbfklgbaaGreat
namespace Go.Proofs.YtdedkpfbfklgbaaGreat
open Go.RowKit Go.SX
set_option maxRecDepth 100000
set_option maxHeartbeats 4000000
set_option linter.unusedVariables false
set_option linter.unusedSimpArgs false

theorem ieq (a b : Int) : (a == b) = decide (a = b) := by by_cases h : a = b <;> simp [h]
theorem ine (a b : Int) : (a != b) = !decide (a = b) := by by_cases h : a = b <;> simp [h]
theorem chk_stmt (b ba bs : Nat) (gA : MG) : ∀ (n : Nat) (s : GStmt) (hn : cntS s ≤ n) (hs : s.Ok) (level : Int) (hl : 0 ≤ level ∧ level ≤ 100) (st : Chk) (hc : 0 ≤ st.cnt ∧ st.cnt ≤ 20000),
    Tri Tryz.prog 61 [.ref b 0, s.st, .int .i64 level] (st.ah b ba bs gA) (D (.tup []) ((stmtP s level st).ah b ba bs gA)) := by
  intro n
  induction n using Nat.strongRecOn with
  | _ n ih =>
    intro s hn hs level hl st hc
    rw [stmtP_eq]
    refine Tri.enter 188 Tryz.func61 rfl rfl rfl rfl fun Fr w0 => ?_
    repeat' (first
      | refine AW.seq ?_
      | (refine AW.region_at 0 ?_ <;> refine AL.d (AOp.box_ro rfl rfl) ?_ <;> refine AL.nil ?_)
      | refine AW.cond_true rfl ?_
      | refine AW.cond_false rfl ?_
      | refine AW.block ?_
      | refine AW.endblk ?_
      | refine AW.skip ?_
      | refine AW.exit rfl ?_
      | refine AW.label ?_
      | refine AW.j (fun hb => ?_) (fun hb => ?_))
    refine AW.cut (fun af ah => af = [(0, .ref b 0), (2, .int .i64 level), (4, .at s.st)] ∧ ah = ({ st with cnt := st.cnt + 1 } : Chk).ah b ba bs gA) ?_ ?_
    · repeat' (first
        | refine AW.seq ?_
        | (refine AW.region_at 1 ?_ <;> refine AL.e ?_ <;> refine AL.e ?_ <;> (first | refine AL.d AOp.fa ?_ | refine AL.d (AOp.fr 6) ?_) <;> (first | refine AL.d AOp.la ?_ | refine AL.d (AOp.ll 0) ?_ | refine AL.d (AOp.lw 0) ?_) <;> refine AL.d AOp.ad ?_ <;> refine AL.e ?_ <;> (first | refine AL.d AOp.fa ?_ | refine AL.d (AOp.fr 6) ?_) <;> refine AL.sl 0 ?_ <;> refine AL.nil ?_)
        | refine AW.cond_true rfl ?_
        | refine AW.cond_false rfl ?_
        | refine AW.block ?_
        | refine AW.endblk ?_
        | refine AW.skip ?_
        | refine AW.exit rfl ?_
        | refine AW.label ?_
        | refine AW.j (fun hb => ?_) (fun hb => ?_))
      exact AW.meet [0, 2, 4] ⟨rfl, rfl⟩
    rintro af ah ⟨rfl, rfl⟩
    refine AW.seq ?_
    refine AW.cut (fun af ah => af = [(0, .ref b 0), (2, .int .i64 level), (4, .at s.st)] ∧ ah = (st.enter s level).ah b ba bs gA) ?_ ?_
    · repeat' (first
        | refine AW.seq ?_
        | (refine AW.region_at 2 ?_ <;> refine AL.e ?_ <;> (first | refine AL.d AOp.fa ?_ | refine AL.d (AOp.fr 0) ?_) <;> (first | refine AL.d AOp.la ?_ | refine AL.d (AOp.ll 0) ?_ | refine AL.d (AOp.lw 0) ?_) <;> refine AL.e ?_ <;> refine AL.e ?_ <;> (first | (refine AL.gd ?_; (first | refine AL.d AOp.fa ?_ | refine AL.d (AOp.fr 0) ?_)) | refine AL.gs ?_ | refine AL.gu ?_ | (refine AL.gx (fun hb => ?_) (fun hb => ?_) <;> first | (refine AL.gd ?_; (first | refine AL.d AOp.fa ?_ | refine AL.d (AOp.fr 0) ?_)) | refine AL.gs ?_)) <;> (first | (refine AL.gd ?_; (first | refine AL.d AOp.la ?_ | refine AL.d (AOp.ll 0) ?_ | refine AL.d (AOp.lw 0) ?_)) | refine AL.gs ?_ | refine AL.gu ?_) <;> (first | (refine AL.gd ?_; refine AL.e ?_) | refine AL.gs ?_ | refine AL.gu ?_) <;> refine AL.e ?_ <;> refine AL.e ?_ <;> (first | (refine AL.gd ?_; refine AL.e ?_) | refine AL.gs ?_ | refine AL.gu ?_ | (refine AL.gx (fun hb => ?_) (fun hb => ?_) <;> first | (refine AL.gd ?_; refine AL.e ?_) | refine AL.gs ?_)) <;> (first | (refine AL.gd ?_; refine AL.e ?_) | refine AL.gs ?_ | refine AL.gu ?_) <;> (first | (refine AL.gd ?_; (first | refine AL.d AOp.fa ?_ | refine AL.d (AOp.fr 6) ?_)) | refine AL.gs ?_ | refine AL.gu ?_) <;> (first | (refine AL.gd ?_; (first | refine AL.d AOp.la ?_ | refine AL.d (AOp.ll 0) ?_ | refine AL.d (AOp.lw 0) ?_)) | refine AL.gs ?_ | refine AL.gu ?_) <;> (first | (refine AL.gd ?_; refine AL.e ?_) | refine AL.gs ?_ | refine AL.gu ?_) <;> refine AL.e ?_ <;> refine AL.e ?_ <;> (first | (refine AL.gd ?_; refine AL.e ?_) | refine AL.gs ?_ | refine AL.gu ?_ | (refine AL.gx (fun hb => ?_) (fun hb => ?_) <;> first | (refine AL.gd ?_; refine AL.e ?_) | refine AL.gs ?_)) <;> (first | (refine AL.gd ?_; refine AL.e ?_) | refine AL.gs ?_ | refine AL.gu ?_) <;> refine AL.e ?_ <;> refine AL.d (AOp.call rfl rfl (chk_need b ba bs gA _ _)) ?_ <;> refine AL.nil ?_)
        | refine AW.cond_true rfl ?_
        | refine AW.cond_false rfl ?_
        | refine AW.block ?_
        | refine AW.endblk ?_
        | refine AW.skip ?_
        | refine AW.exit rfl ?_
        | refine AW.label ?_
        | refine AW.j (fun hb => ?_) (fun hb => ?_))
      all_goals (refine AW.meet [0, 2, 4] ⟨rfl, ?_⟩; unfold Chk.enter; simp only [decide_eq_true_eq, decide_eq_false_iff_not] at *; congr 2; rw [Bool.eq_iff_iff]; simp; try omega)
    rintro af ah ⟨rfl, rfl⟩
    have hcnt : (st.enter s level).bad = false → (st.enter s level).cnt = st.cnt + 1 ∧ st.cnt + 1 ≤ 20000 ∧ level ≤ 60 := by
      intro h
      simp only [Chk.enter, Chk.need, Bool.or_eq_false_iff, Bool.not_eq_false', Bool.and_eq_true, decide_eq_true_eq] at h
      exact ⟨rfl, h.2.1.2, h.2.2⟩
    generalize st.enter s level = s1 at hcnt ⊢
    repeat' (first
      | refine AW.seq ?_
      | (refine AW.region_at 3 ?_ <;> refine AL.e ?_ <;> refine AL.e ?_ <;> (first | refine AL.d AOp.fa ?_ | refine AL.d (AOp.fr 7) ?_) <;> (first | refine AL.d AOp.la ?_ | refine AL.d (AOp.ll 0) ?_ | refine AL.d (AOp.lw 0) ?_) <;> refine AL.nil ?_)
      | refine AW.cond_true rfl ?_
      | refine AW.cond_false rfl ?_
      | refine AW.block ?_
      | refine AW.endblk ?_
      | refine AW.skip ?_
      | refine AW.exit rfl ?_
      | refine AW.label ?_
      | refine AW.j (fun hb => ?_) (fun hb => ?_))
    · exact AW.retv rfl ⟨rfl, by simp only [hb, if_true]⟩
    have hcnt := hcnt hb
    simp only [hb, Bool.false_eq_true, if_false]
    have hu := code_fields s.Kind
    have hz := code_spare s
    obtain ⟨u, hue⟩ : ∃ u, u = useOf s.Kind := ⟨_, rfl⟩
    rw [← hue] at hu
    repeat' (first
      | refine AW.seq ?_
      | (refine AW.region_at 4 ?_ <;> (first | refine AL.d AOp.fa ?_ | refine AL.d (AOp.fr 0) ?_) <;> (first | refine AL.d AOp.la ?_ | refine AL.d (AOp.ll 0) ?_ | refine AL.d (AOp.lw 0) ?_) <;> (first | refine AL.d (AOp.call rfl rfl (hu.pure _)) ?_ | refine AL.d (AOp.call rfl rfl (hz.pure _)) ?_ | refine AL.d (AOp.call rfl rfl (chk_need b ba bs gA _ _)) ?_) <;> refine AL.alloc_store (by kernel_rfl) rfl rfl rfl rfl ?_ <;> refine AL.nil ?_)
      | (refine AW.region_at 5 ?_ <;> refine AL.e ?_ <;> (first | refine AL.d AOp.la ?_ | refine AL.d (AOp.ll 0) ?_ | refine AL.d (AOp.lw 0) ?_) <;> (first | refine AL.d (AOp.call rfl rfl (hu.pure _)) ?_ | refine AL.d (AOp.call rfl rfl (hz.pure _)) ?_ | refine AL.d (AOp.call rfl rfl (chk_need b ba bs gA _ _)) ?_) <;> (first | refine AL.d (AOp.call rfl rfl (hu.pure _)) ?_ | refine AL.d (AOp.call rfl rfl (hz.pure _)) ?_ | refine AL.d (AOp.call rfl rfl (chk_need b ba bs gA _ _)) ?_) <;> refine AL.nil ?_)
      | refine AW.cond_true rfl ?_
      | refine AW.cond_false rfl ?_
      | refine AW.block ?_
      | refine AW.endblk ?_
      | refine AW.skip ?_
      | refine AW.exit rfl ?_
      | refine AW.label ?_
      | refine AW.j (fun hb => ?_) (fun hb => ?_))
    obtain ⟨a1, ea1⟩ : ∃ x, x = s1.need (zeroB s) := ⟨_, rfl⟩
    rw [← ea1]
    have hlit : s.Lit.Ok := by cases hs; rename_i h _ _ _ _; exact h.2.2.2.2.2.2.2.1
    have hregs : s.Regs.length ≤ 4611686018427387904 := by cases hs; rename_i h _ _ _ _; have := h.2.2.2.2.2.2.2.2.1; omega
    repeat' (first
      | refine AW.seq ?_
      | (refine AW.region_at 6 ?_ <;> (first | refine AL.d AOp.fa ?_ | refine AL.d (AOp.fr 0) ?_) <;> (first | refine AL.d AOp.la ?_ | refine AL.d (AOp.ll 0) ?_ | refine AL.d (AOp.lw 0) ?_) <;> refine AL.nil ?_)
      | refine AW.cond_true rfl ?_
      | refine AW.cond_false rfl ?_
      | refine AW.block ?_
      | refine AW.endblk ?_
      | refine AW.skip ?_
      | refine AW.exit rfl ?_
      | refine AW.label ?_)
    refine AW.cut (fun af ah => af = [(0, .ref b 0), (2, .int .i64 level), (4, .at s.st), (6, .at u.av)] ∧ ah = (if u.f = true then a1.flag s.F else a1).ah b ba bs gA) ?_ ?_
    · repeat' (first
        | refine AW.seq ?_
        | (refine AW.region_at 7 ?_ <;> refine AL.e ?_ <;> (first | refine AL.d AOp.fa ?_ | refine AL.d (AOp.fr 1) ?_) <;> (first | refine AL.d AOp.la ?_ | refine AL.d (AOp.ll 0) ?_ | refine AL.d (AOp.lw 0) ?_) <;> refine AL.d (AOp.call rfl rfl (chk_flag b ba bs gA _ _)) ?_ <;> refine AL.nil ?_)
        | refine AW.cond_true rfl ?_
        | refine AW.cond_false rfl ?_
        | refine AW.block ?_
        | refine AW.endblk ?_
        | refine AW.skip ?_
        | refine AW.exit rfl ?_
        | refine AW.label ?_
        | refine AW.j (fun hb => ?_) (fun hb => ?_))
      all_goals (refine AW.meet [0, 2, 4, 6] ⟨rfl, ?_⟩; simp only [hb]; rfl)
    rintro af ah ⟨rfl, rfl⟩
    obtain ⟨a2, ea2⟩ : ∃ x, x = (if u.f = true then a1.flag s.F else a1) := ⟨_, rfl⟩
    rw [← ea2]
    refine AW.seq ?_
    refine AW.seq ?_
    refine AW.cut (fun af ah => ∃ v : Bool, af = [(66, .bool v), (0, .ref b 0), (2, .int .i64 level), (4, .at s.st), (6, .at u.av)] ∧ ah = a2.ah b ba bs gA ∧ v = (u.g && decide (s.Kind ≠ 4))) ?_ ?_
    · repeat' (first
        | refine AW.seq ?_
        | (refine AW.region_at 8 ?_ <;> (first | refine AL.d AOp.fa ?_ | refine AL.d (AOp.fr 1) ?_) <;> (first | refine AL.d AOp.la ?_ | refine AL.d (AOp.ll 0) ?_ | refine AL.d (AOp.lw 0) ?_) <;> refine AL.e ?_ <;> (first | (refine AL.gd ?_; (first | refine AL.d AOp.fa ?_ | refine AL.d (AOp.fr 0) ?_)) | refine AL.gs ?_ | refine AL.gu ?_ | (refine AL.gx (fun hb => ?_) (fun hb => ?_) <;> first | (refine AL.gd ?_; (first | refine AL.d AOp.fa ?_ | refine AL.d (AOp.fr 0) ?_)) | refine AL.gs ?_)) <;> (first | (refine AL.gd ?_; (first | refine AL.d AOp.la ?_ | refine AL.d (AOp.ll 0) ?_ | refine AL.d (AOp.lw 0) ?_)) | refine AL.gs ?_ | refine AL.gu ?_) <;> (first | (refine AL.gd ?_; refine AL.e ?_) | refine AL.gs ?_ | refine AL.gu ?_) <;> refine AL.e ?_ <;> refine AL.nil ?_)
        | refine AW.cond_true rfl ?_
        | refine AW.cond_false rfl ?_
        | refine AW.block ?_
        | refine AW.endblk ?_
        | refine AW.skip ?_
        | refine AW.exit rfl ?_
        | refine AW.label ?_
        | refine AW.j (fun hb => ?_) (fun hb => ?_))
      all_goals (refine AW.meet [66, 0, 2, 4, 6] ⟨_, rfl, rfl, ?_⟩; simp_all [ofConst, ieq, ine])
    rintro af ah ⟨v66, rfl, rfl, hv66⟩
    refine AW.cut (fun af ah => af = [(0, .ref b 0), (2, .int .i64 level), (4, .at s.st), (6, .at u.av)] ∧ ah = (if v66 = true then a2.flag s.G else a2).ah b ba bs gA) ?_ ?_
    · repeat' (first
        | refine AW.seq ?_
        | (refine AW.region_at 9 ?_ <;> refine AL.e ?_ <;> (first | refine AL.d AOp.fa ?_ | refine AL.d (AOp.fr 2) ?_) <;> (first | refine AL.d AOp.la ?_ | refine AL.d (AOp.ll 0) ?_ | refine AL.d (AOp.lw 0) ?_) <;> refine AL.d (AOp.call rfl rfl (chk_flag b ba bs gA _ _)) ?_ <;> refine AL.nil ?_)
        | refine AW.cond_true rfl ?_
        | refine AW.cond_false rfl ?_
        | refine AW.block ?_
        | refine AW.endblk ?_
        | refine AW.skip ?_
        | refine AW.exit rfl ?_
        | refine AW.label ?_
        | refine AW.j (fun hb => ?_) (fun hb => ?_))
      all_goals (refine AW.meet [0, 2, 4, 6] ⟨rfl, ?_⟩; simp only [hb]; rfl)
    rintro af ah ⟨rfl, rfl⟩
    obtain ⟨a3, ea3⟩ : ∃ x, x = (if v66 = true then a2.flag s.G else a2) := ⟨_, rfl⟩
    rw [← ea3]
    refine AW.seq ?_
    repeat' (first
      | refine AW.seq ?_
      | (refine AW.region_at 10 ?_ <;> (first | refine AL.d AOp.fa ?_ | refine AL.d (AOp.fr 0) ?_) <;> (first | refine AL.d AOp.la ?_ | refine AL.d (AOp.ll 0) ?_ | refine AL.d (AOp.lw 0) ?_) <;> refine AL.e ?_ <;> refine AL.nil ?_)
      | refine AW.cond_true rfl ?_
      | refine AW.cond_false rfl ?_
      | refine AW.block ?_
      | refine AW.endblk ?_
      | refine AW.skip ?_
      | refine AW.exit rfl ?_
      | refine AW.label ?_)
    refine AW.cut (fun af ah => af = [(0, .ref b 0), (2, .int .i64 level), (4, .at s.st), (6, .at u.av)] ∧ ah = (if s.Kind = 4 then a3.need (decide (s.G = 0) || decide (s.G = 1)) else a3).ah b ba bs gA) ?_ ?_
    · repeat' (first
        | refine AW.seq ?_
        | (refine AW.region_at 11 ?_ <;> refine AL.e ?_ <;> (first | refine AL.d AOp.fa ?_ | refine AL.d (AOp.fr 2) ?_) <;> (first | refine AL.d AOp.la ?_ | refine AL.d (AOp.ll 0) ?_ | refine AL.d (AOp.lw 0) ?_) <;> refine AL.e ?_ <;> refine AL.e ?_ <;> (first | (refine AL.gd ?_; (first | refine AL.d AOp.fa ?_ | refine AL.d (AOp.fr 2) ?_)) | refine AL.gs ?_ | refine AL.gu ?_ | (refine AL.gx (fun hb => ?_) (fun hb => ?_) <;> first | (refine AL.gd ?_; (first | refine AL.d AOp.fa ?_ | refine AL.d (AOp.fr 2) ?_)) | refine AL.gs ?_)) <;> (first | (refine AL.gd ?_; (first | refine AL.d AOp.la ?_ | refine AL.d (AOp.ll 0) ?_ | refine AL.d (AOp.lw 0) ?_)) | refine AL.gs ?_ | refine AL.gu ?_) <;> (first | (refine AL.gd ?_; refine AL.e ?_) | refine AL.gs ?_ | refine AL.gu ?_) <;> refine AL.e ?_ <;> refine AL.d (AOp.call rfl rfl (chk_need b ba bs gA _ _)) ?_ <;> refine AL.nil ?_)
        | refine AW.cond_true rfl ?_
        | refine AW.cond_false rfl ?_
        | refine AW.block ?_
        | refine AW.endblk ?_
        | refine AW.skip ?_
        | refine AW.exit rfl ?_
        | refine AW.label ?_
        | refine AW.j (fun hb => ?_) (fun hb => ?_))
      all_goals (refine AW.meet [0, 2, 4, 6] ⟨rfl, ?_⟩; simp only [ieq, ine, decide_eq_true_eq, decide_eq_false_iff_not, ofConst, Bool.not_eq_true', Bool.not_eq_false'] at *; simp_all)
    rintro af ah ⟨rfl, rfl⟩
    obtain ⟨a4, ea4⟩ : ∃ x, x = (if s.Kind = 4 then a3.need (decide (s.G = 0) || decide (s.G = 1)) else a3) := ⟨_, rfl⟩
    rw [← ea4]
    refine AW.seq ?_
    repeat' (first
      | refine AW.seq ?_
      | (refine AW.region_at 12 ?_ <;> (first | refine AL.d AOp.fa ?_ | refine AL.d (AOp.fr 2) ?_) <;> (first | refine AL.d AOp.la ?_ | refine AL.d (AOp.ll 0) ?_ | refine AL.d (AOp.lw 0) ?_) <;> refine AL.nil ?_)
      | refine AW.cond_true rfl ?_
      | refine AW.cond_false rfl ?_
      | refine AW.block ?_
      | refine AW.endblk ?_
      | refine AW.skip ?_
      | refine AW.exit rfl ?_
      | refine AW.label ?_)
    refine AW.cut (fun af ah => af = [(0, .ref b 0), (2, .int .i64 level), (4, .at s.st), (6, .at u.av)] ∧ ah = (if u.r = true then a4.regs [s.R] else a4).ah b ba bs gA) ?_ ?_
    · repeat' (first
        | refine AW.seq ?_
        | (refine AW.region_at 13 ?_ <;> refine AL.e ?_ <;> (first | refine AL.d AOp.fa ?_ | refine AL.d (AOp.fr 3) ?_) <;> (first | refine AL.d AOp.la ?_ | refine AL.d (AOp.ll 0) ?_ | refine AL.d (AOp.lw 0) ?_) <;> refine AL.d (AOp.lit (e := 3) (sz := 1) (by kernel_rfl) rfl rfl rfl (by simp [AV.size]) (by decide)) ?_ <;> refine AL.d (AOp.call rfl rfl (chk_regs b ba bs gA _ [s.R] (by simp))) ?_ <;> refine AL.nil ?_)
        | refine AW.cond_true rfl ?_
        | refine AW.cond_false rfl ?_
        | refine AW.block ?_
        | refine AW.endblk ?_
        | refine AW.skip ?_
        | refine AW.exit rfl ?_
        | refine AW.label ?_
        | refine AW.j (fun hb => ?_) (fun hb => ?_))
      all_goals (refine AW.meet [0, 2, 4, 6] ⟨rfl, ?_⟩; simp only [hb]; rfl)
    rintro af ah ⟨rfl, rfl⟩
    obtain ⟨a5, ea5⟩ : ∃ x, x = (if u.r = true then a4.regs [s.R] else a4) := ⟨_, rfl⟩
    rw [← ea5]
    refine AW.seq ?_
    refine AW.cut (fun af ah => af = [(0, .ref b 0), (2, .int .i64 level), (4, .at s.st), (6, .at u.av)] ∧ ah = (a5.need (decide (0 ≤ s.N) && decide (s.N ≤ 12))).ah b ba bs gA) ?_ ?_
    · repeat' (first
        | refine AW.seq ?_
        | (refine AW.region_at 14 ?_ <;> refine AL.e ?_ <;> (first | refine AL.d AOp.fa ?_ | refine AL.d (AOp.fr 4) ?_) <;> (first | refine AL.d AOp.la ?_ | refine AL.d (AOp.ll 0) ?_ | refine AL.d (AOp.lw 0) ?_) <;> refine AL.e ?_ <;> refine AL.e ?_ <;> (first | (refine AL.gd ?_; (first | refine AL.d AOp.fa ?_ | refine AL.d (AOp.fr 4) ?_)) | refine AL.gs ?_ | refine AL.gu ?_ | (refine AL.gx (fun hb => ?_) (fun hb => ?_) <;> first | (refine AL.gd ?_; (first | refine AL.d AOp.fa ?_ | refine AL.d (AOp.fr 4) ?_)) | refine AL.gs ?_)) <;> (first | (refine AL.gd ?_; (first | refine AL.d AOp.la ?_ | refine AL.d (AOp.ll 0) ?_ | refine AL.d (AOp.lw 0) ?_)) | refine AL.gs ?_ | refine AL.gu ?_) <;> (first | (refine AL.gd ?_; refine AL.e ?_) | refine AL.gs ?_ | refine AL.gu ?_) <;> refine AL.e ?_ <;> refine AL.d (AOp.call rfl rfl (chk_need b ba bs gA _ _)) ?_ <;> refine AL.nil ?_)
        | refine AW.cond_true rfl ?_
        | refine AW.cond_false rfl ?_
        | refine AW.block ?_
        | refine AW.endblk ?_
        | refine AW.skip ?_
        | refine AW.exit rfl ?_
        | refine AW.label ?_
        | refine AW.j (fun hb => ?_) (fun hb => ?_))
      all_goals (refine AW.meet [0, 2, 4, 6] ⟨rfl, ?_⟩; simp only [ieq, ine, decide_eq_true_eq, decide_eq_false_iff_not, ofConst, Bool.not_eq_true', Bool.not_eq_false'] at *; congr 2; rw [Bool.eq_iff_iff]; simp; try omega)
    rintro af ah ⟨rfl, rfl⟩
    obtain ⟨a6, ea6⟩ : ∃ x, x = (a5.need (decide (0 ≤ s.N) && decide (s.N ≤ 12))) := ⟨_, rfl⟩
    rw [← ea6]
    refine AW.seq ?_
    repeat' (first
      | refine AW.seq ?_
      | (refine AW.region_at 15 ?_ <;> (first | refine AL.d AOp.fa ?_ | refine AL.d (AOp.fr 6) ?_) <;> (first | refine AL.d AOp.la ?_ | refine AL.d (AOp.ll 0) ?_ | refine AL.d (AOp.lw 0) ?_) <;> refine AL.nil ?_)
      | refine AW.cond_true rfl ?_
      | refine AW.cond_false rfl ?_
      | refine AW.block ?_
      | refine AW.endblk ?_
      | refine AW.skip ?_
      | refine AW.exit rfl ?_
      | refine AW.label ?_)
    refine AW.cut (fun af ah => af = [(0, .ref b 0), (2, .int .i64 level), (4, .at s.st), (6, .at u.av)] ∧ ah = (if u.lit = true then a6.lit s.Lit else a6).ah b ba bs gA) ?_ ?_
    · repeat' (first
        | refine AW.seq ?_
        | (refine AW.region_at 16 ?_ <;> refine AL.e ?_ <;> (first | refine AL.d AOp.fa ?_ | refine AL.d (AOp.fr 7) ?_) <;> (first | refine AL.d AOp.la ?_ | refine AL.d (AOp.ll 0) ?_ | refine AL.d (AOp.lw 0) ?_) <;> refine AL.d (AOp.call rfl rfl (chk_lit b ba bs gA _ s.Lit hlit)) ?_ <;> refine AL.nil ?_)
        | refine AW.cond_true rfl ?_
        | refine AW.cond_false rfl ?_
        | refine AW.block ?_
        | refine AW.endblk ?_
        | refine AW.skip ?_
        | refine AW.exit rfl ?_
        | refine AW.label ?_
        | refine AW.j (fun hb => ?_) (fun hb => ?_))
      all_goals (refine AW.meet [0, 2, 4, 6] ⟨rfl, ?_⟩; simp only [hb]; rfl)
    rintro af ah ⟨rfl, rfl⟩
    obtain ⟨a7, ea7⟩ : ∃ x, x = (if u.lit = true then a6.lit s.Lit else a6) := ⟨_, rfl⟩
    rw [← ea7]
    refine AW.seq ?_
    refine AW.cut (fun af ah => af = [(0, .ref b 0), (2, .int .i64 level), (4, .at s.st), (6, .at u.av)] ∧ ah = (a7.regs s.Regs).ah b ba bs gA) ?_ ?_
    · repeat' (first
        | refine AW.seq ?_
        | (refine AW.region_at 17 ?_ <;> refine AL.e ?_ <;> (first | refine AL.d AOp.fa ?_ | refine AL.d (AOp.fr 11) ?_) <;> (first | refine AL.d AOp.la ?_ | refine AL.d (AOp.ll 0) ?_ | refine AL.d (AOp.lw 0) ?_) <;> refine AL.d (AOp.call rfl rfl (chk_regs b ba bs gA _ s.Regs hregs)) ?_ <;> refine AL.nil ?_)
        | refine AW.cond_true rfl ?_
        | refine AW.cond_false rfl ?_
        | refine AW.block ?_
        | refine AW.endblk ?_
        | refine AW.skip ?_
        | refine AW.exit rfl ?_
        | refine AW.label ?_
        | refine AW.j (fun hb => ?_) (fun hb => ?_))
      all_goals (refine AW.meet [0, 2, 4, 6] ⟨rfl, ?_⟩; rfl)
    rintro af ah ⟨rfl, rfl⟩
    obtain ⟨a8, ea8⟩ : ∃ x, x = (a7.regs s.Regs) := ⟨_, rfl⟩
    rw [← ea8]
    refine AW.seq ?_
    refine AW.cut (fun af ah => ∃ (nn : Int) (ii : Bool), af = [(7, iav nn), (8, .bool ii), (0, .ref b 0), (2, .int .i64 level), (4, .at s.st), (6, .at u.av)] ∧ ah = a8.ah b ba bs gA ∧ nn = (lookA a8.A s.Name).getD 0 ∧ ii = (lookA a8.A s.Name).isSome) ?_ ?_
    · repeat' (first
        | refine AW.seq ?_
        | (refine AW.da 18 ?_ <;> refine AQ.e ?_ <;> refine AQ.e ?_ <;> (first | refine AQ.p rfl AOp.fa ?_ | refine AQ.p rfl (AOp.fr 4) ?_) <;> (first | refine AQ.p rfl AOp.la ?_ | refine AQ.p rfl (AOp.ll 0) ?_ | refine AQ.p rfl (AOp.lw 0) ?_) <;> (first | refine AQ.p rfl AOp.fa ?_ | refine AQ.p rfl (AOp.fr 5) ?_) <;> (first | refine AQ.p rfl AOp.la ?_ | refine AQ.p rfl (AOp.ll 0) ?_ | refine AQ.p rfl (AOp.lw 0) ?_) <;> refine AQ.p rfl (AOp.lookS_int 1 3 rfl rfl rfl (by kernel_rfl) (by kernel_rfl)) ?_ <;> refine AQ.e ?_ <;> refine AQ.e ?_ <;> refine AQ.e ?_ <;> refine AQ.e ?_ <;> refine AQ.e ?_ <;> refine AQ.nil ?_)
        | refine AW.cond_true rfl ?_
        | refine AW.cond_false rfl ?_
        | refine AW.block ?_
        | refine AW.endblk ?_
        | refine AW.skip ?_
        | refine AW.exit rfl ?_
        | refine AW.label ?_
        | refine AW.j (fun hb => ?_) (fun hb => ?_))
      exact AW.meet [7, 8, 0, 2, 4, 6] ⟨_, _, rfl, rfl, rfl, rfl⟩
    rintro af ah ⟨nn, ii, rfl, rfl, hnn, hii⟩
    refine AW.seq ?_
    refine AW.cut (fun af ah => af = [(7, iav nn), (8, .bool ii), (0, .ref b 0), (2, .int .i64 level), (4, .at s.st), (6, .at u.av)] ∧ ah = (a8.need (!u.name || ii)).ah b ba bs gA) ?_ ?_
    · repeat' (first
        | refine AW.seq ?_
        | (refine AW.region_at 19 ?_ <;> refine AL.e ?_ <;> (first | refine AL.d AOp.fa ?_ | refine AL.d (AOp.fr 4) ?_) <;> (first | refine AL.d AOp.la ?_ | refine AL.d (AOp.ll 0) ?_ | refine AL.d (AOp.lw 0) ?_) <;> refine AL.e ?_ <;> refine AL.e ?_ <;> (first | (refine AL.gd ?_; refine AL.e ?_) | refine AL.gs ?_ | refine AL.gu ?_ | (refine AL.gx (fun hb => ?_) (fun hb => ?_) <;> first | (refine AL.gd ?_; refine AL.e ?_) | refine AL.gs ?_)) <;> refine AL.e ?_ <;> refine AL.d (AOp.call rfl rfl (chk_need b ba bs gA _ _)) ?_ <;> refine AL.nil ?_)
        | refine AW.cond_true rfl ?_
        | refine AW.cond_false rfl ?_
        | refine AW.block ?_
        | refine AW.endblk ?_
        | refine AW.skip ?_
        | refine AW.exit rfl ?_
        | refine AW.label ?_
        | refine AW.j (fun hb => ?_) (fun hb => ?_))
      all_goals (refine AW.meet [7, 8, 0, 2, 4, 6] ⟨rfl, ?_⟩; (try simp only [ieq, ine, ofConst, List.length_map] at *); congr 2; simp_all [ofConst])
    rintro af ah ⟨rfl, rfl⟩
    obtain ⟨a9, ea9⟩ : ∃ x, x = (a8.need (!u.name || ii)) := ⟨_, rfl⟩
    rw [← ea9]
    refine AW.seq ?_
    refine AW.cut (fun af ah => af = [(7, iav nn), (8, .bool ii), (0, .ref b 0), (2, .int .i64 level), (4, .at s.st), (6, .at u.av)] ∧ ah = (a9.need (!u.regs || decide (nn = s.Regs.length))).ah b ba bs gA) ?_ ?_
    · repeat' (first
        | refine AW.seq ?_
        | (refine AW.region_at 20 ?_ <;> refine AL.e ?_ <;> (first | refine AL.d AOp.fa ?_ | refine AL.d (AOp.fr 7) ?_) <;> (first | refine AL.d AOp.la ?_ | refine AL.d (AOp.ll 0) ?_ | refine AL.d (AOp.lw 0) ?_) <;> refine AL.e ?_ <;> refine AL.e ?_ <;> (first | (refine AL.gd ?_; refine AL.e ?_) | refine AL.gs ?_ | refine AL.gu ?_ | (refine AL.gx (fun hb => ?_) (fun hb => ?_) <;> first | (refine AL.gd ?_; refine AL.e ?_) | refine AL.gs ?_)) <;> (first | (refine AL.gd ?_; (first | refine AL.d AOp.fa ?_ | refine AL.d (AOp.fr 11) ?_)) | refine AL.gs ?_ | refine AL.gu ?_) <;> (first | (refine AL.gd ?_; (first | refine AL.d AOp.la ?_ | refine AL.d (AOp.ll 0) ?_ | refine AL.d (AOp.lw 0) ?_)) | refine AL.gs ?_ | refine AL.gu ?_) <;> (first | (refine AL.gd ?_; refine AL.d AOp.ln ?_) | refine AL.gs ?_ | refine AL.gu ?_) <;> (first | (refine AL.gd ?_; refine AL.e ?_) | refine AL.gs ?_ | refine AL.gu ?_) <;> refine AL.e ?_ <;> refine AL.d (AOp.call rfl rfl (chk_need b ba bs gA _ _)) ?_ <;> refine AL.nil ?_)
        | refine AW.cond_true rfl ?_
        | refine AW.cond_false rfl ?_
        | refine AW.block ?_
        | refine AW.endblk ?_
        | refine AW.skip ?_
        | refine AW.exit rfl ?_
        | refine AW.label ?_
        | refine AW.j (fun hb => ?_) (fun hb => ?_))
      all_goals (refine AW.meet [7, 8, 0, 2, 4, 6] ⟨rfl, ?_⟩; (try simp only [ieq, ine, ofConst, List.length_map] at *); congr 2; simp_all [ofConst])
    rintro af ah ⟨rfl, rfl⟩
    obtain ⟨a10, ea10⟩ : ∃ x, x = (a9.need (!u.regs || decide (nn = s.Regs.length))) := ⟨_, rfl⟩
    rw [← ea10]
    refine AW.seq ?_
    repeat' (first
      | refine AW.seq ?_
      | (refine AW.region_at 21 ?_ <;> (first | refine AL.d AOp.fa ?_ | refine AL.d (AOp.fr 5) ?_) <;> (first | refine AL.d AOp.la ?_ | refine AL.d (AOp.ll 0) ?_ | refine AL.d (AOp.lw 0) ?_) <;> refine AL.nil ?_)
      | refine AW.cond_true rfl ?_
      | refine AW.cond_false rfl ?_
      | refine AW.block ?_
      | refine AW.endblk ?_
      | refine AW.skip ?_
      | refine AW.exit rfl ?_
      | refine AW.label ?_)
    refine AW.cut (fun af ah => af = [(7, iav nn), (8, .bool ii), (0, .ref b 0), (2, .int .i64 level), (4, .at s.st), (6, .at u.av)] ∧ ah = (if u.frm = true then a10.need ((lookA a10.A s.From).isSome && decide (nn = (lookA a10.A s.From).getD 0)) else a10).ah b ba bs gA) ?_ ?_
    · repeat' (first
        | refine AW.seq ?_
        | (refine AW.da 22 ?_ <;> refine AQ.e ?_ <;> refine AQ.e ?_ <;> (first | refine AQ.p rfl AOp.fa ?_ | refine AQ.p rfl (AOp.fr 4) ?_) <;> (first | refine AQ.p rfl AOp.la ?_ | refine AQ.p rfl (AOp.ll 0) ?_ | refine AQ.p rfl (AOp.lw 0) ?_) <;> (first | refine AQ.p rfl AOp.fa ?_ | refine AQ.p rfl (AOp.fr 6) ?_) <;> (first | refine AQ.p rfl AOp.la ?_ | refine AQ.p rfl (AOp.ll 0) ?_ | refine AQ.p rfl (AOp.lw 0) ?_) <;> refine AQ.p rfl (AOp.lookS_int 1 3 rfl rfl rfl (by kernel_rfl) (by kernel_rfl)) ?_ <;> refine AQ.e ?_ <;> refine AQ.e ?_ <;> refine AQ.e ?_ <;> refine AQ.e ?_ <;> refine AQ.e ?_ <;> refine AQ.nil ?_)
        | (refine AW.region_at 23 ?_ <;> refine AL.e ?_ <;> refine AL.e ?_ <;> refine AL.e ?_ <;> (first | (refine AL.gd ?_; refine AL.e ?_) | refine AL.gs ?_ | refine AL.gu ?_ | (refine AL.gx (fun hb => ?_) (fun hb => ?_) <;> first | (refine AL.gd ?_; refine AL.e ?_) | refine AL.gs ?_)) <;> (first | (refine AL.gd ?_; refine AL.e ?_) | refine AL.gs ?_ | refine AL.gu ?_) <;> (first | (refine AL.gd ?_; refine AL.e ?_) | refine AL.gs ?_ | refine AL.gu ?_) <;> refine AL.e ?_ <;> refine AL.d (AOp.call rfl rfl (chk_need b ba bs gA _ _)) ?_ <;> refine AL.nil ?_)
        | refine AW.cond_true rfl ?_
        | refine AW.cond_false rfl ?_
        | refine AW.block ?_
        | refine AW.endblk ?_
        | refine AW.skip ?_
        | refine AW.exit rfl ?_
        | refine AW.label ?_
        | refine AW.j (fun hb => ?_) (fun hb => ?_))
      all_goals (refine AW.meet [7, 8, 0, 2, 4, 6] ⟨rfl, ?_⟩; simp_all [ofConst, ieq, ine])
    rintro af ah ⟨rfl, rfl⟩
    obtain ⟨a11, ea11⟩ : ∃ x, x = (if u.frm = true then a10.need ((lookA a10.A s.From).isSome && decide (nn = (lookA a10.A s.From).getD 0)) else a10) := ⟨_, rfl⟩
    rw [← ea11]
    refine AW.seq ?_
    have hfin : s1.flds s = a11 := by
      subst ea11 ea10 ea9 hnn hii ea8 ea7 ea6 ea5 ea4 ea3 hv66 ea2 ea1 hue
      unfold Chk.flds
      simp only [Bool.and_eq_true, decide_eq_true_eq]
    rw [hfin]
    have hc2 : a11.cnt = st.cnt + 1 := by rw [← hfin, Chk.flds_cnt]; exact hcnt.1
    clear hfin ea11 ea10 ea9 hnn hii ea8 ea7 ea6 ea5 ea4 ea3 hv66 ea2 ea1 hu hz
    obtain ⟨_, hb1, hb2, he1, he2⟩ := hs
    have hcs := cntS_eq s
    repeat' (first
      | refine AW.seq ?_
      | (refine AW.region_at 24 ?_ <;> (first | refine AL.d AOp.fa ?_ | refine AL.d (AOp.fr 12) ?_) <;> (first | refine AL.d AOp.la ?_ | refine AL.d (AOp.ll 0) ?_ | refine AL.d (AOp.lw 0) ?_) <;> (first | refine AL.d AOp.fa ?_ | refine AL.d (AOp.fr 13) ?_) <;> (first | refine AL.d AOp.la ?_ | refine AL.d (AOp.ll 0) ?_ | refine AL.d (AOp.lw 0) ?_) <;> refine AL.d (AOp.lit (e := 23) (sz := 1) (by kernel_rfl) rfl rfl rfl (by simp [AV.size]) (by decide)) ?_ <;> refine AL.d AOp.ln ?_ <;> refine AL.e ?_ <;> refine AL.nil ?_)
      | refine AW.cond_true rfl ?_
      | refine AW.cond_false rfl ?_
      | refine AW.block ?_
      | refine AW.endblk ?_
      | refine AW.skip ?_
      | refine AW.exit rfl ?_
      | refine AW.label ?_
      | refine AW.j (fun hb => ?_) (fun hb => ?_))
    refine AW.prune [0, 2, 165, 166, 167] (AW.loop (fun m af h => ∃ (i : Nat) (t : Chk), i ≤ 2 ∧ m = 2 - i ∧ af = [(0, .ref b 0), (2, .int .i64 level), (165, .sl [.sl (s.Body.map GStmt.av), .sl (s.Else.map GStmt.av)]), (166, .int .i64 2), (167, .int .i64 i)] ∧ h = t.ah b ba bs gA ∧ 0 ≤ t.cnt ∧ t.cnt ≤ 20000 ∧
      (if (listP s.Body (level + 1) a11).2 = true then (listP s.Body (level + 1) a11).1 else (listP s.Else (level + 1) (listP s.Body (level + 1) a11).1).1) = (if i = 0 then (if (listP s.Body (level + 1) t).2 = true then (listP s.Body (level + 1) t).1 else (listP s.Else (level + 1) (listP s.Body (level + 1) t).1).1) else if i = 1 then (listP s.Else (level + 1) t).1 else t)) 2 ⟨0, a11, by omega, rfl, rfl, rfl, by omega, by omega, rfl⟩ ?_)
    rintro m af h ⟨i, t, hi, rfl, rfl, rfl, t0, t1, he⟩
    refine AW.seq ?_
    generalize (if (listP s.Body (level + 1) a11).2 = true then (listP s.Body (level + 1) a11).1 else (listP s.Else (level + 1) (listP s.Body (level + 1) a11).1).1) = X at he ⊢
    by_cases hlt : i < 2
    · obtain ⟨l, G, hget, hlen, hok, hcl, he', hnext⟩ : ∃ (l : List GStmt) (G : Chk → Chk), ([.sl (s.Body.map GStmt.av), .sl (s.Else.map GStmt.av)] : List AV)[((i : Nat) : Int).toNat]? = some (.sl (l.map GStmt.av)) ∧ l.length ≤ 4611686018427387904 ∧ (∀ x ∈ l, x.Ok) ∧ cntL l < n ∧
          X = (if (listP l (level + 1) t).2 = true then (listP l (level + 1) t).1 else G (listP l (level + 1) t).1) ∧ ∀ u, G u = (if i + 1 = 0 then (if (listP s.Body (level + 1) u).2 = true then (listP s.Body (level + 1) u).1 else (listP s.Else (level + 1) (listP s.Body (level + 1) u).1).1) else if i + 1 = 1 then (listP s.Else (level + 1) u).1 else u) := by
        rcases (show i = 0 ∨ i = 1 by omega) with rfl | rfl
        · exact ⟨s.Body, fun u => (listP s.Else (level + 1) u).1, rfl, by omega, hb2, by omega, he, fun u => rfl⟩
        · exact ⟨s.Else, fun u => u, rfl, by omega, he2, by omega, by rw [he]; split <;> simp_all, fun u => rfl⟩
      clear he
      repeat' (first
        | refine AW.seq ?_
        | (refine AW.region_at 25 ?_ <;> refine AL.e ?_ <;> refine AL.nil ?_)
        | (refine AW.region_at 26 ?_ <;> refine AL.d (AOp.index_sl rfl rfl (by omega) hget (by kernel_rfl) rfl) ?_ <;> (first | refine AL.d AOp.la ?_ | refine AL.d (AOp.ll 0) ?_ | refine AL.d (AOp.lw 0) ?_) <;> refine AL.e ?_ <;> refine AL.nil ?_)
        | (refine AW.region_at 27 ?_ <;> refine AL.e ?_ <;> refine AL.d AOp.ln ?_ <;> refine AL.e ?_ <;> refine AL.nil ?_)
        | refine AW.cond_true rfl ?_
        | refine AW.cond_false rfl ?_
        | refine AW.block ?_
        | refine AW.endblk ?_
        | refine AW.skip ?_
        | refine AW.exit rfl ?_
        | refine AW.label ?_
        | refine AW.j (fun hb => ?_) (fun hb => ?_))
      all_goals try (exfalso; simp only [decide_eq_true_eq, decide_eq_false_iff_not, List.length_map] at *; omega)
      refine AW.prune [0, 2, 165, 166, 167, 171, 172, 173] (AW.loop (fun m af h => ∃ (k : Nat) (u : Chk), k ≤ l.length ∧ m = l.length - k ∧ af = [(0, .ref b 0), (2, .int .i64 level), (165, .sl [.sl (s.Body.map GStmt.av), .sl (s.Else.map GStmt.av)]), (166, .int .i64 2), (167, .int .i64 i), (171, .sl (l.map GStmt.av)), (172, .int .i64 (l.map GStmt.av).length), (173, .int .i64 k)] ∧ h = u.ah b ba bs gA ∧ 0 ≤ u.cnt ∧ u.cnt ≤ 20000 ∧
        listP l (level + 1) t = listP (l.drop k) (level + 1) u) l.length ⟨0, t, Nat.zero_le _, rfl, rfl, rfl, t0, t1, rfl⟩ ?_)
      rintro m af h ⟨k, u, hk, rfl, rfl, rfl, u0, u1, hu⟩
      refine AW.seq ?_
      by_cases hlt2 : k < l.length
      · obtain ⟨x, hx⟩ := get_lt hlt2
        have hx' : (l.map GStmt.av)[((k : Nat) : Int).toNat]? = some x.st := GStmt.get hx
        have hxm := List.mem_of_getElem? hx
        have hxc := cnt_mem hxm
        have hih := ih (cntS x) (by omega) x (Nat.le_refl _) (hok x hxm) (level + 1) (by omega) u ⟨u0, u1⟩
        have hcx := stmtP_cnt x (level + 1) u u0 u1
        rw [drop_cons hx, listP] at hu
        repeat' (first
          | refine AW.seq ?_
          | (refine AW.region_at 28 ?_ <;> refine AL.e ?_ <;> refine AL.nil ?_)
          | (refine AW.region_at 29 ?_ <;> refine AL.d (AOp.index_sl rfl rfl (by omega) hx' (by kernel_rfl) rfl) ?_ <;> (first | refine AL.d AOp.la ?_ | refine AL.d (AOp.ll 0) ?_ | refine AL.d (AOp.lw 0) ?_) <;> refine AL.alloc_store (by kernel_rfl) rfl rfl rfl rfl ?_ <;> refine AL.nil ?_)
          | (refine AW.region_at 30 ?_ <;> refine AL.e ?_ <;> (first | refine AL.d AOp.la ?_ | refine AL.d (AOp.ll 0) ?_ | refine AL.d (AOp.lw 0) ?_) <;> refine AL.e ?_ <;> refine AL.d AOp.ad ?_ <;> refine AL.d (AOp.call rfl rfl hih) ?_ <;> refine AL.nil ?_)
          | (refine AW.region_at 31 ?_ <;> refine AL.e ?_ <;> refine AL.e ?_ <;> (first | refine AL.d AOp.fa ?_ | refine AL.d (AOp.fr 7) ?_) <;> (first | refine AL.d AOp.la ?_ | refine AL.d (AOp.ll 0) ?_ | refine AL.d (AOp.lw 0) ?_) <;> refine AL.nil ?_)
          | (refine AW.region_at 32 ?_ <;> refine AL.d AOp.ad ?_ <;> refine AL.e ?_ <;> refine AL.nil ?_)
          | refine AW.cond_true rfl ?_
          | refine AW.cond_false rfl ?_
          | refine AW.block ?_
          | refine AW.endblk ?_
          | refine AW.skip ?_
          | refine AW.exit rfl ?_
          | refine AW.label ?_
          | refine AW.j (fun hb => ?_) (fun hb => ?_))
        all_goals first
          | (exfalso; simp only [decide_eq_true_eq, decide_eq_false_iff_not, List.length_map] at *; omega)
          | exact AW.retv rfl ⟨rfl, by rw [he']; simp only [hu, hb, if_true]⟩
          | exact AW.again_keep (l.length - (k + 1)) [0, 2, 165, 166, 167, 171, 172, 173] (by omega) ⟨k + 1, _, hlt2, rfl, rfl, rfl, hcx.1, hcx.2.2 hb, by simp only [hu, hb, Bool.false_eq_true, if_false]⟩
      · rw [List.drop_eq_nil_of_le (by omega), listP] at hu
        repeat' (first
          | refine AW.seq ?_
          | (refine AW.region_at 28 ?_ <;> refine AL.e ?_ <;> refine AL.nil ?_)
          | (refine AW.region_at 33 ?_ <;> refine AL.d AOp.ad ?_ <;> refine AL.e ?_ <;> refine AL.nil ?_)
          | refine AW.cond_true rfl ?_
          | refine AW.cond_false rfl ?_
          | refine AW.block ?_
          | refine AW.endblk ?_
          | refine AW.skip ?_
          | refine AW.exit rfl ?_
          | refine AW.label ?_
          | refine AW.j (fun hb => ?_) (fun hb => ?_))
        all_goals first
          | (exfalso; simp only [decide_eq_true_eq, decide_eq_false_iff_not, List.length_map] at *; omega)
          | exact AW.again_keep (2 - (i + 1)) [0, 2, 165, 166, 167] (by omega) ⟨i + 1, u, by omega, rfl, rfl, rfl, u0, u1, by rw [he']; simp only [hu, Bool.false_eq_true, if_false]; exact hnext u⟩
    · have hi2 : i = 2 := by omega
      subst hi2
      repeat' (first
        | refine AW.seq ?_
        | (refine AW.region_at 25 ?_ <;> refine AL.e ?_ <;> refine AL.nil ?_)
        | refine AW.cond_true rfl ?_
        | refine AW.cond_false rfl ?_
        | refine AW.block ?_
        | refine AW.endblk ?_
        | refine AW.skip ?_
        | refine AW.exit rfl ?_
        | refine AW.label ?_
        | refine AW.j (fun hb => ?_) (fun hb => ?_))
      all_goals first
        | (exfalso; simp at *; done)
        | exact AW.donev rfl ⟨rfl, by rw [he]; rfl⟩
end Go.Proofs.YtdedkpfbfklgbaaGreat
namespace Go.Proofs.YtdedkpfbfklgbaaGreat
open Go.RowKit Go.SX
set_option maxRecDepth 100000
set_option maxHeartbeats 4000000
set_option linter.unusedVariables false
set_option linter.unusedSimpArgs false

def chk0 (c : GCode) : Chk := (⟨c, [], [], ⟨[], 0⟩, 0, false⟩ : Chk).need (decide (1 ≤ c.Flags) && decide (c.Flags ≤ 1000) && decide (0 ≤ c.Regs) && decide (c.Regs ≤ 60) && decide (c.Arrays.length ≤ 60))
def Chk.arr (st : Chk) (a : GSym) : Chk := { st.need (!(lookA st.A a.Name).isSome && nameB a.Name && decide (0 ≤ a.Arity) && decide (a.Arity ≤ 12)) with A := setA st.A a.Name a.Arity }
def arrsP : List GSym → Chk → MG → Chk × MG
  | [], st, g => (st, g)
  | a :: l, st, g => arrsP l (st.arr a) (gsetA st.A g a.Name)
def bodyP : List GStmt → Chk → Chk
  | [], st => st
  | s :: l, st => if st.bad then st else bodyP l (stmtP s 1 st)
def checkedP (c : GCode) : Chk := bodyP c.Body (arrsP c.Arrays (chk0 c) ⟨[], 0⟩).1
theorem arrsP_cnt : ∀ (l : List GSym) (st : Chk) (g : MG), (arrsP l st g).1.cnt = st.cnt
  | [], st, g => rfl
  | a :: l, st, g => by rw [arrsP, arrsP_cnt l]; rfl
theorem code_checked (c : GCode) (hc : c.Ok) : Tri Tryz.prog 24 [c.av] [] (fun x h => ∃ b ba bs, x = .ret (.ref b 0) ∧ h = (checkedP c).ah b ba bs (arrsP c.Arrays (chk0 c) ⟨[], 0⟩).2) := by
  refine Tri.enter 102 Tryz.func24 rfl rfl rfl rfl fun Fr w0 => ?_
  obtain ⟨_, _, hca, hcb⟩ := hc
  have hal : c.Arrays.length ≤ 4611686018427387904 := by have := hca.1; omega
  have hbl : c.Body.length ≤ 4611686018427387904 := by have := hcb.1; omega
  repeat' (first
    | refine AW.seq ?_
    | (refine AW.region_at 0 ?_ <;> refine AL.d (AOp.box_ro rfl rfl) ?_ <;> refine AL.e ?_ <;> refine AL.nil ?_)
    | refine AW.cond_true rfl ?_
    | refine AW.cond_false rfl ?_
    | refine AW.block ?_
    | refine AW.endblk ?_
    | refine AW.skip ?_
    | refine AW.exit rfl ?_
    | refine AW.label ?_
    | refine AW.j (fun hb => ?_) (fun hb => ?_))
  repeat' (first
    | refine AW.seq ?_
    | (refine AW.region_at 1 ?_ <;> refine AL.d AOp.la ?_ <;> refine AL.makeMap rfl fun bm => ?_ <;> refine AL.makeMap rfl fun bm => ?_ <;> refine AL.d (AOp.build (pl := [(0, 4), (4, 1), (5, 1), (6, 1), (7, 1)]) (z := .st [.st [.int .i64 0, .int .i64 0, .sl [], .sl []], .val (.map none), .val (.map none), .int .i64 0, .bool false]) (by kernel_rfl) rfl rfl rfl) ?_ <;> refine AL.box rfl rfl rfl fun b => ?_ <;> refine AL.e ?_ <;> refine AL.nil ?_)
    | refine AW.cond_true rfl ?_
    | refine AW.cond_false rfl ?_
    | refine AW.block ?_
    | refine AW.endblk ?_
    | refine AW.skip ?_
    | refine AW.exit rfl ?_
    | refine AW.label ?_
    | refine AW.j (fun hb => ?_) (fun hb => ?_))
  rename_i ba
  refine AW.perm (b := (⟨c, [], [], ⟨[], 0⟩, 0, false⟩ : Chk).ah b ba bm ⟨[], 0⟩) ((List.Perm.swap _ _ _).cons _) ?_
  refine AW.cut (fun af ah => af = [(1, .at c.av), (3, .ref b 0)] ∧ ah = (chk0 c).ah b ba bm ⟨[], 0⟩) ?_ ?_
  · repeat' (first
      | refine AW.seq ?_
      | (refine AW.region_at 2 ?_ <;> refine AL.e ?_ <;> (first | refine AL.d AOp.fa ?_ | refine AL.d (AOp.fr 0) ?_) <;> (first | refine AL.d AOp.la ?_ | refine AL.d (AOp.ll 0) ?_ | refine AL.d (AOp.lw 0) ?_) <;> refine AL.e ?_ <;> refine AL.e ?_ <;> (first | (refine AL.gd ?_; (first | refine AL.d AOp.fa ?_ | refine AL.d (AOp.fr 0) ?_)) | refine AL.gs ?_ | refine AL.gu ?_ | (refine AL.gx (fun hb => ?_) (fun hb => ?_) <;> first | (refine AL.gd ?_; (first | refine AL.d AOp.fa ?_ | refine AL.d (AOp.fr 0) ?_)) | refine AL.gs ?_)) <;> (first | (refine AL.gd ?_; (first | refine AL.d AOp.la ?_ | refine AL.d (AOp.ll 0) ?_ | refine AL.d (AOp.lw 0) ?_)) | refine AL.gs ?_ | refine AL.gu ?_) <;> (first | (refine AL.gd ?_; refine AL.e ?_) | refine AL.gs ?_ | refine AL.gu ?_) <;> refine AL.e ?_ <;> refine AL.e ?_ <;> (first | (refine AL.gd ?_; (first | refine AL.d AOp.fa ?_ | refine AL.d (AOp.fr 1) ?_)) | refine AL.gs ?_ | refine AL.gu ?_ | (refine AL.gx (fun hb => ?_) (fun hb => ?_) <;> first | (refine AL.gd ?_; (first | refine AL.d AOp.fa ?_ | refine AL.d (AOp.fr 1) ?_)) | refine AL.gs ?_)) <;> (first | (refine AL.gd ?_; (first | refine AL.d AOp.la ?_ | refine AL.d (AOp.ll 0) ?_ | refine AL.d (AOp.lw 0) ?_)) | refine AL.gs ?_ | refine AL.gu ?_) <;> (first | (refine AL.gd ?_; refine AL.e ?_) | refine AL.gs ?_ | refine AL.gu ?_) <;> refine AL.e ?_ <;> refine AL.e ?_ <;> (first | (refine AL.gd ?_; (first | refine AL.d AOp.fa ?_ | refine AL.d (AOp.fr 1) ?_)) | refine AL.gs ?_ | refine AL.gu ?_ | (refine AL.gx (fun hb => ?_) (fun hb => ?_) <;> first | (refine AL.gd ?_; (first | refine AL.d AOp.fa ?_ | refine AL.d (AOp.fr 1) ?_)) | refine AL.gs ?_)) <;> (first | (refine AL.gd ?_; (first | refine AL.d AOp.la ?_ | refine AL.d (AOp.ll 0) ?_ | refine AL.d (AOp.lw 0) ?_)) | refine AL.gs ?_ | refine AL.gu ?_) <;> (first | (refine AL.gd ?_; refine AL.e ?_) | refine AL.gs ?_ | refine AL.gu ?_) <;> refine AL.e ?_ <;> refine AL.e ?_ <;> (first | (refine AL.gd ?_; (first | refine AL.d AOp.fa ?_ | refine AL.d (AOp.fr 2) ?_)) | refine AL.gs ?_ | refine AL.gu ?_ | (refine AL.gx (fun hb => ?_) (fun hb => ?_) <;> first | (refine AL.gd ?_; (first | refine AL.d AOp.fa ?_ | refine AL.d (AOp.fr 2) ?_)) | refine AL.gs ?_)) <;> (first | (refine AL.gd ?_; (first | refine AL.d AOp.la ?_ | refine AL.d (AOp.ll 0) ?_ | refine AL.d (AOp.lw 0) ?_)) | refine AL.gs ?_ | refine AL.gu ?_) <;> (first | (refine AL.gd ?_; refine AL.d AOp.ln ?_) | refine AL.gs ?_ | refine AL.gu ?_) <;> (first | (refine AL.gd ?_; refine AL.e ?_) | refine AL.gs ?_ | refine AL.gu ?_) <;> refine AL.e ?_ <;> refine AL.d (AOp.call rfl rfl (chk_need b ba bm ⟨[], 0⟩ ⟨c, [], [], ⟨[], 0⟩, 0, false⟩ _)) ?_ <;> refine AL.nil ?_)
      | refine AW.cond_true rfl ?_
      | refine AW.cond_false rfl ?_
      | refine AW.block ?_
      | refine AW.endblk ?_
      | refine AW.skip ?_
      | refine AW.exit rfl ?_
      | refine AW.label ?_
      | refine AW.j (fun hb => ?_) (fun hb => ?_))
    all_goals (refine AW.meet [1, 3] ⟨rfl, ?_⟩; unfold chk0; simp only [List.length_map, decide_eq_true_eq, decide_eq_false_iff_not] at *; congr 2; rw [Bool.eq_iff_iff]; simp; try omega)
  rintro af ah ⟨rfl, rfl⟩
  repeat' (first
    | refine AW.seq ?_
    | (refine AW.region_at 3 ?_ <;> (first | refine AL.d AOp.fa ?_ | refine AL.d (AOp.fr 2) ?_) <;> (first | refine AL.d AOp.la ?_ | refine AL.d (AOp.ll 0) ?_ | refine AL.d (AOp.lw 0) ?_) <;> refine AL.d AOp.ln ?_ <;> refine AL.e ?_ <;> refine AL.nil ?_)
    | refine AW.cond_true rfl ?_
    | refine AW.cond_false rfl ?_
    | refine AW.block ?_
    | refine AW.endblk ?_
    | refine AW.skip ?_
    | refine AW.exit rfl ?_
    | refine AW.label ?_
    | refine AW.j (fun hb => ?_) (fun hb => ?_))
  refine AW.prune [1, 3, 42, 43, 44] (AW.loop (fun m af h => ∃ (i : Nat) (st : Chk) (g : MG), i ≤ c.Arrays.length ∧ m = c.Arrays.length - i ∧ af = [(1, .at c.av), (3, .ref b 0), (42, .sl (c.Arrays.map GSym.av)), (43, .int .i64 (c.Arrays.map GSym.av).length), (44, .int .i64 i)] ∧ h = st.ah b ba bm g ∧ st.cnt = 0 ∧
    arrsP c.Arrays (chk0 c) ⟨[], 0⟩ = arrsP (c.Arrays.drop i) st g) c.Arrays.length ⟨0, chk0 c, ⟨[], 0⟩, Nat.zero_le _, rfl, rfl, rfl, rfl, rfl⟩ ?_)
  rintro m af h ⟨i, st, g, hi, rfl, rfl, rfl, hcnt, he⟩
  refine AW.seq ?_
  by_cases hlt : i < c.Arrays.length
  · obtain ⟨x, hx⟩ := get_lt hlt
    have hx' : (c.Arrays.map GSym.av)[((i : Nat) : Int).toNat]? = some x.av := map_get hx
    have hxo := hca.2 x (List.mem_of_getElem? hx)
    rw [drop_cons hx, arrsP] at he
    have hN := shape_Name x.Name hxo.1
    repeat' (first
      | refine AW.seq ?_
      | (refine AW.region_at 4 ?_ <;> refine AL.e ?_ <;> refine AL.nil ?_)
      | (refine AW.region_at 5 ?_ <;> refine AL.d (AOp.index_sl rfl rfl (by omega) hx' (by kernel_rfl) rfl) ?_ <;> (first | refine AL.d AOp.la ?_ | refine AL.d (AOp.ll 0) ?_ | refine AL.d (AOp.lw 0) ?_) <;> refine AL.alloc_store (by kernel_rfl) rfl rfl rfl rfl ?_ <;> refine AL.nil ?_)
      | refine AW.cond_true rfl ?_
      | refine AW.cond_false rfl ?_
      | refine AW.block ?_
      | refine AW.endblk ?_
      | refine AW.skip ?_
      | refine AW.exit rfl ?_
      | refine AW.label ?_
      | refine AW.j (fun hb => ?_) (fun hb => ?_))
    all_goals try (exfalso; simp only [decide_eq_true_eq, decide_eq_false_iff_not, List.length_map] at *; omega)
    repeat' (first
      | refine AW.seq ?_
      | (refine AW.da 6 ?_ <;> refine AQ.e ?_ <;> refine AQ.e ?_ <;> (first | refine AQ.p rfl AOp.fa ?_ | refine AQ.p rfl (AOp.fr 4) ?_) <;> (first | refine AQ.p rfl AOp.la ?_ | refine AQ.p rfl (AOp.ll 0) ?_ | refine AQ.p rfl (AOp.lw 0) ?_) <;> (first | refine AQ.p rfl AOp.fa ?_ | refine AQ.p rfl (AOp.fr 0) ?_) <;> (first | refine AQ.p rfl AOp.la ?_ | refine AQ.p rfl (AOp.ll 0) ?_ | refine AQ.p rfl (AOp.lw 0) ?_) <;> refine AQ.p rfl (AOp.lookS_int 1 3 rfl rfl rfl (by kernel_rfl) (by kernel_rfl)) ?_ <;> refine AQ.e ?_ <;> refine AQ.e ?_ <;> refine AQ.e ?_ <;> refine AQ.e ?_ <;> refine AQ.e ?_ <;> refine AQ.nil ?_)
      | refine AW.cond_true rfl ?_
      | refine AW.cond_false rfl ?_
      | refine AW.block ?_
      | refine AW.endblk ?_
      | refine AW.skip ?_
      | refine AW.exit rfl ?_
      | refine AW.label ?_
      | refine AW.j (fun hb => ?_) (fun hb => ?_))
    refine AW.cut (fun af ah => af = [(1, .at c.av), (3, .ref b 0), (42, .sl (c.Arrays.map GSym.av)), (43, .int .i64 (c.Arrays.map GSym.av).length), (44, .int .i64 i), (5, .at x.av)] ∧ ah = (st.need (!(lookA st.A x.Name).isSome && nameB x.Name && decide (0 ≤ x.Arity) && decide (x.Arity ≤ 12))).ah b ba bm g) ?_ ?_
    · repeat' (first
        | refine AW.seq ?_
        | (refine AW.region_at 7 ?_ <;> refine AL.e ?_ <;> refine AL.e ?_ <;> refine AL.e ?_ <;> refine AL.e ?_ <;> (first | (refine AL.gd ?_; (first | refine AL.d AOp.fa ?_ | refine AL.d (AOp.fr 0) ?_)) | refine AL.gs ?_ | refine AL.gu ?_ | (refine AL.gx (fun hb => ?_) (fun hb => ?_) <;> first | (refine AL.gd ?_; (first | refine AL.d AOp.fa ?_ | refine AL.d (AOp.fr 0) ?_)) | refine AL.gs ?_)) <;> (first | (refine AL.gd ?_; (first | refine AL.d AOp.la ?_ | refine AL.d (AOp.ll 0) ?_ | refine AL.d (AOp.lw 0) ?_)) | refine AL.gs ?_ | refine AL.gu ?_) <;> (first | (refine AL.gd ?_; (first | refine AL.d (AOp.call rfl rfl (hN.pure _)) ?_ | refine AL.d (AOp.call rfl rfl (chk_need b ba bm g _ _)) ?_)) | refine AL.gs ?_ | refine AL.gu ?_) <;> refine AL.e ?_ <;> refine AL.e ?_ <;> (first | (refine AL.gd ?_; (first | refine AL.d AOp.fa ?_ | refine AL.d (AOp.fr 1) ?_)) | refine AL.gs ?_ | refine AL.gu ?_ | (refine AL.gx (fun hb => ?_) (fun hb => ?_) <;> first | (refine AL.gd ?_; (first | refine AL.d AOp.fa ?_ | refine AL.d (AOp.fr 1) ?_)) | refine AL.gs ?_)) <;> (first | (refine AL.gd ?_; (first | refine AL.d AOp.la ?_ | refine AL.d (AOp.ll 0) ?_ | refine AL.d (AOp.lw 0) ?_)) | refine AL.gs ?_ | refine AL.gu ?_) <;> (first | (refine AL.gd ?_; refine AL.e ?_) | refine AL.gs ?_ | refine AL.gu ?_) <;> refine AL.e ?_ <;> refine AL.e ?_ <;> (first | (refine AL.gd ?_; (first | refine AL.d AOp.fa ?_ | refine AL.d (AOp.fr 1) ?_)) | refine AL.gs ?_ | refine AL.gu ?_ | (refine AL.gx (fun hb => ?_) (fun hb => ?_) <;> first | (refine AL.gd ?_; (first | refine AL.d AOp.fa ?_ | refine AL.d (AOp.fr 1) ?_)) | refine AL.gs ?_)) <;> (first | (refine AL.gd ?_; (first | refine AL.d AOp.la ?_ | refine AL.d (AOp.ll 0) ?_ | refine AL.d (AOp.lw 0) ?_)) | refine AL.gs ?_ | refine AL.gu ?_) <;> (first | (refine AL.gd ?_; refine AL.e ?_) | refine AL.gs ?_ | refine AL.gu ?_) <;> refine AL.e ?_ <;> (first | refine AL.d (AOp.call rfl rfl (hN.pure _)) ?_ | refine AL.d (AOp.call rfl rfl (chk_need b ba bm g _ _)) ?_) <;> refine AL.nil ?_)
        | refine AW.cond_true rfl ?_
        | refine AW.cond_false rfl ?_
        | refine AW.block ?_
        | refine AW.endblk ?_
        | refine AW.skip ?_
        | refine AW.exit rfl ?_
        | refine AW.label ?_
        | refine AW.j (fun hb => ?_) (fun hb => ?_))
      all_goals (refine AW.meet [1, 3, 42, 43, 44, 5] ⟨rfl, ?_⟩; congr 2; simp_all [ofConst]; try omega)
    rintro af ah ⟨rfl, rfl⟩
    repeat' (first
      | refine AW.seq ?_
      | (refine AW.draw_last_at 8 8 rfl (by kernel_rfl) (by kernel_rfl) (by kernel_rfl) (by kernel_rfl) ?_ <;> refine AQ.e ?_ <;> refine AQ.e ?_ <;> (first | refine AQ.p rfl AOp.fa ?_ | refine AQ.p rfl (AOp.fr 4) ?_) <;> (first | refine AQ.p rfl AOp.la ?_ | refine AQ.p rfl (AOp.ll 0) ?_ | refine AQ.p rfl (AOp.lw 0) ?_) <;> (first | refine AQ.p rfl AOp.fa ?_ | refine AQ.p rfl (AOp.fr 0) ?_) <;> (first | refine AQ.p rfl AOp.la ?_ | refine AQ.p rfl (AOp.ll 0) ?_ | refine AQ.p rfl (AOp.lw 0) ?_) <;> (first | refine AQ.p rfl AOp.fa ?_ | refine AQ.p rfl (AOp.fr 1) ?_) <;> (first | refine AQ.p rfl AOp.la ?_ | refine AQ.p rfl (AOp.ll 0) ?_ | refine AQ.p rfl (AOp.lw 0) ?_) <;> refine AQ.nil ?_ <;> refine AL.setS 1 3 iav _ rfl rfl rfl rfl (by kernel_rfl) ?_ <;> refine AL.nil ?_)
      | (refine AW.region_at 9 ?_ <;> refine AL.d AOp.ad ?_ <;> refine AL.e ?_ <;> refine AL.nil ?_)
      | refine AW.cond_true rfl ?_
      | refine AW.cond_false rfl ?_
      | refine AW.block ?_
      | refine AW.endblk ?_
      | refine AW.skip ?_
      | refine AW.exit rfl ?_
      | refine AW.label ?_
      | refine AW.j (fun hb => ?_) (fun hb => ?_))
    exact AW.again_keep (c.Arrays.length - (i + 1)) [1, 3, 42, 43, 44] (by omega) ⟨i + 1, st.arr x, gsetA st.A g x.Name, hlt, rfl, rfl, rfl, hcnt, he⟩
  · rw [List.drop_eq_nil_of_le (by omega), arrsP] at he
    have hi2 : i = c.Arrays.length := by omega
    repeat' (first
      | refine AW.seq ?_
      | (refine AW.region_at 4 ?_ <;> refine AL.e ?_ <;> refine AL.nil ?_)
      | refine AW.cond_true rfl ?_
      | refine AW.cond_false rfl ?_
      | refine AW.block ?_
      | refine AW.endblk ?_
      | refine AW.skip ?_
      | refine AW.exit rfl ?_
      | refine AW.label ?_
      | refine AW.j (fun hb => ?_) (fun hb => ?_))
    all_goals try (exfalso; simp only [decide_eq_true_eq, decide_eq_false_iff_not, List.length_map] at *; omega)
    have hcp : checkedP c = bodyP c.Body st := by rw [checkedP, he]
    have hg : (arrsP c.Arrays (chk0 c) ⟨[], 0⟩).2 = g := by rw [he]
    rw [hcp, hg]
    clear he hcp hg
    repeat' (first
      | refine AW.seq ?_
      | (refine AW.region_at 10 ?_ <;> (first | refine AL.d AOp.fa ?_ | refine AL.d (AOp.fr 3) ?_) <;> (first | refine AL.d AOp.la ?_ | refine AL.d (AOp.ll 0) ?_ | refine AL.d (AOp.lw 0) ?_) <;> refine AL.d AOp.ln ?_ <;> refine AL.e ?_ <;> refine AL.nil ?_)
      | refine AW.cond_true rfl ?_
      | refine AW.cond_false rfl ?_
      | refine AW.block ?_
      | refine AW.endblk ?_
      | refine AW.skip ?_
      | refine AW.exit rfl ?_
      | refine AW.label ?_
      | refine AW.j (fun hb => ?_) (fun hb => ?_))
    refine AW.prune [1, 3, 87, 88, 89] (AW.loop (fun m af h => ∃ (k : Nat) (u : Chk), k ≤ c.Body.length ∧ m = c.Body.length - k ∧ af = [(1, .at c.av), (3, .ref b 0), (87, .sl (c.Body.map GStmt.av)), (88, .int .i64 (c.Body.map GStmt.av).length), (89, .int .i64 k)] ∧ h = u.ah b ba bm g ∧ 0 ≤ u.cnt ∧ (u.bad = false → u.cnt ≤ 20000) ∧
      bodyP c.Body st = bodyP (c.Body.drop k) u) c.Body.length ⟨0, st, Nat.zero_le _, rfl, rfl, rfl, by omega, by omega, rfl⟩ ?_)
    rintro m af h ⟨k, u, hk, rfl, rfl, rfl, u0, u1, hu⟩
    refine AW.seq ?_
    by_cases hlt2 : k < c.Body.length
    · obtain ⟨x, hx⟩ := get_lt hlt2
      have hx' : (c.Body.map GStmt.av)[((k : Nat) : Int).toNat]? = some x.st := GStmt.get hx
      have hxo := hcb.2 x (List.mem_of_getElem? hx)
      rw [drop_cons hx, bodyP] at hu
      repeat' (first
        | refine AW.seq ?_
        | (refine AW.region_at 11 ?_ <;> refine AL.e ?_ <;> refine AL.nil ?_)
        | (refine AW.region_at 12 ?_ <;> refine AL.d (AOp.index_sl rfl rfl (by omega) hx' (by kernel_rfl) rfl) ?_ <;> (first | refine AL.d AOp.la ?_ | refine AL.d (AOp.ll 0) ?_ | refine AL.d (AOp.lw 0) ?_) <;> refine AL.alloc_store (by kernel_rfl) rfl rfl rfl rfl ?_ <;> refine AL.nil ?_)
        | (refine AW.region_at 13 ?_ <;> refine AL.e ?_ <;> refine AL.e ?_ <;> (first | refine AL.d AOp.fa ?_ | refine AL.d (AOp.fr 7) ?_) <;> (first | refine AL.d AOp.la ?_ | refine AL.d (AOp.ll 0) ?_ | refine AL.d (AOp.lw 0) ?_) <;> refine AL.nil ?_)
        | refine AW.cond_true rfl ?_
        | refine AW.cond_false rfl ?_
        | refine AW.block ?_
        | refine AW.endblk ?_
        | refine AW.skip ?_
        | refine AW.exit rfl ?_
        | refine AW.label ?_
        | refine AW.j (fun hb => ?_) (fun hb => ?_))
      all_goals try (exfalso; simp only [decide_eq_true_eq, decide_eq_false_iff_not, List.length_map] at *; omega)
      · simp only [hb, if_true] at hu
        repeat' (first
          | refine AW.seq ?_
          | (refine AW.region_at 16 ?_ <;> refine AL.e ?_ <;> refine AL.e ?_ <;> refine AL.nil ?_)
          | refine AW.cond_true rfl ?_
          | refine AW.cond_false rfl ?_
          | refine AW.block ?_
          | refine AW.endblk ?_
          | refine AW.skip ?_
          | refine AW.exit rfl ?_
          | refine AW.label ?_
          | refine AW.j (fun hb => ?_) (fun hb => ?_))
        first | exact AW.donev rfl ⟨_, _, _, rfl, by rw [hu]⟩ | exact AW.retv rfl ⟨_, _, _, rfl, by rw [hu]⟩
      · have h1 := chk_stmt b ba bm g (cntS x) x (Nat.le_refl _) hxo 1 (by omega) u ⟨u0, u1 hb⟩
        have h2 := stmtP_cnt x 1 u u0 (u1 hb)
        simp only [hb, Bool.false_eq_true, if_false] at hu
        repeat' (first
          | refine AW.seq ?_
          | (refine AW.region_at 14 ?_ <;> refine AL.e ?_ <;> (first | refine AL.d AOp.la ?_ | refine AL.d (AOp.ll 0) ?_ | refine AL.d (AOp.lw 0) ?_) <;> refine AL.d (AOp.call rfl rfl h1) ?_ <;> refine AL.nil ?_)
          | (refine AW.region_at 15 ?_ <;> refine AL.d AOp.ad ?_ <;> refine AL.e ?_ <;> refine AL.nil ?_)
          | refine AW.cond_true rfl ?_
          | refine AW.cond_false rfl ?_
          | refine AW.block ?_
          | refine AW.endblk ?_
          | refine AW.skip ?_
          | refine AW.exit rfl ?_
          | refine AW.label ?_
          | refine AW.j (fun hb => ?_) (fun hb => ?_))
        exact AW.again_keep (c.Body.length - (k + 1)) [1, 3, 87, 88, 89] (by omega) ⟨k + 1, _, hlt2, rfl, rfl, rfl, h2.1, h2.2.2, hu⟩
    · rw [List.drop_eq_nil_of_le (by omega), bodyP] at hu
      repeat' (first
        | refine AW.seq ?_
        | (refine AW.region_at 11 ?_ <;> refine AL.e ?_ <;> refine AL.nil ?_)
        | (refine AW.region_at 16 ?_ <;> refine AL.e ?_ <;> refine AL.e ?_ <;> refine AL.nil ?_)
        | refine AW.cond_true rfl ?_
        | refine AW.cond_false rfl ?_
        | refine AW.block ?_
        | refine AW.endblk ?_
        | refine AW.skip ?_
        | refine AW.exit rfl ?_
        | refine AW.label ?_
        | refine AW.j (fun hb => ?_) (fun hb => ?_))
      all_goals try (exfalso; simp only [decide_eq_true_eq, decide_eq_false_iff_not, List.length_map] at *; omega)
      first | exact AW.donev rfl ⟨_, _, _, rfl, by rw [hu]⟩ | exact AW.retv rfl ⟨_, _, _, rfl, by rw [hu]⟩
theorem code_Valid (c : GCode) (hc : c.Ok) : Tri Tryz.prog 39 [c.av] [] (D (.bool (!(checkedP c).bad)) []) := by
  have h := code_checked c hc
  refine Tri.enter 9 Tryz.func39 rfl rfl rfl rfl fun Fr w0 => ?_
  repeat' (first
    | refine AW.seq ?_
    | (refine AW.region_at 0 ?_ <;> refine AL.d (AOp.box_ro rfl rfl) ?_ <;> refine AL.e ?_ <;> refine AL.nil ?_)
    | refine AW.cond_true rfl ?_
    | refine AW.cond_false rfl ?_
    | refine AW.block ?_
    | refine AW.endblk ?_
    | refine AW.skip ?_
    | refine AW.exit rfl ?_
    | refine AW.label ?_
    | refine AW.j (fun hb => ?_) (fun hb => ?_))
  repeat' (first
    | refine AW.seq ?_
    | (refine AW.region_at 1 ?_ <;> (first | refine AL.d AOp.la ?_ | refine AL.d (AOp.ll 0) ?_ | refine AL.d (AOp.lw 0) ?_) <;> (refine AL.callQ rfl rfl h rfl ?_ ?_; rotate_left; rintro _ _ ⟨_, _, _, e, _⟩; cases e; rintro _ _ ⟨b, ba, bs, e, rfl⟩; injection e with e; subst e) <;> refine AL.e ?_ <;> (first | refine AL.d AOp.fa ?_ | refine AL.d (AOp.fr 7) ?_) <;> (first | refine AL.d AOp.la ?_ | refine AL.d (AOp.ll 0) ?_ | refine AL.d (AOp.lw 0) ?_) <;> refine AL.e ?_ <;> refine AL.e ?_ <;> refine AL.nil ?_)
    | refine AW.cond_true rfl ?_
    | refine AW.cond_false rfl ?_
    | refine AW.block ?_
    | refine AW.endblk ?_
    | refine AW.skip ?_
    | refine AW.exit rfl ?_
    | refine AW.label ?_
    | refine AW.j (fun hb => ?_) (fun hb => ?_))
  all_goals first | exact AW.ret_drop rfl (List.nil_sublist _) ⟨rfl, rfl⟩ | exact AW.done_drop rfl (List.nil_sublist _) ⟨rfl, rfl⟩
end Go.Proofs.YtdedkpfbfklgbaaGreat
namespace Go.Proofs.YtdedkpfbfklgbaaGreat
open Go.RowKit Go.SX
set_option maxRecDepth 100000
set_option maxHeartbeats 4000000
set_option linter.unusedVariables false
set_option linter.unusedSimpArgs false

/-- The symbol of a literal. -/
def litSym (A : Ar) (l : GLit) : Option (ByteArray × Int) := if l.Kind = 1 ∨ l.Kind = 2 then none else match A l.Name with | some _ => none | none => some (l.Name, l.At.length)
def symOk (S : List (ByteArray × Int)) : Option (ByteArray × Int) → Bool
  | none => true
  | some (k, n) => match lookA S k with | none => true | some m => decide (m = n)
def addSym (S : List (ByteArray × Int)) : Option (ByteArray × Int) → List (ByteArray × Int)
  | none => S
  | some (k, n) => setA S k n
def stSym (A : Ar) (s : GStmt) : Option (ByteArray × Int) := if s.Kind = 0 then litSym A s.Lit else none
theorem need_bad (st : Chk) (x : Bool) : (st.need x).bad = (st.bad || !x) := rfl
theorem regs_bad : ∀ (l : List Int) (st : Chk), (st.regs l).bad = (st.bad || !inB st.c.Regs l) ∧ (st.regs l).c = st.c ∧ (st.regs l).A = st.A ∧ (st.regs l).S = st.S
  | [], st => ⟨by simp [Chk.regs, inB], rfl, rfl, rfl⟩
  | r :: l, st => by
    have h := regs_bad l (st.need (inr st.c.Regs r))
    rw [Chk.regs]
    refine ⟨?_, h.2⟩
    refine h.1.trans ?_
    show ((st.bad || !inr st.c.Regs r) || !inB st.c.Regs l) = (st.bad || !(inr st.c.Regs r && inB st.c.Regs l))
    cases st.bad <;> cases inr st.c.Regs r <;> simp
theorem lit_bad (st : Chk) (l : GLit) : (st.lit l).bad = (st.bad || !(litB (lookA st.A) st.c.Regs l && symOk st.S (litSym (lookA st.A) l))) ∧ (st.lit l).c = st.c ∧ (st.lit l).A = st.A ∧ (st.lit l).S = addSym st.S (litSym (lookA st.A) l) := by
  have hr := regs_bad l.At st
  obtain ⟨r1, r2, r3, r4⟩ := hr
  unfold Chk.lit litB litSym
  simp only
  by_cases hk : l.Kind = 1 ∨ l.Kind = 2
  · simp only [if_pos hk]
    refine ⟨?_, r2, r3, r4⟩
    rw [need_bad, r1]
    simp only [symOk, Bool.and_true]
    generalize inB st.c.Regs l.At = b1
    generalize (decide (l.Name = ⟨#[]⟩) && decide (l.At.length = 2)) = b2
    cases st.bad <;> cases b1 <;> cases b2 <;> rfl
  · simp only [if_neg hk]
    generalize hs1 : st.regs l.At = s1 at *
    have e1 : (s1.need (decide (l.Kind = 0) && nameB l.Name && decide (l.At.length ≤ 12))).A = st.A := r3
    rw [e1]
    generalize hb0 : (decide (l.Kind = 0) && nameB l.Name && decide (l.At.length ≤ 12)) = b0
    cases hA : lookA st.A l.Name with
    | some n =>
      simp only [symOk, Bool.and_true]
      refine ⟨?_, r2, r3, r4⟩
      rw [need_bad, need_bad, r1]
      generalize inB st.c.Regs l.At = b1
      generalize decide (n = (l.At.length : Int)) = b2
      cases st.bad <;> cases b0 <;> cases b1 <;> cases b2 <;> rfl
    | none =>
      have e2 : (s1.need b0).S = st.S := r4
      simp only
      refine ⟨?_, r2, r3, ?_⟩
      · show ((s1.need b0).need (match lookA (s1.need b0).S l.Name with | none => true | some n => decide (n = l.At.length))).bad = _
        rw [e2, need_bad, need_bad, r1]
        simp only [symOk, Bool.and_true]
        generalize inB st.c.Regs l.At = b1
        generalize (match lookA st.S l.Name with | none => true | some m => decide (m = (l.At.length : Int))) = b2
        cases st.bad <;> cases b0 <;> cases b1 <;> cases b2 <;> rfl
      · show setA (s1.need b0).S l.Name l.At.length = _
        rw [e2]; rfl
structure Step (a b : Chk) (x : Bool) (S : List (ByteArray × Int)) : Prop where
  bad : b.bad = (a.bad || !x)
  c : b.c = a.c
  A : b.A = a.A
  S : b.S = S
theorem Step.then {a b d : Chk} {x y : Bool} {S S' : List (ByteArray × Int)} (h : Step a b x S) (k : Step b d y S') : Step a d (x && y) S' :=
  ⟨by rw [k.bad, h.bad]; cases a.bad <;> cases x <;> cases y <;> rfl, k.c.trans h.c, k.A.trans h.A, k.S⟩
theorem Step.need (a : Chk) (x : Bool) : Step a (a.need x) x a.S := ⟨rfl, rfl, rfl, rfl⟩
theorem Step.ite {a b : Chk} {x : Bool} (u : Bool) (h : Step a b x a.S) : Step a (if u = true then b else a) (!u || x) a.S := by
  cases u
  · exact ⟨by simp, rfl, rfl, rfl⟩
  · exact ⟨by simp [h.bad], by simp [h.c], by simp [h.A], by simp [h.S]⟩
theorem flds_step (st : Chk) (s : GStmt) (hk : 0 ≤ s.Kind ∧ s.Kind < 15) : Step st (st.flds s) (fldB (lookA st.A) st.c.Flags st.c.Regs s && symOk st.S (stSym (lookA st.A) s)) (addSym st.S (stSym (lookA st.A) s)) := by
  unfold Chk.flds
  simp only
  have ulit : (useOf s.Kind).lit = decide (s.Kind = 0) := by
    obtain ⟨h1, h2⟩ := hk
    have : s.Kind = 0 ∨ s.Kind = 1 ∨ s.Kind = 2 ∨ s.Kind = 3 ∨ s.Kind = 4 ∨ s.Kind = 5 ∨ s.Kind = 6 ∨ s.Kind = 7 ∨ s.Kind = 8 ∨ s.Kind = 9 ∨ s.Kind = 10 ∨ s.Kind = 11 ∨ s.Kind = 12 ∨ s.Kind = 13 ∨ s.Kind = 14 := by omega
    rcases this with h | h | h | h | h | h | h | h | h | h | h | h | h | h | h <;> (rw [h]; rfl)
  have hfold : fldB (lookA st.A) st.c.Flags st.c.Regs s = (let u := useOf s.Kind
    zeroB s && (!u.f || inr st.c.Flags s.F) && (!(u.g && decide (s.Kind ≠ 4)) || inr st.c.Flags s.G) && (!decide (s.Kind = 4) || (decide (s.G = 0) || decide (s.G = 1))) && (!u.r || inr st.c.Regs s.R) && (decide (0 ≤ s.N) && decide (s.N ≤ 12)) && (!u.lit || litB (lookA st.A) st.c.Regs s.Lit) && inB st.c.Regs s.Regs && (!u.name || (lookA st.A s.Name).isSome) && (!u.regs || decide ((lookA st.A s.Name).getD 0 = s.Regs.length)) && (!u.frm || (lookA st.A s.From).isSome && decide ((lookA st.A s.Name).getD 0 = (lookA st.A s.From).getD 0))) := rfl
  rw [hfold]
  simp only
  obtain ⟨u, hu⟩ : ∃ u, u = useOf s.Kind := ⟨_, rfl⟩
  rw [← hu] at ulit ⊢
  obtain ⟨a1, e1⟩ : ∃ x, x = st.need (zeroB s) := ⟨_, rfl⟩
  rw [← e1]
  obtain ⟨a2, e2⟩ : ∃ x, x = (if u.f = true then a1.flag s.F else a1) := ⟨_, rfl⟩
  rw [← e2]
  obtain ⟨a3, e3⟩ : ∃ x, x = (if (u.g && decide (s.Kind ≠ 4)) = true then a2.flag s.G else a2) := ⟨_, rfl⟩
  rw [← e3]
  obtain ⟨a4, e4⟩ : ∃ x, x = (if s.Kind = 4 then a3.need (decide (s.G = 0) || decide (s.G = 1)) else a3) := ⟨_, rfl⟩
  rw [← e4]
  obtain ⟨a5, e5⟩ : ∃ x, x = (if u.r = true then a4.regs [s.R] else a4) := ⟨_, rfl⟩
  rw [← e5]
  obtain ⟨a6, e6⟩ : ∃ x, x = (a5.need (decide (0 ≤ s.N) && decide (s.N ≤ 12))) := ⟨_, rfl⟩
  rw [← e6]
  obtain ⟨a7, e7⟩ : ∃ x, x = (if u.lit = true then a6.lit s.Lit else a6) := ⟨_, rfl⟩
  rw [← e7]
  obtain ⟨a8, e8⟩ : ∃ x, x = (a7.regs s.Regs) := ⟨_, rfl⟩
  rw [← e8]
  obtain ⟨a9, e9⟩ : ∃ x, x = a8.need (!u.name || (lookA a8.A s.Name).isSome) := ⟨_, rfl⟩
  rw [← e9]
  obtain ⟨a10, e10⟩ : ∃ x, x = a9.need (!u.regs || decide ((lookA a8.A s.Name).getD 0 = s.Regs.length)) := ⟨_, rfl⟩
  rw [← e10]
  have x1 : Step st a1 (zeroB s) st.S := by rw [e1]; exact Step.need _ _
  have x2 : Step a1 a2 (!u.f || inr st.c.Flags s.F) a1.S := by rw [e2, ← x1.c]; exact Step.ite _ (Step.need _ _)
  have y2 := x1.then x2
  have x3 : Step a2 a3 (!(u.g && decide (s.Kind ≠ 4)) || inr st.c.Flags s.G) a2.S := by rw [e3, ← y2.c]; exact Step.ite _ (Step.need _ _)
  have y3 := y2.then x3
  have x4 : Step a3 a4 (!decide (s.Kind = 4) || (decide (s.G = 0) || decide (s.G = 1))) a3.S := by
    have : a4 = (if decide (s.Kind = 4) = true then a3.need (decide (s.G = 0) || decide (s.G = 1)) else a3) := by rw [e4]; simp only [decide_eq_true_eq]
    rw [this]; exact Step.ite _ (Step.need _ _)
  have y4 := y3.then x4
  have x5 : Step a4 a5 (!u.r || inr st.c.Regs s.R) a4.S := by
    rw [e5, ← y4.c]
    have h := regs_bad [s.R] a4
    have hi : inB a4.c.Regs [s.R] = inr a4.c.Regs s.R := by simp [inB]
    rw [hi] at h
    exact Step.ite _ ⟨h.1, h.2.1, h.2.2.1, h.2.2.2⟩
  have y5 := y4.then x5
  have x6 : Step a5 a6 (decide (0 ≤ s.N) && decide (s.N ≤ 12)) a5.S := by rw [e6]; exact Step.need _ _
  have y6 := y5.then x6
  have hS6 : a6.S = st.S := by rw [x6.S, x5.S, x4.S, x3.S, x2.S, x1.S]
  have x7 : Step a6 a7 ((!u.lit || litB (lookA st.A) st.c.Regs s.Lit) && symOk st.S (stSym (lookA st.A) s)) (addSym st.S (stSym (lookA st.A) s)) := by
    have h := lit_bad a6 s.Lit
    rw [y6.c, y6.A, hS6] at h
    rw [e7, stSym]
    by_cases hz : s.Kind = 0
    · rw [ulit, if_pos hz, hz]
      simp only [decide_true, if_true, Bool.not_true, Bool.false_or]
      exact ⟨h.1, h.2.1.trans y6.c.symm, h.2.2.1.trans y6.A.symm, h.2.2.2⟩
    · rw [ulit, if_neg hz]
      simp only [hz, decide_false, Bool.false_eq_true, if_false, Bool.not_false, Bool.true_or, symOk, addSym, Bool.and_true]
      exact ⟨by simp, rfl, rfl, hS6⟩
  have y7 := y6.then x7
  have x8 : Step a7 a8 (inB st.c.Regs s.Regs) (addSym st.S (stSym (lookA st.A) s)) := by
    rw [e8, ← y7.c]
    have h := regs_bad s.Regs a7
    exact ⟨h.1, h.2.1, h.2.2.1, h.2.2.2.trans x7.S⟩
  have y8 := y7.then x8
  have x9 : Step a8 a9 (!u.name || (lookA st.A s.Name).isSome) (addSym st.S (stSym (lookA st.A) s)) := by rw [e9, y8.A]; exact ⟨rfl, rfl, rfl, x8.S⟩
  have y9 := y8.then x9
  have x10 : Step a9 a10 (!u.regs || decide ((lookA st.A s.Name).getD 0 = s.Regs.length)) (addSym st.S (stSym (lookA st.A) s)) := by rw [e10, y8.A]; exact ⟨rfl, rfl, rfl, x9.S⟩
  have y10 := y9.then x10
  have x11 : Step a10 (if u.frm = true then a10.need ((lookA a10.A s.From).isSome && decide ((lookA a8.A s.Name).getD 0 = (lookA a10.A s.From).getD 0)) else a10) (!u.frm || (lookA st.A s.From).isSome && decide ((lookA st.A s.Name).getD 0 = (lookA st.A s.From).getD 0)) a10.S := by
    rw [y10.A, y8.A]; exact Step.ite _ (Step.need _ _)
  have y11 := y10.then x11
  refine ⟨?_, y11.c, y11.A, y11.S.trans x10.S⟩
  rw [y11.bad]
  congr 1
  congr 1
  generalize symOk st.S (stSym (lookA st.A) s) = q
  generalize (!u.frm || (lookA st.A s.From).isSome && decide ((lookA st.A s.Name).getD 0 = (lookA st.A s.From).getD 0)) = b11
  generalize (!u.regs || decide ((lookA st.A s.Name).getD 0 = s.Regs.length)) = b10
  generalize (!u.name || (lookA st.A s.Name).isSome) = b9
  generalize inB st.c.Regs s.Regs = b8
  generalize (!u.lit || litB (lookA st.A) st.c.Regs s.Lit) = b7
  cases q <;> simp
end Go.Proofs.YtdedkpfbfklgbaaGreat
namespace Go.Proofs.YtdedkpfbfklgbaaGreat
open Go.RowKit Go.SX
set_option maxRecDepth 100000
set_option linter.unusedVariables false
set_option linter.unusedSimpArgs false

/-- What a run's course depends on, beside the statements. -/
structure Env where
  n : Int
  G : List Bool
  fuel : Int
structure MS where
  flags : List Bool
  regs : List Int
  rels : ByteArray → List Bool
  used : Int
  steps : Int
/-- Where it lies. -/
structure Blk where
  mb : Nat
  fb : Nat
  rb : Nat
  lb : Nat
  ub : Nat
  names : List ByteArray
  bk : ByteArray → Nat
  gl : MG
  gu : MG
def runKV : List (AV × AV) := [(.int .i64 0, .fn 68 []), (.int .i64 1, .fn 70 []), (.int .i64 2, .fn 71 []), (.int .i64 3, .fn 72 []), (.int .i64 4, .fn 73 []), (.int .i64 5, .fn 74 []), (.int .i64 6, .fn 75 []), (.int .i64 7, .fn 77 []), (.int .i64 8, .fn 78 []), (.int .i64 9, .fn 79 []), (.int .i64 10, .fn 80 []), (.int .i64 11, .fn 82 []), (.int .i64 12, .fn 83 []), (.int .i64 13, .fn 84 []), (.int .i64 14, .fn 85 [])]
def oslv (q : Nat × Nat) : AV := .osl q.1 q.2 q.2
def relA (B : Blk) (m : MS) : List (ByteArray × (Nat × Nat)) := B.names.map fun k => (k, (B.bk k, (m.rels k).length))
def MS.box (E : Env) (B : Blk) (m : MS) : AV := .st [.int .i64 E.n, .osl B.fb m.flags.length m.flags.length, .osl B.rb m.regs.length m.regs.length, .map B.lb, bools E.G, .int .i64 m.used, .int .i64 m.steps, .int .i64 E.fuel, .map B.ub]
def MS.ah (E : Env) (B : Blk) (m : MS) : AH := .box B.mb (m.box E B) :: .row B.fb (m.flags.map bav) :: .row B.rb (m.regs.map iav) :: .map B.lb (kvW oslv (relA B m)) B.gl :: .map B.ub runKV B.gu :: B.names.map fun k => .row (B.bk k) ((m.rels k).map bav)

def upd (f : ByteArray → List Bool) (k : ByteArray) (xs : List Bool) : ByteArray → List Bool := fun k' => if k' = k then xs else f k'
theorem upd_same (f : ByteArray → List Bool) (k : ByteArray) (xs : List Bool) : upd f k xs k = xs := by simp [upd]
theorem upd_ne (f : ByteArray → List Bool) {k k' : ByteArray} (xs : List Bool) (h : k' ≠ k) : upd f k xs k' = f k' := by simp [upd, h]
theorem look_rel (B : Blk) (m : MS) {k : ByteArray} (h : k ∈ B.names) : lookA (relA B m) k = some (B.bk k, (m.rels k).length) := by
  unfold relA
  generalize B.names = l at h
  induction l with
  | nil => cases h
  | cons a l ih =>
    simp only [List.map_cons, lookA]
    by_cases hk : k = a
    · subst hk; simp
    · rw [if_neg hk]; exact ih (by simpa [hk] using h)
theorem row_at (E : Env) (B : Blk) (m : MS) {k : ByteArray} (h : k ∈ B.names) : ∃ j, B.names[j]? = some k ∧ (m.ah E B)[j + 5]? = some (.row (B.bk k) ((m.rels k).map bav)) := by
  obtain ⟨j, hj⟩ := List.getElem?_of_mem h
  exact ⟨j, hj, by show (B.names.map _)[j]? = _; rw [List.getElem?_map, hj]; rfl⟩
theorem map_set {α β : Type} [DecidableEq α] {l : List α} (hn : l.Nodup) {f g : α → β} {j : Nat} {k : α} (hj : l[j]? = some k) (h : ∀ a, a ≠ k → g a = f a) : (l.map f).set j (g k) = l.map g := by
  induction l generalizing j with
  | nil => cases hj
  | cons a l ih =>
    rw [List.nodup_cons] at hn
    cases j with
    | zero =>
      simp only [List.getElem?_cons_zero, Option.some.injEq] at hj
      subst hj
      simp only [List.map_cons, List.set_cons_zero]
      congr 1
      exact List.map_congr_left fun b hb => (h b fun e => hn.1 (e ▸ hb)).symm
    | succ j =>
      simp only [List.getElem?_cons_succ] at hj
      simp only [List.map_cons, List.set_cons_succ]
      rw [ih hn.2 hj, h a fun e => hn.1 (by rw [e]; exact List.mem_of_getElem? hj)]
theorem ah_setrow (E : Env) (B : Blk) (m : MS) {k : ByteArray} {j : Nat} (hn : B.names.Nodup) (hj : B.names[j]? = some k) (xs : List Bool) (hl : xs.length = (m.rels k).length) :
    (m.ah E B).set (j + 5) (.row (B.bk k) (xs.map bav)) = ({ m with rels := upd m.rels k xs } : MS).ah E B := by
  have h1 : relA B { m with rels := upd m.rels k xs } = relA B m := by
    unfold relA
    refine List.map_congr_left fun a _ => ?_
    by_cases ha : a = k
    · subst ha; simp [upd_same, hl]
    · simp [upd_ne _ _ ha]
  unfold MS.ah
  rw [h1]
  simp only [List.set_cons_succ]
  have := map_set (f := fun k => Own.row (B.bk k) ((m.rels k).map bav)) (g := fun a => Own.row (B.bk a) ((upd m.rels k xs a).map bav)) hn hj (fun a ha => by simp [upd_ne _ _ ha])
  simp only [upd_same] at this
  rw [this]
  rfl

def regAt (regs : List Int) (x : Int) : Int := (regs[x.toNat]?).getD 0
def flagAt (fl : List Bool) (x : Int) : Bool := (fl[x.toNat]?).getD false
def rankM (n : Int) (regs : List Int) : List Int → Int → Int
  | [], r => r
  | x :: l, r => rankM n regs l (r * n + regAt regs x)
def holdsM (n : Int) (m : MS) (l : GLit) : Bool :=
  (if l.Kind = 0 then flagAt (m.rels l.Name) (rankM n m.regs l.At 0) else if l.Kind = 1 then decide (regAt m.regs (l.At.getD 0 0) = regAt m.regs (l.At.getD 1 0)) else decide (regAt m.regs (l.At.getD 0 0) < regAt m.regs (l.At.getD 1 0))) != l.Neg
def MS.setF (m : MS) (f : Int) (b : Bool) : MS := { m with flags := m.flags.set f.toNat b }
/-- What a statement without parts does. -/
def prim (n : Int) (s : GStmt) (m : MS) : MS :=
  if s.Kind = 0 then m.setF s.F (holdsM n m s.Lit)
  else if s.Kind = 1 then m.setF s.F (!flagAt m.flags s.G)
  else if s.Kind = 2 then m.setF s.F (flagAt m.flags s.F && flagAt m.flags s.G)
  else if s.Kind = 3 then m.setF s.F (flagAt m.flags s.F || flagAt m.flags s.G)
  else if s.Kind = 4 then m.setF s.F (decide (s.G = 1))
  else if s.Kind = 5 then m.setF s.F (flagAt m.flags s.G)
  else if s.Kind = 6 then { m with rels := upd m.rels s.Name ((m.rels s.Name).set (rankM n m.regs s.Regs 0).toNat (flagAt m.flags s.F)) }
  else if s.Kind = 11 then { m with rels := upd m.rels s.Name (List.replicate (m.rels s.Name).length false) }
  else if s.Kind = 13 then { m with rels := upd m.rels s.Name (m.rels s.From) }
  else m.setF s.F (decide (m.rels s.Name = m.rels s.From))
def isPrim (k : Int) : Prop := 0 ≤ k ∧ k ≤ 6 ∨ k = 11 ∨ k = 13 ∨ k = 14
/-- A statement's own fields fit: F flags, R registers, sig the arrays' and symbols' arities. -/
structure Fit (F R : Nat) (sig : ByteArray → Option Nat) (s : GStmt) : Prop where
  kind : 0 ≤ s.Kind ∧ s.Kind < 15
  f : (useOf s.Kind).f = true → 0 ≤ s.F ∧ s.F < F
  g : (useOf s.Kind).g = true → s.Kind ≠ 4 → 0 ≤ s.G ∧ s.G < F
  r : (useOf s.Kind).r = true → 0 ≤ s.R ∧ s.R < R
  n : 0 ≤ s.N ∧ s.N ≤ 12
  name : (useOf s.Kind).name = true → ∃ a, sig s.Name = some a
  store : (useOf s.Kind).regs = true → sig s.Name = some s.Regs.length
  regs : ∀ x ∈ s.Regs, 0 ≤ x ∧ x < R
  frm : (useOf s.Kind).frm = true → sig s.From = sig s.Name
  lit : (useOf s.Kind).lit = true → (∀ x ∈ s.Lit.At, 0 ≤ x ∧ x < R) ∧ (if s.Lit.Kind = 1 ∨ s.Lit.Kind = 2 then s.Lit.At.length = 2 else s.Lit.Kind = 0 ∧ sig s.Lit.Name = some s.Lit.At.length)
inductive SFit (F R : Nat) (sig : ByteArray → Option Nat) : GStmt → Prop
  | mk {s : GStmt} (h : Fit F R sig s) (hb : ∀ x ∈ s.Body, SFit F R sig x) (he : ∀ x ∈ s.Else, SFit F R sig x) : SFit F R sig s
/-- A state fits. -/
structure MFit (F R : Nat) (sig : ByteArray → Option Nat) (E : Env) (B : Blk) (m : MS) : Prop where
  n : 1 ≤ E.n ∧ E.n ≤ 64
  fuel : 0 ≤ E.fuel ∧ E.fuel ≤ 10000000
  glen : E.G.length ≤ 4611686018427387904
  flen : m.flags.length = F
  fl : 1 ≤ F ∧ F ≤ 1000
  rlen : m.regs.length = R
  rl : R ≤ 60
  regs : ∀ x ∈ m.regs, 0 ≤ x ∧ x < E.n
  used : 0 ≤ m.used ∧ m.used ≤ E.G.length
  steps : 0 ≤ m.steps ∧ m.steps ≤ E.fuel
  nodup : B.names.Nodup
  sig : ∀ k a, sig k = some a → k ∈ B.names ∧ ((m.rels k).length : Int) = E.n ^ a ∧ E.n ^ a ≤ 4096
end Go.Proofs.YtdedkpfbfklgbaaGreat
