/-
  NARROWER THAN 'FOR EVERY INPUT', by the rows' own cells (each row's printed sentence says how): CodeRuns: loops · CodeTimes: loops.
  DERIVED. THE GIVEN ROWS OF THIS SEAT. 2 by the template 'for every input the law returns true; each argument reads behind the call as it read before'; 0 by the template 'total and deterministic' (their statements: YtdedkpfbfklgbaaGreatTotals.lean).
  GIVEN WITH THE SEED: the statements are not yours to turn. If you find one false, say at which input.
  Laid BY PROGRAM, IN A SANDBOX (cutbox-rows.mjs): the forced cells as the released guide's own fill.sh prints them over the translation 6113e542a410017b… (all of the seat's roots in one cut). By AI agents, Wed Nov 11 2026. No macro, syntax, notation, axiom, sorry.
-/
import Derived.Test.YtdedkpfbfklgbaaGreatChecked
import GoSem.Claim
import GoSem.ClaimJoined
import GoSem.ClaimMapViews
import Derived.JoinedTies
import Derived.KernelRfl
namespace Go.Proofs.YtdedkpfbfklgbaaGreat
/- THE CELL 'sum', in the pinned program and in every row, IS THE sha256 OF THE DUMP (.gsa) THAT YtdedkpfbfklgbaaGreatProg.lean LOADS. Nothing in Lean hashes anything: it is a label: what it is worth is what the hold of that sum in a sandbox is worth. -/
noncomputable def Tryz.pinned : Pinned := { name := "ytdedkpfbfklgbaagreat", sum := "6113e542a410017ba81aeb52947c8a3065f18a0564c59ded1b7231499303cdf6", checked := Tryz.checked }
namespace Rows
def none {H : Type} : Left H := { results := [], args := [] }

/-- 'paraphrastlaw10.CodeRuns': WHATEVER THE INPUT: true; the input reads as it did. -/
def codeRunsSpec : ChangeSpec := { name := "codeRuns", fn := fun _ => fun
  | [d1, d2, d3] => { results := [.lit (.bool true)], args := [d1, d2, d3] }
  | _ => none }
def codeRunsRow : OpenClaim := { program := "ytdedkpfbfklgbaagreat", sum := "6113e542a410017ba81aeb52947c8a3065f18a0564c59ded1b7231499303cdf6", func := "paraphrast/paraphrastlaw10.CodeRuns", spec := "codeRuns", unfollowed := true, recurses := true, loops := true, apart := false }
def CodeRunsSaid : Prop := codeRunsRow.holds Tryz.pinned (OpenSpec.ofChange codeRunsSpec)

/-- ITS FALSE NEIGHBOUR: 'it returns false'. Refute it at one input. -/
def codeRunsWrong : ChangeSpec := { name := "codeRuns", fn := fun _ => fun
  | [d1, d2, d3] => { results := [.lit (.bool false)], args := [d1, d2, d3] }
  | _ => none }
def CodeRunsWrongFalsely : Prop := codeRunsRow.holds Tryz.pinned (OpenSpec.ofChange codeRunsWrong)

/-- 'paraphrastlaw10.CodeTimes': WHATEVER THE INPUT: true; the input reads as it did. -/
def codeTimesSpec : ChangeSpec := { name := "codeTimes", fn := fun _ => fun
  | [d1, d2] => { results := [.lit (.bool true)], args := [d1, d2] }
  | _ => none }
def codeTimesRow : OpenClaim := { program := "ytdedkpfbfklgbaagreat", sum := "6113e542a410017ba81aeb52947c8a3065f18a0564c59ded1b7231499303cdf6", func := "paraphrast/paraphrastlaw10.CodeTimes", spec := "codeTimes", unfollowed := true, recurses := true, loops := true, apart := false }
def CodeTimesSaid : Prop := codeTimesRow.holds Tryz.pinned (OpenSpec.ofChange codeTimesSpec)

/-- ITS FALSE NEIGHBOUR: 'it returns false'. Refute it at one input. -/
def codeTimesWrong : ChangeSpec := { name := "codeTimes", fn := fun _ => fun
  | [d1, d2] => { results := [.lit (.bool false)], args := [d1, d2] }
  | _ => none }
def CodeTimesWrongFalsely : Prop := codeTimesRow.holds Tryz.pinned (OpenSpec.ofChange codeTimesWrong)

/- THE SECOND FORM. 'bulk': how many values and letters a reading holds, each counted each time it is reached (what is shared counts as often as it is met; a slice's spare places count too). A statement '..UptoSaid' is the law's where the arguments, and the package variables that the reading takes, are together of bulk at most 1048576: NARROWER than '..Said'. Prove '..Said' where nothing that the law and all that it calls make is longer than what came in: it says more and counts as full. Else prove '..UptoSaid'. A law counts once. -/
mutual
def uptoBulk {H : Type} : DataW H → Nat
  | .lit (.string bytes) => bytes.length + 1
  | .lit _ => 1
  | .nil => 1
  | .ptr d => uptoBulk d + 1
  | .slice elems spare => uptoBulkAll elems + uptoBulkAll spare + 1
  | .agg parts => uptoBulkAll parts + 1
  | .iface _ d => uptoBulk d + 1
  | .map entries => uptoBulkEntries entries + 1
  | .held _ => 1
def uptoBulkAll {H : Type} : List (DataW H) → Nat
  | [] => 0
  | d :: r => uptoBulk d + uptoBulkAll r
def uptoBulkEntries {H : Type} : List (Lit × DataW H) → Nat
  | [] => 0
  | x :: r => uptoBulkEntry x + uptoBulkEntries r
def uptoBulkEntry {H : Type} : Lit × DataW H → Nat
  | (.string bytes, d) => bytes.length + uptoBulk d + 1
  | (_, d) => uptoBulk d + 1
 end
def uptoSmall : (H : Type) → List (DataW H) → Bool := fun _ ds => decide (uptoBulkAll ds ≤ 1048576)
def OpenSpec.upto (s : _root_.Go.ChangeSpec) : _root_.Go.OpenSpec := { _root_.Go.OpenSpec.ofChange s with cond := some uptoSmall }

/-- 'paraphrastlaw10.CodeRuns', WHERE WHAT IT READS IS OF BULK AT MOST 1048576: true; the input reads as it did. -/
def codeRunsUptoRow : OpenClaim := { program := "ytdedkpfbfklgbaagreat", sum := "6113e542a410017ba81aeb52947c8a3065f18a0564c59ded1b7231499303cdf6", func := "paraphrast/paraphrastlaw10.CodeRuns", spec := "codeRuns", unfollowed := true, recurses := true, loops := true, apart := false, narrowed := true }
def CodeRunsUptoSaid : Prop := codeRunsUptoRow.holds Tryz.pinned (OpenSpec.upto codeRunsSpec)

/-- 'paraphrastlaw10.CodeTimes', WHERE WHAT IT READS IS OF BULK AT MOST 1048576: true; the input reads as it did. -/
def codeTimesUptoRow : OpenClaim := { program := "ytdedkpfbfklgbaagreat", sum := "6113e542a410017ba81aeb52947c8a3065f18a0564c59ded1b7231499303cdf6", func := "paraphrast/paraphrastlaw10.CodeTimes", spec := "codeTimes", unfollowed := true, recurses := true, loops := true, apart := false, narrowed := true }
def CodeTimesUptoSaid : Prop := codeTimesUptoRow.holds Tryz.pinned (OpenSpec.upto codeTimesSpec)

end Rows
end Go.Proofs.YtdedkpfbfklgbaaGreat
