/-
  DERIVED. GIVEN WITH THE SEED: THE CARDS: each row of YtlpndgodkkndnaaDoorRows.lean that lists a variable, with what it lists TIED to the program's text (the seventh form; the later family's looks); each row that meets fmt, with fmt's text TOLD by the authors' own Lean function (tested against real Go, not proved from fmt's source: count such statements apart). THE CARD IS WHAT COUNTS. Prove the row's statement (the work); the ties are given (YtlpndgodkkndnaaDoorTie.lean); close each card by the builder's one call (the guide's Derived/Test/ToyasCard.lean, 'card_holds'). Laid BY PROGRAM, IN A SANDBOX (cutbox-door.mjs). By AI agents, Wed Nov 11 2026. No macro, syntax, notation, axiom, sorry.
-/
import Derived.Test.YtlpndgodkkndnaaDoorRows
import GoSem.ClaimSeven
namespace Go.Proofs.YtlpndgodkkndnaaDoor
namespace Rows

/-- THE TIED CARD OF 'paraphrastlaw04.NormNnf'. -/
def normNnfCard : Claim7 := { stood := { row := normNnfRow, standIns := [], harness := (true, "60e79110bd254f2341307feafa6db218e4d8e26ea0e31b23b109aafff6592c22"), looks := false }, kinds := [], alts := [], laidByText := true, laidKinds := [.data, .data, .data], laidTests := true, laidLooks := .later }
def NormNnfCardSaid : Prop := Claim7.holds Tryd.pinned (.plain (OpenSpec.ofChange normNnfSpec)) normNnfCard

/-- THE TIED CARD OF 'paraphrastlaw04.NormAgain'. -/
def normAgainCard : Claim7 := { stood := { row := normAgainRow, standIns := [], harness := (true, "60e79110bd254f2341307feafa6db218e4d8e26ea0e31b23b109aafff6592c22"), looks := false }, kinds := [], alts := [], laidByText := true, laidKinds := [.data, .data, .data], laidTests := true, laidLooks := .later }
def NormAgainCardSaid : Prop := Claim7.holds Tryd.pinned (.plain (OpenSpec.ofChange normAgainSpec)) normAgainCard

/-- THE TIED CARD OF 'paraphrastlaw04.NormRanks'. -/
def normRanksCard : Claim7 := { stood := { row := normRanksRow, standIns := [], harness := (true, "60e79110bd254f2341307feafa6db218e4d8e26ea0e31b23b109aafff6592c22"), looks := false }, kinds := [], alts := [], laidByText := true, laidKinds := [.data, .data, .data], laidTests := true, laidLooks := .later }
def NormRanksCardSaid : Prop := Claim7.holds Tryd.pinned (.plain (OpenSpec.ofChange normRanksSpec)) normRanksCard

/-- THE TIED CARD OF 'paraphrastlaw04.NormRenames'. -/
def normRenamesCard : Claim7 := { stood := { row := normRenamesRow, standIns := [], harness := (true, "60e79110bd254f2341307feafa6db218e4d8e26ea0e31b23b109aafff6592c22"), looks := false }, kinds := [], alts := [], laidByText := true, laidKinds := [.data, .data, .data], laidTests := true, laidLooks := .later }
def NormRenamesCardSaid : Prop := Claim7.holds Tryd.pinned (.plain (OpenSpec.ofChange normRenamesSpec)) normRenamesCard

/-- THE TIED CARD OF 'paraphrastlaw04.NormApart'. -/
def normApartCard : Claim7 := { stood := { row := normApartRow, standIns := [], harness := (true, "60e79110bd254f2341307feafa6db218e4d8e26ea0e31b23b109aafff6592c22"), looks := false }, kinds := [], alts := [], laidByText := true, laidKinds := [.data, .data, .data], laidTests := true, laidLooks := .later }
def NormApartCardSaid : Prop := Claim7.holds Tryd.pinned (.plain (OpenSpec.ofChange normApartSpec)) normApartCard

/-- THE SECOND FORM's CARD OF 'paraphrastlaw04.NormNnf'. -/
def normNnfUptoCard : Claim7 := { stood := { row := normNnfUptoRow, standIns := [], harness := (true, "60e79110bd254f2341307feafa6db218e4d8e26ea0e31b23b109aafff6592c22"), looks := false }, kinds := [], alts := [], laidByText := true, laidKinds := [.data, .data, .data], laidTests := true, laidLooks := .later }
def NormNnfUptoCardSaid : Prop := Claim7.holds Tryd.pinned (.plain (OpenSpec.upto normNnfSpec)) normNnfUptoCard

/-- THE SECOND FORM's CARD OF 'paraphrastlaw04.NormAgain'. -/
def normAgainUptoCard : Claim7 := { stood := { row := normAgainUptoRow, standIns := [], harness := (true, "60e79110bd254f2341307feafa6db218e4d8e26ea0e31b23b109aafff6592c22"), looks := false }, kinds := [], alts := [], laidByText := true, laidKinds := [.data, .data, .data], laidTests := true, laidLooks := .later }
def NormAgainUptoCardSaid : Prop := Claim7.holds Tryd.pinned (.plain (OpenSpec.upto normAgainSpec)) normAgainUptoCard

/-- THE SECOND FORM's CARD OF 'paraphrastlaw04.NormRanks'. -/
def normRanksUptoCard : Claim7 := { stood := { row := normRanksUptoRow, standIns := [], harness := (true, "60e79110bd254f2341307feafa6db218e4d8e26ea0e31b23b109aafff6592c22"), looks := false }, kinds := [], alts := [], laidByText := true, laidKinds := [.data, .data, .data], laidTests := true, laidLooks := .later }
def NormRanksUptoCardSaid : Prop := Claim7.holds Tryd.pinned (.plain (OpenSpec.upto normRanksSpec)) normRanksUptoCard

/-- THE SECOND FORM's CARD OF 'paraphrastlaw04.NormRenames'. -/
def normRenamesUptoCard : Claim7 := { stood := { row := normRenamesUptoRow, standIns := [], harness := (true, "60e79110bd254f2341307feafa6db218e4d8e26ea0e31b23b109aafff6592c22"), looks := false }, kinds := [], alts := [], laidByText := true, laidKinds := [.data, .data, .data], laidTests := true, laidLooks := .later }
def NormRenamesUptoCardSaid : Prop := Claim7.holds Tryd.pinned (.plain (OpenSpec.upto normRenamesSpec)) normRenamesUptoCard

/-- THE SECOND FORM's CARD OF 'paraphrastlaw04.NormApart'. -/
def normApartUptoCard : Claim7 := { stood := { row := normApartUptoRow, standIns := [], harness := (true, "60e79110bd254f2341307feafa6db218e4d8e26ea0e31b23b109aafff6592c22"), looks := false }, kinds := [], alts := [], laidByText := true, laidKinds := [.data, .data, .data], laidTests := true, laidLooks := .later }
def NormApartUptoCardSaid : Prop := Claim7.holds Tryd.pinned (.plain (OpenSpec.upto normApartSpec)) normApartUptoCard
end Rows
end Go.Proofs.YtlpndgodkkndnaaDoor
