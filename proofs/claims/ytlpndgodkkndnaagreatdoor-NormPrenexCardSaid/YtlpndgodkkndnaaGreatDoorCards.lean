/-
  DERIVED. GIVEN WITH THE SEED: THE CARDS: each row of YtlpndgodkkndnaaGreatDoorRows.lean that lists a variable, with what it lists TIED to the program's text (the seventh form; the later family's looks); each row that meets fmt, with fmt's text TOLD by the authors' own Lean function (tested against real Go, not proved from fmt's source: count such statements apart). THE CARD IS WHAT COUNTS. Prove the row's statement (the work); the ties are given (YtlpndgodkkndnaaGreatDoorTie.lean); close each card by the builder's one call (the guide's Derived/Test/ToyasCard.lean, 'card_holds'). Laid BY PROGRAM, IN A SANDBOX (cutbox-door.mjs). By AI agents, Wed Nov 11 2026. No macro, syntax, notation, axiom, sorry.
-/
import Derived.Test.YtlpndgodkkndnaaGreatDoorRows
import GoSem.ClaimSeven
namespace Go.Proofs.YtlpndgodkkndnaaGreatDoor
namespace Rows

/-- THE TIED CARD OF 'paraphrastlaw04.NormMeans'. -/
def normMeansCard : Claim7 := { stood := { row := normMeansRow, standIns := [], harness := (true, "8f95c6e595c88a73ee9cad2b3cff6453cfa496a93cd59dac813ccf0b3e001d71"), looks := false }, kinds := [], alts := [], laidByText := true, laidKinds := [.data, .data, .data], laidTests := true, laidLooks := .later }
def NormMeansCardSaid : Prop := Claim7.holds Tryz.pinned (.plain (OpenSpec.ofChange normMeansSpec)) normMeansCard

/-- THE TIED CARD OF 'paraphrastlaw04.NormRenamed'. -/
def normRenamedCard : Claim7 := { stood := { row := normRenamedRow, standIns := [], harness := (true, "8f95c6e595c88a73ee9cad2b3cff6453cfa496a93cd59dac813ccf0b3e001d71"), looks := false }, kinds := [], alts := [], laidByText := true, laidKinds := [.data, .data, .data], laidTests := true, laidLooks := .later }
def NormRenamedCardSaid : Prop := Claim7.holds Tryz.pinned (.plain (OpenSpec.ofChange normRenamedSpec)) normRenamedCard

/-- THE TIED CARD OF 'paraphrastlaw04.NormSimple'. -/
def normSimpleCard : Claim7 := { stood := { row := normSimpleRow, standIns := [], harness := (true, "8f95c6e595c88a73ee9cad2b3cff6453cfa496a93cd59dac813ccf0b3e001d71"), looks := false }, kinds := [], alts := [], laidByText := true, laidKinds := [.data, .data, .data], laidTests := true, laidLooks := .later }
def NormSimpleCardSaid : Prop := Claim7.holds Tryz.pinned (.plain (OpenSpec.ofChange normSimpleSpec)) normSimpleCard

/-- THE TIED CARD OF 'paraphrastlaw04.NormPrenex'. -/
def normPrenexCard : Claim7 := { stood := { row := normPrenexRow, standIns := [], harness := (true, "8f95c6e595c88a73ee9cad2b3cff6453cfa496a93cd59dac813ccf0b3e001d71"), looks := false }, kinds := [], alts := [], laidByText := true, laidKinds := [.data, .data, .data], laidTests := true, laidLooks := .later }
def NormPrenexCardSaid : Prop := Claim7.holds Tryz.pinned (.plain (OpenSpec.ofChange normPrenexSpec)) normPrenexCard

/-- THE TIED CARD OF 'paraphrastlaw04.NormReplaces'. -/
def normReplacesCard : Claim7 := { stood := { row := normReplacesRow, standIns := [], harness := (true, "8f95c6e595c88a73ee9cad2b3cff6453cfa496a93cd59dac813ccf0b3e001d71"), looks := false }, kinds := [], alts := [], laidByText := true, laidKinds := [.data, .data, .data], laidTests := true, laidLooks := .later }
def NormReplacesCardSaid : Prop := Claim7.holds Tryz.pinned (.plain (OpenSpec.ofChange normReplacesSpec)) normReplacesCard

/-- THE TIED CARD OF 'paraphrastlaw04.NormOwn'. -/
def normOwnCard : Claim7 := { stood := { row := normOwnRow, standIns := [], harness := (true, "8f95c6e595c88a73ee9cad2b3cff6453cfa496a93cd59dac813ccf0b3e001d71"), looks := false }, kinds := [], alts := [], laidByText := true, laidKinds := [.data, .data, .data], laidTests := true, laidLooks := .later }
def NormOwnCardSaid : Prop := Claim7.holds Tryz.pinned (.plain (OpenSpec.ofChange normOwnSpec)) normOwnCard

/-- THE SECOND FORM's CARD OF 'paraphrastlaw04.NormMeans'. -/
def normMeansUptoCard : Claim7 := { stood := { row := normMeansUptoRow, standIns := [], harness := (true, "8f95c6e595c88a73ee9cad2b3cff6453cfa496a93cd59dac813ccf0b3e001d71"), looks := false }, kinds := [], alts := [], laidByText := true, laidKinds := [.data, .data, .data], laidTests := true, laidLooks := .later }
def NormMeansUptoCardSaid : Prop := Claim7.holds Tryz.pinned (.plain (OpenSpec.upto normMeansSpec)) normMeansUptoCard

/-- THE SECOND FORM's CARD OF 'paraphrastlaw04.NormRenamed'. -/
def normRenamedUptoCard : Claim7 := { stood := { row := normRenamedUptoRow, standIns := [], harness := (true, "8f95c6e595c88a73ee9cad2b3cff6453cfa496a93cd59dac813ccf0b3e001d71"), looks := false }, kinds := [], alts := [], laidByText := true, laidKinds := [.data, .data, .data], laidTests := true, laidLooks := .later }
def NormRenamedUptoCardSaid : Prop := Claim7.holds Tryz.pinned (.plain (OpenSpec.upto normRenamedSpec)) normRenamedUptoCard

/-- THE SECOND FORM's CARD OF 'paraphrastlaw04.NormSimple'. -/
def normSimpleUptoCard : Claim7 := { stood := { row := normSimpleUptoRow, standIns := [], harness := (true, "8f95c6e595c88a73ee9cad2b3cff6453cfa496a93cd59dac813ccf0b3e001d71"), looks := false }, kinds := [], alts := [], laidByText := true, laidKinds := [.data, .data, .data], laidTests := true, laidLooks := .later }
def NormSimpleUptoCardSaid : Prop := Claim7.holds Tryz.pinned (.plain (OpenSpec.upto normSimpleSpec)) normSimpleUptoCard

/-- THE SECOND FORM's CARD OF 'paraphrastlaw04.NormPrenex'. -/
def normPrenexUptoCard : Claim7 := { stood := { row := normPrenexUptoRow, standIns := [], harness := (true, "8f95c6e595c88a73ee9cad2b3cff6453cfa496a93cd59dac813ccf0b3e001d71"), looks := false }, kinds := [], alts := [], laidByText := true, laidKinds := [.data, .data, .data], laidTests := true, laidLooks := .later }
def NormPrenexUptoCardSaid : Prop := Claim7.holds Tryz.pinned (.plain (OpenSpec.upto normPrenexSpec)) normPrenexUptoCard

/-- THE SECOND FORM's CARD OF 'paraphrastlaw04.NormReplaces'. -/
def normReplacesUptoCard : Claim7 := { stood := { row := normReplacesUptoRow, standIns := [], harness := (true, "8f95c6e595c88a73ee9cad2b3cff6453cfa496a93cd59dac813ccf0b3e001d71"), looks := false }, kinds := [], alts := [], laidByText := true, laidKinds := [.data, .data, .data], laidTests := true, laidLooks := .later }
def NormReplacesUptoCardSaid : Prop := Claim7.holds Tryz.pinned (.plain (OpenSpec.upto normReplacesSpec)) normReplacesUptoCard

/-- THE SECOND FORM's CARD OF 'paraphrastlaw04.NormOwn'. -/
def normOwnUptoCard : Claim7 := { stood := { row := normOwnUptoRow, standIns := [], harness := (true, "8f95c6e595c88a73ee9cad2b3cff6453cfa496a93cd59dac813ccf0b3e001d71"), looks := false }, kinds := [], alts := [], laidByText := true, laidKinds := [.data, .data, .data], laidTests := true, laidLooks := .later }
def NormOwnUptoCardSaid : Prop := Claim7.holds Tryz.pinned (.plain (OpenSpec.upto normOwnSpec)) normOwnUptoCard
end Rows
end Go.Proofs.YtlpndgodkkndnaaGreatDoor
