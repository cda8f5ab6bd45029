/-
  DERIVED. GIVEN WITH THE SEED: THE CARDS: each row of YtphehedgnhmahaaGreatDoorRows.lean that lists a variable, with what it lists TIED to the program's text (the seventh form; the later family's looks); each row that meets fmt, with fmt's text TOLD by the authors' own Lean function (tested against real Go, not proved from fmt's source: count such statements apart). THE CARD IS WHAT COUNTS. Prove the row's statement (the work); the ties are given (YtphehedgnhmahaaGreatDoorTie.lean); close each card by the builder's one call (the guide's Derived/Test/ToyasCard.lean, 'card_holds'). Laid BY PROGRAM, IN A SANDBOX (cutbox-door.mjs). By AI agents, Wed Nov 11 2026. No macro, syntax, notation, axiom, sorry.
-/
import Derived.Test.YtphehedgnhmahaaGreatDoorRows
import GoSem.ClaimSeven
namespace Go.Proofs.YtphehedgnhmahaaGreatDoor
namespace Rows

/-- THE TIED CARD OF 'spiritleveltop.TopSharedUnit'. -/
def topSharedUnitCard : Claim7 := { stood := { row := topSharedUnitRow, standIns := [], harness := (true, "a50e84f6730b8a3dd70516ce0ccf10da7393d3669e65bb648ebf88c7a391058b"), looks := true }, kinds := [], alts := [], laidByText := true, laidKinds := [.pinned, .data, .sentinel, .sentinel, .data, .data, .data], laidTests := true, laidLooks := .later }
def TopSharedUnitCardSaid : Prop := Claim7.holds Tryz.pinned (.plain (OpenSpec.ofChange topSharedUnitSpec)) topSharedUnitCard

/-- THE TIED CARD OF 'spiritleveltop.TopSharedValues'. -/
def topSharedValuesCard : Claim7 := { stood := { row := topSharedValuesRow, standIns := [], harness := (true, "a50e84f6730b8a3dd70516ce0ccf10da7393d3669e65bb648ebf88c7a391058b"), looks := true }, kinds := [], alts := [], laidByText := true, laidKinds := [.pinned, .data, .sentinel, .sentinel, .data, .data, .data], laidTests := true, laidLooks := .later }
def TopSharedValuesCardSaid : Prop := Claim7.holds Tryz.pinned (.plain (OpenSpec.ofChange topSharedValuesSpec)) topSharedValuesCard

/-- THE TIED CARD OF 'spiritleveltop.TopSharedTernary'. -/
def topSharedTernaryCard : Claim7 := { stood := { row := topSharedTernaryRow, standIns := [], harness := (true, "a50e84f6730b8a3dd70516ce0ccf10da7393d3669e65bb648ebf88c7a391058b"), looks := true }, kinds := [], alts := [], laidByText := true, laidKinds := [.pinned, .data, .sentinel, .sentinel, .data, .data, .data], laidTests := true, laidLooks := .later }
def TopSharedTernaryCardSaid : Prop := Claim7.holds Tryz.pinned (.plain (OpenSpec.ofChange topSharedTernarySpec)) topSharedTernaryCard

/-- THE TIED CARD OF 'spiritleveltop.TopSharedAssign'. -/
def topSharedAssignCard : Claim7 := { stood := { row := topSharedAssignRow, standIns := [], harness := (true, "a50e84f6730b8a3dd70516ce0ccf10da7393d3669e65bb648ebf88c7a391058b"), looks := true }, kinds := [], alts := [], laidByText := true, laidKinds := [.pinned, .data, .sentinel, .sentinel, .data, .data, .data], laidTests := true, laidLooks := .later }
def TopSharedAssignCardSaid : Prop := Claim7.holds Tryz.pinned (.plain (OpenSpec.ofChange topSharedAssignSpec)) topSharedAssignCard

/-- THE TIED CARD OF 'spiritleveltop.TopSharedDecide'. -/
def topSharedDecideCard : Claim7 := { stood := { row := topSharedDecideRow, standIns := [], harness := (true, "a50e84f6730b8a3dd70516ce0ccf10da7393d3669e65bb648ebf88c7a391058b"), looks := true }, kinds := [], alts := [], laidByText := true, laidKinds := [.pinned, .data, .sentinel, .sentinel, .data, .data, .data], laidTests := true, laidLooks := .later }
def TopSharedDecideCardSaid : Prop := Claim7.holds Tryz.pinned (.plain (OpenSpec.ofChange topSharedDecideSpec)) topSharedDecideCard

/-- THE TIED CARD OF 'spiritleveltop.TopSharedDeltas'. -/
def topSharedDeltasCard : Claim7 := { stood := { row := topSharedDeltasRow, standIns := [], harness := (true, "a50e84f6730b8a3dd70516ce0ccf10da7393d3669e65bb648ebf88c7a391058b"), looks := true }, kinds := [], alts := [], laidByText := true, laidKinds := [.pinned, .data, .sentinel, .sentinel, .data, .data, .data], laidTests := true, laidLooks := .later }
def TopSharedDeltasCardSaid : Prop := Claim7.holds Tryz.pinned (.plain (OpenSpec.ofChange topSharedDeltasSpec)) topSharedDeltasCard

/-- THE SECOND FORM's CARD OF 'spiritleveltop.TopSharedUnit'. -/
def topSharedUnitUptoCard : Claim7 := { stood := { row := topSharedUnitUptoRow, standIns := [], harness := (true, "a50e84f6730b8a3dd70516ce0ccf10da7393d3669e65bb648ebf88c7a391058b"), looks := true }, kinds := [], alts := [], laidByText := true, laidKinds := [.pinned, .data, .sentinel, .sentinel, .data, .data, .data], laidTests := true, laidLooks := .later }
def TopSharedUnitUptoCardSaid : Prop := Claim7.holds Tryz.pinned (.plain (OpenSpec.upto topSharedUnitSpec)) topSharedUnitUptoCard

/-- THE SECOND FORM's CARD OF 'spiritleveltop.TopSharedValues'. -/
def topSharedValuesUptoCard : Claim7 := { stood := { row := topSharedValuesUptoRow, standIns := [], harness := (true, "a50e84f6730b8a3dd70516ce0ccf10da7393d3669e65bb648ebf88c7a391058b"), looks := true }, kinds := [], alts := [], laidByText := true, laidKinds := [.pinned, .data, .sentinel, .sentinel, .data, .data, .data], laidTests := true, laidLooks := .later }
def TopSharedValuesUptoCardSaid : Prop := Claim7.holds Tryz.pinned (.plain (OpenSpec.upto topSharedValuesSpec)) topSharedValuesUptoCard

/-- THE SECOND FORM's CARD OF 'spiritleveltop.TopSharedTernary'. -/
def topSharedTernaryUptoCard : Claim7 := { stood := { row := topSharedTernaryUptoRow, standIns := [], harness := (true, "a50e84f6730b8a3dd70516ce0ccf10da7393d3669e65bb648ebf88c7a391058b"), looks := true }, kinds := [], alts := [], laidByText := true, laidKinds := [.pinned, .data, .sentinel, .sentinel, .data, .data, .data], laidTests := true, laidLooks := .later }
def TopSharedTernaryUptoCardSaid : Prop := Claim7.holds Tryz.pinned (.plain (OpenSpec.upto topSharedTernarySpec)) topSharedTernaryUptoCard

/-- THE SECOND FORM's CARD OF 'spiritleveltop.TopSharedAssign'. -/
def topSharedAssignUptoCard : Claim7 := { stood := { row := topSharedAssignUptoRow, standIns := [], harness := (true, "a50e84f6730b8a3dd70516ce0ccf10da7393d3669e65bb648ebf88c7a391058b"), looks := true }, kinds := [], alts := [], laidByText := true, laidKinds := [.pinned, .data, .sentinel, .sentinel, .data, .data, .data], laidTests := true, laidLooks := .later }
def TopSharedAssignUptoCardSaid : Prop := Claim7.holds Tryz.pinned (.plain (OpenSpec.upto topSharedAssignSpec)) topSharedAssignUptoCard

/-- THE SECOND FORM's CARD OF 'spiritleveltop.TopSharedDecide'. -/
def topSharedDecideUptoCard : Claim7 := { stood := { row := topSharedDecideUptoRow, standIns := [], harness := (true, "a50e84f6730b8a3dd70516ce0ccf10da7393d3669e65bb648ebf88c7a391058b"), looks := true }, kinds := [], alts := [], laidByText := true, laidKinds := [.pinned, .data, .sentinel, .sentinel, .data, .data, .data], laidTests := true, laidLooks := .later }
def TopSharedDecideUptoCardSaid : Prop := Claim7.holds Tryz.pinned (.plain (OpenSpec.upto topSharedDecideSpec)) topSharedDecideUptoCard

/-- THE SECOND FORM's CARD OF 'spiritleveltop.TopSharedDeltas'. -/
def topSharedDeltasUptoCard : Claim7 := { stood := { row := topSharedDeltasUptoRow, standIns := [], harness := (true, "a50e84f6730b8a3dd70516ce0ccf10da7393d3669e65bb648ebf88c7a391058b"), looks := true }, kinds := [], alts := [], laidByText := true, laidKinds := [.pinned, .data, .sentinel, .sentinel, .data, .data, .data], laidTests := true, laidLooks := .later }
def TopSharedDeltasUptoCardSaid : Prop := Claim7.holds Tryz.pinned (.plain (OpenSpec.upto topSharedDeltasSpec)) topSharedDeltasUptoCard
end Rows
end Go.Proofs.YtphehedgnhmahaaGreatDoor
