/-
  DERIVED. GIVEN WITH THE SEED: THE CARDS: each row of YtjmmbonjfaifnaaGreatDoorRows.lean that lists a variable, with what it lists TIED to the program's text (the seventh form; the later family's looks); each row that meets fmt, with fmt's text TOLD by the authors' own Lean function (tested against real Go, not proved from fmt's source: count such statements apart). THE CARD IS WHAT COUNTS. Prove the row's statement (the work); the ties are given (YtjmmbonjfaifnaaGreatDoorTie.lean); close each card by the builder's one call (the guide's Derived/Test/ToyasCard.lean, 'card_holds'). Laid BY PROGRAM, IN A SANDBOX (cutbox-door.mjs). By AI agents, Wed Nov 11 2026. No macro, syntax, notation, axiom, sorry.
-/
import Derived.Test.YtjmmbonjfaifnaaGreatDoorRows
import GoSem.ClaimSeven
namespace Go.Proofs.YtjmmbonjfaifnaaGreatDoor
namespace Rows

/-- THE TIED CARD OF 'spiritleveltop.TopSharedUnit'. -/
def topSharedUnitCard : Claim7 := { stood := { row := topSharedUnitRow, standIns := [], harness := (true, "57b88dc864c68f14b52f35a985e3524627f88e808391181344fef62f5a007a07"), looks := true }, kinds := [], alts := [], laidByText := true, laidKinds := [.pinned, .data, .sentinel, .sentinel, .data, .data, .data], laidTests := true, laidLooks := .later }
def TopSharedUnitCardSaid : Prop := Claim7.holds Tryz.pinned (.plain (OpenSpec.ofChange topSharedUnitSpec)) topSharedUnitCard

/-- THE TIED CARD OF 'spiritleveltop.TopSharedClause'. -/
def topSharedClauseCard : Claim7 := { stood := { row := topSharedClauseRow, standIns := [], harness := (true, "57b88dc864c68f14b52f35a985e3524627f88e808391181344fef62f5a007a07"), looks := true }, kinds := [], alts := [], laidByText := true, laidKinds := [.pinned, .data, .sentinel, .sentinel, .data, .data, .data], laidTests := true, laidLooks := .later }
def TopSharedClauseCardSaid : Prop := Claim7.holds Tryz.pinned (.plain (OpenSpec.ofChange topSharedClauseSpec)) topSharedClauseCard

/-- THE TIED CARD OF 'spiritleveltop.TopSharedLearn'. -/
def topSharedLearnCard : Claim7 := { stood := { row := topSharedLearnRow, standIns := [], harness := (true, "57b88dc864c68f14b52f35a985e3524627f88e808391181344fef62f5a007a07"), looks := true }, kinds := [], alts := [], laidByText := true, laidKinds := [.pinned, .data, .sentinel, .sentinel, .data, .data, .data], laidTests := true, laidLooks := .later }
def TopSharedLearnCardSaid : Prop := Claim7.holds Tryz.pinned (.plain (OpenSpec.ofChange topSharedLearnSpec)) topSharedLearnCard

/-- THE TIED CARD OF 'spiritleveltop.TopSharedTseitin'. -/
def topSharedTseitinCard : Claim7 := { stood := { row := topSharedTseitinRow, standIns := [], harness := (true, "57b88dc864c68f14b52f35a985e3524627f88e808391181344fef62f5a007a07"), looks := true }, kinds := [], alts := [], laidByText := true, laidKinds := [.pinned, .data, .sentinel, .sentinel, .data, .data, .data], laidTests := true, laidLooks := .later }
def TopSharedTseitinCardSaid : Prop := Claim7.holds Tryz.pinned (.plain (OpenSpec.ofChange topSharedTseitinSpec)) topSharedTseitinCard

/-- THE TIED CARD OF 'spiritleveltop.TopSharedUnroll'. -/
def topSharedUnrollCard : Claim7 := { stood := { row := topSharedUnrollRow, standIns := [], harness := (true, "57b88dc864c68f14b52f35a985e3524627f88e808391181344fef62f5a007a07"), looks := true }, kinds := [], alts := [], laidByText := true, laidKinds := [.pinned, .data, .sentinel, .sentinel, .data, .data, .data], laidTests := true, laidLooks := .later }
def TopSharedUnrollCardSaid : Prop := Claim7.holds Tryz.pinned (.plain (OpenSpec.ofChange topSharedUnrollSpec)) topSharedUnrollCard

/-- THE SECOND FORM's CARD OF 'spiritleveltop.TopSharedUnit'. -/
def topSharedUnitUptoCard : Claim7 := { stood := { row := topSharedUnitUptoRow, standIns := [], harness := (true, "57b88dc864c68f14b52f35a985e3524627f88e808391181344fef62f5a007a07"), looks := true }, kinds := [], alts := [], laidByText := true, laidKinds := [.pinned, .data, .sentinel, .sentinel, .data, .data, .data], laidTests := true, laidLooks := .later }
def TopSharedUnitUptoCardSaid : Prop := Claim7.holds Tryz.pinned (.plain (OpenSpec.upto topSharedUnitSpec)) topSharedUnitUptoCard

/-- THE SECOND FORM's CARD OF 'spiritleveltop.TopSharedClause'. -/
def topSharedClauseUptoCard : Claim7 := { stood := { row := topSharedClauseUptoRow, standIns := [], harness := (true, "57b88dc864c68f14b52f35a985e3524627f88e808391181344fef62f5a007a07"), looks := true }, kinds := [], alts := [], laidByText := true, laidKinds := [.pinned, .data, .sentinel, .sentinel, .data, .data, .data], laidTests := true, laidLooks := .later }
def TopSharedClauseUptoCardSaid : Prop := Claim7.holds Tryz.pinned (.plain (OpenSpec.upto topSharedClauseSpec)) topSharedClauseUptoCard

/-- THE SECOND FORM's CARD OF 'spiritleveltop.TopSharedLearn'. -/
def topSharedLearnUptoCard : Claim7 := { stood := { row := topSharedLearnUptoRow, standIns := [], harness := (true, "57b88dc864c68f14b52f35a985e3524627f88e808391181344fef62f5a007a07"), looks := true }, kinds := [], alts := [], laidByText := true, laidKinds := [.pinned, .data, .sentinel, .sentinel, .data, .data, .data], laidTests := true, laidLooks := .later }
def TopSharedLearnUptoCardSaid : Prop := Claim7.holds Tryz.pinned (.plain (OpenSpec.upto topSharedLearnSpec)) topSharedLearnUptoCard

/-- THE SECOND FORM's CARD OF 'spiritleveltop.TopSharedTseitin'. -/
def topSharedTseitinUptoCard : Claim7 := { stood := { row := topSharedTseitinUptoRow, standIns := [], harness := (true, "57b88dc864c68f14b52f35a985e3524627f88e808391181344fef62f5a007a07"), looks := true }, kinds := [], alts := [], laidByText := true, laidKinds := [.pinned, .data, .sentinel, .sentinel, .data, .data, .data], laidTests := true, laidLooks := .later }
def TopSharedTseitinUptoCardSaid : Prop := Claim7.holds Tryz.pinned (.plain (OpenSpec.upto topSharedTseitinSpec)) topSharedTseitinUptoCard

/-- THE SECOND FORM's CARD OF 'spiritleveltop.TopSharedUnroll'. -/
def topSharedUnrollUptoCard : Claim7 := { stood := { row := topSharedUnrollUptoRow, standIns := [], harness := (true, "57b88dc864c68f14b52f35a985e3524627f88e808391181344fef62f5a007a07"), looks := true }, kinds := [], alts := [], laidByText := true, laidKinds := [.pinned, .data, .sentinel, .sentinel, .data, .data, .data], laidTests := true, laidLooks := .later }
def TopSharedUnrollUptoCardSaid : Prop := Claim7.holds Tryz.pinned (.plain (OpenSpec.upto topSharedUnrollSpec)) topSharedUnrollUptoCard
end Rows
end Go.Proofs.YtjmmbonjfaifnaaGreatDoor
