/-
  DERIVED. GIVEN WITH THE SEED: THE CARDS: each row of YtbjiommpeeanmaaGreatDoorRows.lean that lists a variable, with what it lists TIED to the program's text (the seventh form; the later family's looks); each row that meets fmt, with fmt's text TOLD by the authors' own Lean function (tested against real Go, not proved from fmt's source: count such statements apart). THE CARD IS WHAT COUNTS. Prove the row's statement (the work); the ties are given (YtbjiommpeeanmaaGreatDoorTie.lean); close each card by the builder's one call (the guide's Derived/Test/ToyasCard.lean, 'card_holds'). Laid BY PROGRAM, IN A SANDBOX (cutbox-door.mjs). By AI agents, Wed Nov 11 2026. No macro, syntax, notation, axiom, sorry.
-/
import Derived.Test.YtbjiommpeeanmaaGreatDoorRows
import GoSem.ClaimSeven
namespace Go.Proofs.YtbjiommpeeanmaaGreatDoor
namespace Rows

/-- THE TIED CARD OF 'spiritleveltop.TopSharedPrefix'. -/
def topSharedPrefixCard : Claim7 := { stood := { row := topSharedPrefixRow, standIns := [], harness := (true, "72a9f9ca2b360722eafc3cb13feb04c3f2fa212710b2d0d00636c72d9349e911"), looks := true }, kinds := [], alts := [], laidByText := true, laidKinds := [.pinned, .data, .sentinel, .sentinel, .data, .data, .data], laidTests := true, laidLooks := .later }
def TopSharedPrefixCardSaid : Prop := Claim7.holds Tryz.pinned (.plain (OpenSpec.ofChange topSharedPrefixSpec)) topSharedPrefixCard

/-- THE TIED CARD OF 'spiritleveltop.TopSharedPhases'. -/
def topSharedPhasesCard : Claim7 := { stood := { row := topSharedPhasesRow, standIns := [], harness := (true, "72a9f9ca2b360722eafc3cb13feb04c3f2fa212710b2d0d00636c72d9349e911"), looks := true }, kinds := [], alts := [], laidByText := true, laidKinds := [.pinned, .data, .sentinel, .sentinel, .data, .data, .data], laidTests := true, laidLooks := .later }
def TopSharedPhasesCardSaid : Prop := Claim7.holds Tryz.pinned (.plain (OpenSpec.ofChange topSharedPhasesSpec)) topSharedPhasesCard

/-- THE TIED CARD OF 'spiritleveltop.TopSharedJump'. -/
def topSharedJumpCard : Claim7 := { stood := { row := topSharedJumpRow, standIns := [], harness := (true, "72a9f9ca2b360722eafc3cb13feb04c3f2fa212710b2d0d00636c72d9349e911"), looks := true }, kinds := [], alts := [], laidByText := true, laidKinds := [.pinned, .data, .sentinel, .sentinel, .data, .data, .data], laidTests := true, laidLooks := .later }
def TopSharedJumpCardSaid : Prop := Claim7.holds Tryz.pinned (.plain (OpenSpec.ofChange topSharedJumpSpec)) topSharedJumpCard

/-- THE TIED CARD OF 'spiritleveltop.TopSharedGates'. -/
def topSharedGatesCard : Claim7 := { stood := { row := topSharedGatesRow, standIns := [], harness := (true, "72a9f9ca2b360722eafc3cb13feb04c3f2fa212710b2d0d00636c72d9349e911"), looks := true }, kinds := [], alts := [], laidByText := true, laidKinds := [.pinned, .data, .sentinel, .sentinel, .data, .data, .data], laidTests := true, laidLooks := .later }
def TopSharedGatesCardSaid : Prop := Claim7.holds Tryz.pinned (.plain (OpenSpec.ofChange topSharedGatesSpec)) topSharedGatesCard

/-- THE TIED CARD OF 'spiritleveltop.TopSharedConstants'. -/
def topSharedConstantsCard : Claim7 := { stood := { row := topSharedConstantsRow, standIns := [], harness := (true, "72a9f9ca2b360722eafc3cb13feb04c3f2fa212710b2d0d00636c72d9349e911"), looks := true }, kinds := [], alts := [], laidByText := true, laidKinds := [.pinned, .data, .sentinel, .sentinel, .data, .data, .data], laidTests := true, laidLooks := .later }
def TopSharedConstantsCardSaid : Prop := Claim7.holds Tryz.pinned (.plain (OpenSpec.ofChange topSharedConstantsSpec)) topSharedConstantsCard

/-- THE TIED CARD OF 'spiritleveltop.TopSharedLift'. -/
def topSharedLiftCard : Claim7 := { stood := { row := topSharedLiftRow, standIns := [], harness := (true, "72a9f9ca2b360722eafc3cb13feb04c3f2fa212710b2d0d00636c72d9349e911"), looks := true }, kinds := [], alts := [], laidByText := true, laidKinds := [.pinned, .data, .sentinel, .sentinel, .data, .data, .data], laidTests := true, laidLooks := .later }
def TopSharedLiftCardSaid : Prop := Claim7.holds Tryz.pinned (.plain (OpenSpec.ofChange topSharedLiftSpec)) topSharedLiftCard

/-- THE SECOND FORM's CARD OF 'spiritleveltop.TopSharedPrefix'. -/
def topSharedPrefixUptoCard : Claim7 := { stood := { row := topSharedPrefixUptoRow, standIns := [], harness := (true, "72a9f9ca2b360722eafc3cb13feb04c3f2fa212710b2d0d00636c72d9349e911"), looks := true }, kinds := [], alts := [], laidByText := true, laidKinds := [.pinned, .data, .sentinel, .sentinel, .data, .data, .data], laidTests := true, laidLooks := .later }
def TopSharedPrefixUptoCardSaid : Prop := Claim7.holds Tryz.pinned (.plain (OpenSpec.upto topSharedPrefixSpec)) topSharedPrefixUptoCard

/-- THE SECOND FORM's CARD OF 'spiritleveltop.TopSharedPhases'. -/
def topSharedPhasesUptoCard : Claim7 := { stood := { row := topSharedPhasesUptoRow, standIns := [], harness := (true, "72a9f9ca2b360722eafc3cb13feb04c3f2fa212710b2d0d00636c72d9349e911"), looks := true }, kinds := [], alts := [], laidByText := true, laidKinds := [.pinned, .data, .sentinel, .sentinel, .data, .data, .data], laidTests := true, laidLooks := .later }
def TopSharedPhasesUptoCardSaid : Prop := Claim7.holds Tryz.pinned (.plain (OpenSpec.upto topSharedPhasesSpec)) topSharedPhasesUptoCard

/-- THE SECOND FORM's CARD OF 'spiritleveltop.TopSharedJump'. -/
def topSharedJumpUptoCard : Claim7 := { stood := { row := topSharedJumpUptoRow, standIns := [], harness := (true, "72a9f9ca2b360722eafc3cb13feb04c3f2fa212710b2d0d00636c72d9349e911"), looks := true }, kinds := [], alts := [], laidByText := true, laidKinds := [.pinned, .data, .sentinel, .sentinel, .data, .data, .data], laidTests := true, laidLooks := .later }
def TopSharedJumpUptoCardSaid : Prop := Claim7.holds Tryz.pinned (.plain (OpenSpec.upto topSharedJumpSpec)) topSharedJumpUptoCard

/-- THE SECOND FORM's CARD OF 'spiritleveltop.TopSharedGates'. -/
def topSharedGatesUptoCard : Claim7 := { stood := { row := topSharedGatesUptoRow, standIns := [], harness := (true, "72a9f9ca2b360722eafc3cb13feb04c3f2fa212710b2d0d00636c72d9349e911"), looks := true }, kinds := [], alts := [], laidByText := true, laidKinds := [.pinned, .data, .sentinel, .sentinel, .data, .data, .data], laidTests := true, laidLooks := .later }
def TopSharedGatesUptoCardSaid : Prop := Claim7.holds Tryz.pinned (.plain (OpenSpec.upto topSharedGatesSpec)) topSharedGatesUptoCard

/-- THE SECOND FORM's CARD OF 'spiritleveltop.TopSharedConstants'. -/
def topSharedConstantsUptoCard : Claim7 := { stood := { row := topSharedConstantsUptoRow, standIns := [], harness := (true, "72a9f9ca2b360722eafc3cb13feb04c3f2fa212710b2d0d00636c72d9349e911"), looks := true }, kinds := [], alts := [], laidByText := true, laidKinds := [.pinned, .data, .sentinel, .sentinel, .data, .data, .data], laidTests := true, laidLooks := .later }
def TopSharedConstantsUptoCardSaid : Prop := Claim7.holds Tryz.pinned (.plain (OpenSpec.upto topSharedConstantsSpec)) topSharedConstantsUptoCard

/-- THE SECOND FORM's CARD OF 'spiritleveltop.TopSharedLift'. -/
def topSharedLiftUptoCard : Claim7 := { stood := { row := topSharedLiftUptoRow, standIns := [], harness := (true, "72a9f9ca2b360722eafc3cb13feb04c3f2fa212710b2d0d00636c72d9349e911"), looks := true }, kinds := [], alts := [], laidByText := true, laidKinds := [.pinned, .data, .sentinel, .sentinel, .data, .data, .data], laidTests := true, laidLooks := .later }
def TopSharedLiftUptoCardSaid : Prop := Claim7.holds Tryz.pinned (.plain (OpenSpec.upto topSharedLiftSpec)) topSharedLiftUptoCard
end Rows
end Go.Proofs.YtbjiommpeeanmaaGreatDoor
