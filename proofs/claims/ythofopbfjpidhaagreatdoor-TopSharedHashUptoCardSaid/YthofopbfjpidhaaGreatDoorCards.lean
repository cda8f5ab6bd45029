/-
  DERIVED. GIVEN WITH THE SEED: THE CARDS: each row of YthofopbfjpidhaaGreatDoorRows.lean that lists a variable, with what it lists TIED to the program's text (the seventh form; the later family's looks); each row that meets fmt, with fmt's text TOLD by the authors' own Lean function (tested against real Go, not proved from fmt's source: count such statements apart). THE CARD IS WHAT COUNTS. Prove the row's statement (the work); the ties are given (YthofopbfjpidhaaGreatDoorTie.lean); close each card by the builder's one call (the guide's Derived/Test/ToyasCard.lean, 'card_holds'). Laid BY PROGRAM, IN A SANDBOX (cutbox-door.mjs). By AI agents, Wed Nov 11 2026. No macro, syntax, notation, axiom, sorry.
-/
import Derived.Test.YthofopbfjpidhaaGreatDoorRows
import GoSem.ClaimSeven
namespace Go.Proofs.YthofopbfjpidhaaGreatDoor
namespace Rows

/-- THE TIED CARD OF 'spiritleveltop.TopSharedCone'. -/
def topSharedConeCard : Claim7 := { stood := { row := topSharedConeRow, standIns := [], harness := (true, "3a92bf0972c5aff21daff1fc647a45cc6692d5e6ac2af8d7333fa3d09fa3e6f8"), looks := true }, kinds := [], alts := [], laidByText := true, laidKinds := [.pinned, .data, .sentinel, .sentinel, .data, .data, .data], laidTests := true, laidLooks := .later }
def TopSharedConeCardSaid : Prop := Claim7.holds Tryz.pinned (.plain (OpenSpec.ofChange topSharedConeSpec)) topSharedConeCard

/-- THE TIED CARD OF 'spiritleveltop.TopSharedPrefix'. -/
def topSharedPrefixCard : Claim7 := { stood := { row := topSharedPrefixRow, standIns := [], harness := (true, "3a92bf0972c5aff21daff1fc647a45cc6692d5e6ac2af8d7333fa3d09fa3e6f8"), looks := true }, kinds := [], alts := [], laidByText := true, laidKinds := [.pinned, .data, .sentinel, .sentinel, .data, .data, .data], laidTests := true, laidLooks := .later }
def TopSharedPrefixCardSaid : Prop := Claim7.holds Tryz.pinned (.plain (OpenSpec.ofChange topSharedPrefixSpec)) topSharedPrefixCard

/-- THE TIED CARD OF 'spiritleveltop.TopSharedPhases'. -/
def topSharedPhasesCard : Claim7 := { stood := { row := topSharedPhasesRow, standIns := [], harness := (true, "3a92bf0972c5aff21daff1fc647a45cc6692d5e6ac2af8d7333fa3d09fa3e6f8"), looks := true }, kinds := [], alts := [], laidByText := true, laidKinds := [.pinned, .data, .sentinel, .sentinel, .data, .data, .data], laidTests := true, laidLooks := .later }
def TopSharedPhasesCardSaid : Prop := Claim7.holds Tryz.pinned (.plain (OpenSpec.ofChange topSharedPhasesSpec)) topSharedPhasesCard

/-- THE TIED CARD OF 'spiritleveltop.TopSharedHash'. -/
def topSharedHashCard : Claim7 := { stood := { row := topSharedHashRow, standIns := [], harness := (true, "3a92bf0972c5aff21daff1fc647a45cc6692d5e6ac2af8d7333fa3d09fa3e6f8"), looks := true }, kinds := [], alts := [], laidByText := true, laidKinds := [.pinned, .data, .sentinel, .sentinel, .data, .data, .data], laidTests := true, laidLooks := .later }
def TopSharedHashCardSaid : Prop := Claim7.holds Tryz.pinned (.plain (OpenSpec.ofChange topSharedHashSpec)) topSharedHashCard

/-- THE TIED CARD OF 'spiritleveltop.TopSharedPreds'. -/
def topSharedPredsCard : Claim7 := { stood := { row := topSharedPredsRow, standIns := [], harness := (true, "3a92bf0972c5aff21daff1fc647a45cc6692d5e6ac2af8d7333fa3d09fa3e6f8"), looks := true }, kinds := [], alts := [], laidByText := true, laidKinds := [.pinned, .data, .sentinel, .sentinel, .data, .data, .data], laidTests := true, laidLooks := .later }
def TopSharedPredsCardSaid : Prop := Claim7.holds Tryz.pinned (.plain (OpenSpec.ofChange topSharedPredsSpec)) topSharedPredsCard

/-- THE TIED CARD OF 'spiritleveltop.TopSharedTraces'. -/
def topSharedTracesCard : Claim7 := { stood := { row := topSharedTracesRow, standIns := [], harness := (true, "3a92bf0972c5aff21daff1fc647a45cc6692d5e6ac2af8d7333fa3d09fa3e6f8"), looks := true }, kinds := [], alts := [], laidByText := true, laidKinds := [.pinned, .data, .sentinel, .sentinel, .data, .data, .data], laidTests := true, laidLooks := .later }
def TopSharedTracesCardSaid : Prop := Claim7.holds Tryz.pinned (.plain (OpenSpec.ofChange topSharedTracesSpec)) topSharedTracesCard

/-- THE SECOND FORM's CARD OF 'spiritleveltop.TopSharedCone'. -/
def topSharedConeUptoCard : Claim7 := { stood := { row := topSharedConeUptoRow, standIns := [], harness := (true, "3a92bf0972c5aff21daff1fc647a45cc6692d5e6ac2af8d7333fa3d09fa3e6f8"), looks := true }, kinds := [], alts := [], laidByText := true, laidKinds := [.pinned, .data, .sentinel, .sentinel, .data, .data, .data], laidTests := true, laidLooks := .later }
def TopSharedConeUptoCardSaid : Prop := Claim7.holds Tryz.pinned (.plain (OpenSpec.upto topSharedConeSpec)) topSharedConeUptoCard

/-- THE SECOND FORM's CARD OF 'spiritleveltop.TopSharedPrefix'. -/
def topSharedPrefixUptoCard : Claim7 := { stood := { row := topSharedPrefixUptoRow, standIns := [], harness := (true, "3a92bf0972c5aff21daff1fc647a45cc6692d5e6ac2af8d7333fa3d09fa3e6f8"), looks := true }, kinds := [], alts := [], laidByText := true, laidKinds := [.pinned, .data, .sentinel, .sentinel, .data, .data, .data], laidTests := true, laidLooks := .later }
def TopSharedPrefixUptoCardSaid : Prop := Claim7.holds Tryz.pinned (.plain (OpenSpec.upto topSharedPrefixSpec)) topSharedPrefixUptoCard

/-- THE SECOND FORM's CARD OF 'spiritleveltop.TopSharedPhases'. -/
def topSharedPhasesUptoCard : Claim7 := { stood := { row := topSharedPhasesUptoRow, standIns := [], harness := (true, "3a92bf0972c5aff21daff1fc647a45cc6692d5e6ac2af8d7333fa3d09fa3e6f8"), looks := true }, kinds := [], alts := [], laidByText := true, laidKinds := [.pinned, .data, .sentinel, .sentinel, .data, .data, .data], laidTests := true, laidLooks := .later }
def TopSharedPhasesUptoCardSaid : Prop := Claim7.holds Tryz.pinned (.plain (OpenSpec.upto topSharedPhasesSpec)) topSharedPhasesUptoCard

/-- THE SECOND FORM's CARD OF 'spiritleveltop.TopSharedHash'. -/
def topSharedHashUptoCard : Claim7 := { stood := { row := topSharedHashUptoRow, standIns := [], harness := (true, "3a92bf0972c5aff21daff1fc647a45cc6692d5e6ac2af8d7333fa3d09fa3e6f8"), looks := true }, kinds := [], alts := [], laidByText := true, laidKinds := [.pinned, .data, .sentinel, .sentinel, .data, .data, .data], laidTests := true, laidLooks := .later }
def TopSharedHashUptoCardSaid : Prop := Claim7.holds Tryz.pinned (.plain (OpenSpec.upto topSharedHashSpec)) topSharedHashUptoCard

/-- THE SECOND FORM's CARD OF 'spiritleveltop.TopSharedPreds'. -/
def topSharedPredsUptoCard : Claim7 := { stood := { row := topSharedPredsUptoRow, standIns := [], harness := (true, "3a92bf0972c5aff21daff1fc647a45cc6692d5e6ac2af8d7333fa3d09fa3e6f8"), looks := true }, kinds := [], alts := [], laidByText := true, laidKinds := [.pinned, .data, .sentinel, .sentinel, .data, .data, .data], laidTests := true, laidLooks := .later }
def TopSharedPredsUptoCardSaid : Prop := Claim7.holds Tryz.pinned (.plain (OpenSpec.upto topSharedPredsSpec)) topSharedPredsUptoCard

/-- THE SECOND FORM's CARD OF 'spiritleveltop.TopSharedTraces'. -/
def topSharedTracesUptoCard : Claim7 := { stood := { row := topSharedTracesUptoRow, standIns := [], harness := (true, "3a92bf0972c5aff21daff1fc647a45cc6692d5e6ac2af8d7333fa3d09fa3e6f8"), looks := true }, kinds := [], alts := [], laidByText := true, laidKinds := [.pinned, .data, .sentinel, .sentinel, .data, .data, .data], laidTests := true, laidLooks := .later }
def TopSharedTracesUptoCardSaid : Prop := Claim7.holds Tryz.pinned (.plain (OpenSpec.upto topSharedTracesSpec)) topSharedTracesUptoCard
end Rows
end Go.Proofs.YthofopbfjpidhaaGreatDoor
