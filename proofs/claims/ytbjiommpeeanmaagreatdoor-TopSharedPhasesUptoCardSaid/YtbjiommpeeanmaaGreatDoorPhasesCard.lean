/- TopSharedPhases: the second form's card: for every input of bulk at most 1048576 the call returns true and the input reads as it did. Conditions: none. -/
import Derived.Test.YtbjiommpeeanmaaGreatDoorPhasesSaid
import Derived.Test.YtbjiommpeeanmaaGreatDoorGoes
namespace Go.Proofs.YtbjiommpeeanmaaGreatDoor
open Go
theorem phases_words : Rows.topSharedPhasesUptoRow.wfByText (Rows.OpenSpec.upto Rows.topSharedPhasesSpec) = true := by kernel_rfl
theorem phases_main : Tryz.pinned.checked.prog.mainIs = some (true, "72a9f9ca2b360722eafc3cb13feb04c3f2fa212710b2d0d00636c72d9349e911".toList) := by kernel_rfl
theorem phases_goes : false = Rows.topSharedPhasesUptoRow.goesBy Tryz.pinned.checked.prog := by
  have h : Tryz.pinned.checked.prog.funcNamed Rows.topSharedPhasesUptoRow.func = some 4 := by kernel_rfl
  have g : Tryz.pinned.checked.prog.goes 4 = false := goes_not 4
  show false = (Tryz.pinned.checked.prog.goesFrom Rows.topSharedPhasesUptoRow.func || false)
  rw [Bool.or_false, Program.goesFrom, h]
  rw [Option.any_some, g]
theorem phases_card : Rows.TopSharedPhasesUptoCardSaid :=
  Claim7.holds_tied_plain_at .later [] _ _ _ _ saidUpto (fun _ h => by cases h) phases_words (fun _ h => by cases h) row_tie rfl ⟨rfl, rfl⟩ phases_main rfl plainD phases_goes
end Go.Proofs.YtbjiommpeeanmaaGreatDoor
