/- TopSharedConstants: the second form's card: for every input of bulk at most 1048576 the call returns true and the input reads as it did. Conditions: none. -/
import Derived.Test.YtbjiommpeeanmaaGreatDoorConstantsSaid
import Derived.Test.YtbjiommpeeanmaaGreatDoorGoes
namespace Go.Proofs.YtbjiommpeeanmaaGreatDoor
open Go
theorem constants_words : Rows.topSharedConstantsUptoRow.wfByText (Rows.OpenSpec.upto Rows.topSharedConstantsSpec) = true := by kernel_rfl
theorem constants_main : Tryz.pinned.checked.prog.mainIs = some (true, "72a9f9ca2b360722eafc3cb13feb04c3f2fa212710b2d0d00636c72d9349e911".toList) := by kernel_rfl
theorem constants_goes : false = Rows.topSharedConstantsUptoRow.goesBy Tryz.pinned.checked.prog := by
  have h : Tryz.pinned.checked.prog.funcNamed Rows.topSharedConstantsUptoRow.func = some 7 := by kernel_rfl
  have g : Tryz.pinned.checked.prog.goes 7 = false := goes_not 7
  show false = (Tryz.pinned.checked.prog.goesFrom Rows.topSharedConstantsUptoRow.func || false)
  rw [Bool.or_false, Program.goesFrom, h]
  rw [Option.any_some, g]
theorem constants_card : Rows.TopSharedConstantsUptoCardSaid :=
  Claim7.holds_tied_plain_at .later [] _ _ _ _ saidUpto (fun _ h => by cases h) constants_words (fun _ h => by cases h) row_tie rfl ⟨rfl, rfl⟩ constants_main rfl plainD constants_goes
end Go.Proofs.YtbjiommpeeanmaaGreatDoor
