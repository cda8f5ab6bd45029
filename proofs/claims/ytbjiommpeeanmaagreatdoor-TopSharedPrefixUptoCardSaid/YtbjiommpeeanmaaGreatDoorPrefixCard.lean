/- TopSharedPrefix: the second form's card: for every input of bulk at most 1048576 the call returns true and the input reads as it did. Conditions: none. -/
import Derived.Test.YtbjiommpeeanmaaGreatDoorPrefixSaid
import Derived.Test.YtbjiommpeeanmaaGreatDoorGoes
namespace Go.Proofs.YtbjiommpeeanmaaGreatDoor
open Go
theorem prefix_words : Rows.topSharedPrefixUptoRow.wfByText (Rows.OpenSpec.upto Rows.topSharedPrefixSpec) = true := by kernel_rfl
theorem prefix_main : Tryz.pinned.checked.prog.mainIs = some (true, "72a9f9ca2b360722eafc3cb13feb04c3f2fa212710b2d0d00636c72d9349e911".toList) := by kernel_rfl
theorem prefix_goes : false = Rows.topSharedPrefixUptoRow.goesBy Tryz.pinned.checked.prog := by
  have h : Tryz.pinned.checked.prog.funcNamed Rows.topSharedPrefixUptoRow.func = some 3 := by kernel_rfl
  have g : Tryz.pinned.checked.prog.goes 3 = false := goes_not 3
  show false = (Tryz.pinned.checked.prog.goesFrom Rows.topSharedPrefixUptoRow.func || false)
  rw [Bool.or_false, Program.goesFrom, h]
  rw [Option.any_some, g]
theorem prefix_card : Rows.TopSharedPrefixUptoCardSaid :=
  Claim7.holds_tied_plain_at .later [] _ _ _ _ saidUpto (fun _ h => by cases h) prefix_words (fun _ h => by cases h) row_tie rfl ⟨rfl, rfl⟩ prefix_main rfl plainD prefix_goes
end Go.Proofs.YtbjiommpeeanmaaGreatDoor
