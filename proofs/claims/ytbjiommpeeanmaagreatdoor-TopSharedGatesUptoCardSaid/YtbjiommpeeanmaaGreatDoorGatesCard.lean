/- TopSharedGates: the second form's card: for every input of bulk at most 1048576 the call returns true and the input reads as it did. Conditions: none. -/
import Derived.Test.YtbjiommpeeanmaaGreatDoorGatesSaid
import Derived.Test.YtbjiommpeeanmaaGreatDoorGoes
namespace Go.Proofs.YtbjiommpeeanmaaGreatDoor
open Go
theorem gates_words : Rows.topSharedGatesUptoRow.wfByText (Rows.OpenSpec.upto Rows.topSharedGatesSpec) = true := by kernel_rfl
theorem gates_main : Tryz.pinned.checked.prog.mainIs = some (true, "72a9f9ca2b360722eafc3cb13feb04c3f2fa212710b2d0d00636c72d9349e911".toList) := by kernel_rfl
theorem gates_goes : false = Rows.topSharedGatesUptoRow.goesBy Tryz.pinned.checked.prog := by
  have h : Tryz.pinned.checked.prog.funcNamed Rows.topSharedGatesUptoRow.func = some 6 := by kernel_rfl
  have g : Tryz.pinned.checked.prog.goes 6 = false := goes_not 6
  show false = (Tryz.pinned.checked.prog.goesFrom Rows.topSharedGatesUptoRow.func || false)
  rw [Bool.or_false, Program.goesFrom, h]
  rw [Option.any_some, g]
theorem gates_card : Rows.TopSharedGatesUptoCardSaid :=
  Claim7.holds_tied_plain_at .later [] _ _ _ _ saidUpto (fun _ h => by cases h) gates_words (fun _ h => by cases h) row_tie rfl ⟨rfl, rfl⟩ gates_main rfl plainD gates_goes
end Go.Proofs.YtbjiommpeeanmaaGreatDoor
