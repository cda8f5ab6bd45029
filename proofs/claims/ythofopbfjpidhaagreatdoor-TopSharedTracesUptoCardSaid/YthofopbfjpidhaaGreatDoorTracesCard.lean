/- TopSharedTraces: the second form's card: for every input of bulk at most 1048576 the call returns true and the input reads as it did. Conditions: none. -/
import Derived.Test.YthofopbfjpidhaaGreatDoorTracesSaid
import Derived.Test.YthofopbfjpidhaaGreatDoorGoes
namespace Go.Proofs.YthofopbfjpidhaaGreatDoor
open Go
theorem traces_words : Rows.topSharedTracesUptoRow.wfByText (Rows.OpenSpec.upto Rows.topSharedTracesSpec) = true := by kernel_rfl
theorem traces_main : Tryz.pinned.checked.prog.mainIs = some (true, "3a92bf0972c5aff21daff1fc647a45cc6692d5e6ac2af8d7333fa3d09fa3e6f8".toList) := by kernel_rfl
theorem traces_goes : false = Rows.topSharedTracesUptoRow.goesBy Tryz.pinned.checked.prog := by
  have h : Tryz.pinned.checked.prog.funcNamed Rows.topSharedTracesUptoRow.func = some 8 := by kernel_rfl
  have g : Tryz.pinned.checked.prog.goes 8 = false := goes_not 8
  show false = (Tryz.pinned.checked.prog.goesFrom Rows.topSharedTracesUptoRow.func || false)
  rw [Bool.or_false, Program.goesFrom, h]
  rw [Option.any_some, g]
theorem traces_card : Rows.TopSharedTracesUptoCardSaid :=
  Claim7.holds_tied_plain_at .later [] _ _ _ _ saidUpto (fun _ h => by cases h) traces_words (fun _ h => by cases h) row_tie rfl ⟨rfl, rfl⟩ traces_main rfl plainD traces_goes
end Go.Proofs.YthofopbfjpidhaaGreatDoor
