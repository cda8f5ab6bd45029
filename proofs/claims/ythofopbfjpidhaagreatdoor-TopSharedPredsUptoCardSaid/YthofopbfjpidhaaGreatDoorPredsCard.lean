/- TopSharedPreds: the second form's card: for every input of bulk at most 1048576 the call returns true and the input reads as it did. Conditions: none. -/
import Derived.Test.YthofopbfjpidhaaGreatDoorPredsSaid
import Derived.Test.YthofopbfjpidhaaGreatDoorGoes
namespace Go.Proofs.YthofopbfjpidhaaGreatDoor
open Go
theorem preds_words : Rows.topSharedPredsUptoRow.wfByText (Rows.OpenSpec.upto Rows.topSharedPredsSpec) = true := by kernel_rfl
theorem preds_main : Tryz.pinned.checked.prog.mainIs = some (true, "3a92bf0972c5aff21daff1fc647a45cc6692d5e6ac2af8d7333fa3d09fa3e6f8".toList) := by kernel_rfl
theorem preds_goes : false = Rows.topSharedPredsUptoRow.goesBy Tryz.pinned.checked.prog := by
  have h : Tryz.pinned.checked.prog.funcNamed Rows.topSharedPredsUptoRow.func = some 7 := by kernel_rfl
  have g : Tryz.pinned.checked.prog.goes 7 = false := goes_not 7
  show false = (Tryz.pinned.checked.prog.goesFrom Rows.topSharedPredsUptoRow.func || false)
  rw [Bool.or_false, Program.goesFrom, h]
  rw [Option.any_some, g]
theorem preds_card : Rows.TopSharedPredsUptoCardSaid :=
  Claim7.holds_tied_plain_at .later [] _ _ _ _ saidUpto (fun _ h => by cases h) preds_words (fun _ h => by cases h) row_tie rfl ⟨rfl, rfl⟩ preds_main rfl plainD preds_goes
end Go.Proofs.YthofopbfjpidhaaGreatDoor
