/- TopSharedCone: the second form's card: for every input of bulk at most 1048576 the call returns true and the input reads as it did. Conditions: none. -/
import Derived.Test.YthofopbfjpidhaaGreatDoorConeSaid
import Derived.Test.YthofopbfjpidhaaGreatDoorGoes
namespace Go.Proofs.YthofopbfjpidhaaGreatDoor
open Go
theorem cone_words : Rows.topSharedConeUptoRow.wfByText (Rows.OpenSpec.upto Rows.topSharedConeSpec) = true := by kernel_rfl
theorem cone_main : Tryz.pinned.checked.prog.mainIs = some (true, "3a92bf0972c5aff21daff1fc647a45cc6692d5e6ac2af8d7333fa3d09fa3e6f8".toList) := by kernel_rfl
theorem cone_goes : false = Rows.topSharedConeUptoRow.goesBy Tryz.pinned.checked.prog := by
  have h : Tryz.pinned.checked.prog.funcNamed Rows.topSharedConeUptoRow.func = some 3 := by kernel_rfl
  have g : Tryz.pinned.checked.prog.goes 3 = false := goes_not 3
  show false = (Tryz.pinned.checked.prog.goesFrom Rows.topSharedConeUptoRow.func || false)
  rw [Bool.or_false, Program.goesFrom, h]
  rw [Option.any_some, g]
theorem cone_card : Rows.TopSharedConeUptoCardSaid :=
  Claim7.holds_tied_plain_at .later [] _ _ _ _ saidUpto (fun _ h => by cases h) cone_words (fun _ h => by cases h) row_tie rfl ⟨rfl, rfl⟩ cone_main rfl plainD cone_goes
end Go.Proofs.YthofopbfjpidhaaGreatDoor
