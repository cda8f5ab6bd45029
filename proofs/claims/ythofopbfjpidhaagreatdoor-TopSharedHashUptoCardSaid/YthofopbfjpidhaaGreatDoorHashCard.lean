/- TopSharedHash: the second form's card: for every input of bulk at most 1048576 the call returns true and the input reads as it did. Conditions: none. -/
import Derived.Test.YthofopbfjpidhaaGreatDoorHashSaid
import Derived.Test.YthofopbfjpidhaaGreatDoorGoes
namespace Go.Proofs.YthofopbfjpidhaaGreatDoor
open Go
theorem hash_words : Rows.topSharedHashUptoRow.wfByText (Rows.OpenSpec.upto Rows.topSharedHashSpec) = true := by kernel_rfl
theorem hash_main : Tryz.pinned.checked.prog.mainIs = some (true, "3a92bf0972c5aff21daff1fc647a45cc6692d5e6ac2af8d7333fa3d09fa3e6f8".toList) := by kernel_rfl
theorem hash_goes : false = Rows.topSharedHashUptoRow.goesBy Tryz.pinned.checked.prog := by
  have h : Tryz.pinned.checked.prog.funcNamed Rows.topSharedHashUptoRow.func = some 6 := by kernel_rfl
  have g : Tryz.pinned.checked.prog.goes 6 = false := goes_not 6
  show false = (Tryz.pinned.checked.prog.goesFrom Rows.topSharedHashUptoRow.func || false)
  rw [Bool.or_false, Program.goesFrom, h]
  rw [Option.any_some, g]
theorem hash_card : Rows.TopSharedHashUptoCardSaid :=
  Claim7.holds_tied_plain_at .later [] _ _ _ _ saidUpto (fun _ h => by cases h) hash_words (fun _ h => by cases h) row_tie rfl ⟨rfl, rfl⟩ hash_main rfl plainD hash_goes
end Go.Proofs.YthofopbfjpidhaaGreatDoor
