/- TopSharedValues: the second form's card: for every input of bulk at most 1048576 the call returns true and the input reads as it did. Conditions: none. -/
import Derived.Test.YtphehedgnhmahaaGreatDoorValuesSaid
import Derived.Test.YtphehedgnhmahaaGreatDoorGoes
namespace Go.Proofs.YtphehedgnhmahaaGreatDoor
open Go
theorem values_words : Rows.topSharedValuesUptoRow.wfByText (Rows.OpenSpec.upto Rows.topSharedValuesSpec) = true := by kernel_rfl
theorem values_main : Tryz.pinned.checked.prog.mainIs = some (true, "a50e84f6730b8a3dd70516ce0ccf10da7393d3669e65bb648ebf88c7a391058b".toList) := by kernel_rfl
theorem values_goes : false = Rows.topSharedValuesUptoRow.goesBy Tryz.pinned.checked.prog := by
  have h : Tryz.pinned.checked.prog.funcNamed Rows.topSharedValuesUptoRow.func = some 4 := by kernel_rfl
  have g : Tryz.pinned.checked.prog.goes 4 = false := goes_not 4
  show false = (Tryz.pinned.checked.prog.goesFrom Rows.topSharedValuesUptoRow.func || false)
  rw [Bool.or_false, Program.goesFrom, h]
  rw [Option.any_some, g]
theorem values_card : Rows.TopSharedValuesUptoCardSaid :=
  Claim7.holds_tied_plain_at .later [] _ _ _ _ saidUpto (fun _ h => by cases h) values_words (fun _ h => by cases h) row_tie rfl ⟨rfl, rfl⟩ values_main rfl plainD values_goes
end Go.Proofs.YtphehedgnhmahaaGreatDoor
