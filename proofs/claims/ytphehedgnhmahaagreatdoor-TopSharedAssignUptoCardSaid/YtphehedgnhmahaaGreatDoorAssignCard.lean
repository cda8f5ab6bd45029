/- TopSharedAssign: the second form's card: for every input of bulk at most 1048576 the call returns true and the input reads as it did. Conditions: none. -/
import Derived.Test.YtphehedgnhmahaaGreatDoorAssignSaid
import Derived.Test.YtphehedgnhmahaaGreatDoorGoes
namespace Go.Proofs.YtphehedgnhmahaaGreatDoor
open Go
theorem assign_words : Rows.topSharedAssignUptoRow.wfByText (Rows.OpenSpec.upto Rows.topSharedAssignSpec) = true := by kernel_rfl
theorem assign_main : Tryz.pinned.checked.prog.mainIs = some (true, "a50e84f6730b8a3dd70516ce0ccf10da7393d3669e65bb648ebf88c7a391058b".toList) := by kernel_rfl
theorem assign_goes : false = Rows.topSharedAssignUptoRow.goesBy Tryz.pinned.checked.prog := by
  have h : Tryz.pinned.checked.prog.funcNamed Rows.topSharedAssignUptoRow.func = some 6 := by kernel_rfl
  have g : Tryz.pinned.checked.prog.goes 6 = false := goes_not 6
  show false = (Tryz.pinned.checked.prog.goesFrom Rows.topSharedAssignUptoRow.func || false)
  rw [Bool.or_false, Program.goesFrom, h]
  rw [Option.any_some, g]
theorem assign_card : Rows.TopSharedAssignUptoCardSaid :=
  Claim7.holds_tied_plain_at .later [] _ _ _ _ saidUpto (fun _ h => by cases h) assign_words (fun _ h => by cases h) row_tie rfl ⟨rfl, rfl⟩ assign_main rfl plainD assign_goes
end Go.Proofs.YtphehedgnhmahaaGreatDoor
