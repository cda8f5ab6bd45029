/- TopSharedDecide: the second form's card: for every input of bulk at most 1048576 the call returns true and the input reads as it did. Conditions: none. -/
import Derived.Test.YtphehedgnhmahaaGreatDoorDecideSaid
import Derived.Test.YtphehedgnhmahaaGreatDoorGoes
namespace Go.Proofs.YtphehedgnhmahaaGreatDoor
open Go
theorem decide_words : Rows.topSharedDecideUptoRow.wfByText (Rows.OpenSpec.upto Rows.topSharedDecideSpec) = true := by kernel_rfl
theorem decide_main : Tryz.pinned.checked.prog.mainIs = some (true, "a50e84f6730b8a3dd70516ce0ccf10da7393d3669e65bb648ebf88c7a391058b".toList) := by kernel_rfl
theorem decide_goes : false = Rows.topSharedDecideUptoRow.goesBy Tryz.pinned.checked.prog := by
  have h : Tryz.pinned.checked.prog.funcNamed Rows.topSharedDecideUptoRow.func = some 7 := by kernel_rfl
  have g : Tryz.pinned.checked.prog.goes 7 = false := goes_not 7
  show false = (Tryz.pinned.checked.prog.goesFrom Rows.topSharedDecideUptoRow.func || false)
  rw [Bool.or_false, Program.goesFrom, h]
  rw [Option.any_some, g]
theorem decide_card : Rows.TopSharedDecideUptoCardSaid :=
  Claim7.holds_tied_plain_at .later [] _ _ _ _ saidUpto (fun _ h => by cases h) decide_words (fun _ h => by cases h) row_tie rfl ⟨rfl, rfl⟩ decide_main rfl plainD decide_goes
end Go.Proofs.YtphehedgnhmahaaGreatDoor
