/- TopSharedDeltas: the second form's card: for every input of bulk at most 1048576 the call returns true and the input reads as it did. Conditions: none. -/
import Derived.Test.YtphehedgnhmahaaGreatDoorDeltasSaid
import Derived.Test.YtphehedgnhmahaaGreatDoorGoes
namespace Go.Proofs.YtphehedgnhmahaaGreatDoor
open Go
theorem deltas_words : Rows.topSharedDeltasUptoRow.wfByText (Rows.OpenSpec.upto Rows.topSharedDeltasSpec) = true := by kernel_rfl
theorem deltas_main : Tryz.pinned.checked.prog.mainIs = some (true, "a50e84f6730b8a3dd70516ce0ccf10da7393d3669e65bb648ebf88c7a391058b".toList) := by kernel_rfl
theorem deltas_goes : false = Rows.topSharedDeltasUptoRow.goesBy Tryz.pinned.checked.prog := by
  have h : Tryz.pinned.checked.prog.funcNamed Rows.topSharedDeltasUptoRow.func = some 8 := by kernel_rfl
  have g : Tryz.pinned.checked.prog.goes 8 = false := goes_not 8
  show false = (Tryz.pinned.checked.prog.goesFrom Rows.topSharedDeltasUptoRow.func || false)
  rw [Bool.or_false, Program.goesFrom, h]
  rw [Option.any_some, g]
theorem deltas_card : Rows.TopSharedDeltasUptoCardSaid :=
  Claim7.holds_tied_plain_at .later [] _ _ _ _ saidUpto (fun _ h => by cases h) deltas_words (fun _ h => by cases h) row_tie rfl ⟨rfl, rfl⟩ deltas_main rfl plainD deltas_goes
end Go.Proofs.YtphehedgnhmahaaGreatDoor
