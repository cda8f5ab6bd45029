/- TopSharedTernary: the second form's card: for every input of bulk at most 1048576 the call returns true and the input reads as it did. Conditions: none. -/
import Derived.Test.YtphehedgnhmahaaGreatDoorTernarySaid
import Derived.Test.YtphehedgnhmahaaGreatDoorGoes
namespace Go.Proofs.YtphehedgnhmahaaGreatDoor
open Go
theorem ternary_words : Rows.topSharedTernaryUptoRow.wfByText (Rows.OpenSpec.upto Rows.topSharedTernarySpec) = true := by kernel_rfl
theorem ternary_main : Tryz.pinned.checked.prog.mainIs = some (true, "a50e84f6730b8a3dd70516ce0ccf10da7393d3669e65bb648ebf88c7a391058b".toList) := by kernel_rfl
theorem ternary_goes : false = Rows.topSharedTernaryUptoRow.goesBy Tryz.pinned.checked.prog := by
  have h : Tryz.pinned.checked.prog.funcNamed Rows.topSharedTernaryUptoRow.func = some 5 := by kernel_rfl
  have g : Tryz.pinned.checked.prog.goes 5 = false := goes_not 5
  show false = (Tryz.pinned.checked.prog.goesFrom Rows.topSharedTernaryUptoRow.func || false)
  rw [Bool.or_false, Program.goesFrom, h]
  rw [Option.any_some, g]
theorem ternary_card : Rows.TopSharedTernaryUptoCardSaid :=
  Claim7.holds_tied_plain_at .later [] _ _ _ _ saidUpto (fun _ h => by cases h) ternary_words (fun _ h => by cases h) row_tie rfl ⟨rfl, rfl⟩ ternary_main rfl plainD ternary_goes
end Go.Proofs.YtphehedgnhmahaaGreatDoor
