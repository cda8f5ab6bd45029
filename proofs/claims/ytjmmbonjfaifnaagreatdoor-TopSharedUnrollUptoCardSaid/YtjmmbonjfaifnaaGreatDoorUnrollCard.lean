/- TopSharedUnroll: the second form's card: for every input of bulk at most 1048576 the call returns true and the input reads as it did. Conditions: none. -/
import Derived.Test.YtjmmbonjfaifnaaGreatDoorUnrollSaid
import Derived.Test.YtjmmbonjfaifnaaGreatDoorGoes
namespace Go.Proofs.YtjmmbonjfaifnaaGreatDoor
open Go
theorem unroll_words : Rows.topSharedUnrollUptoRow.wfByText (Rows.OpenSpec.upto Rows.topSharedUnrollSpec) = true := by kernel_rfl
theorem unroll_main : Tryz.pinned.checked.prog.mainIs = some (true, "57b88dc864c68f14b52f35a985e3524627f88e808391181344fef62f5a007a07".toList) := by kernel_rfl
theorem unroll_goes : false = Rows.topSharedUnrollUptoRow.goesBy Tryz.pinned.checked.prog := by
  have h : Tryz.pinned.checked.prog.funcNamed Rows.topSharedUnrollUptoRow.func = some 7 := by kernel_rfl
  have g : Tryz.pinned.checked.prog.goes 7 = false := goes_not 7
  show false = (Tryz.pinned.checked.prog.goesFrom Rows.topSharedUnrollUptoRow.func || false)
  rw [Bool.or_false, Program.goesFrom, h]
  rw [Option.any_some, g]
theorem unroll_card : Rows.TopSharedUnrollUptoCardSaid :=
  Claim7.holds_tied_plain_at .later [] _ _ _ _ saidUpto (fun _ h => by cases h) unroll_words (fun _ h => by cases h) row_tie rfl ⟨rfl, rfl⟩ unroll_main rfl plainD unroll_goes
end Go.Proofs.YtjmmbonjfaifnaaGreatDoor
