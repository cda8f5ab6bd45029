/- TopSharedLearn: the second form's card: for every input of bulk at most 1048576 the call returns true and the input reads as it did. Conditions: none. -/
import Derived.Test.YtjmmbonjfaifnaaGreatDoorLearnSaid
import Derived.Test.YtjmmbonjfaifnaaGreatDoorGoes
namespace Go.Proofs.YtjmmbonjfaifnaaGreatDoor
open Go
theorem learn_words : Rows.topSharedLearnUptoRow.wfByText (Rows.OpenSpec.upto Rows.topSharedLearnSpec) = true := by kernel_rfl
theorem learn_main : Tryz.pinned.checked.prog.mainIs = some (true, "57b88dc864c68f14b52f35a985e3524627f88e808391181344fef62f5a007a07".toList) := by kernel_rfl
theorem learn_goes : false = Rows.topSharedLearnUptoRow.goesBy Tryz.pinned.checked.prog := by
  have h : Tryz.pinned.checked.prog.funcNamed Rows.topSharedLearnUptoRow.func = some 5 := by kernel_rfl
  have g : Tryz.pinned.checked.prog.goes 5 = false := goes_not 5
  show false = (Tryz.pinned.checked.prog.goesFrom Rows.topSharedLearnUptoRow.func || false)
  rw [Bool.or_false, Program.goesFrom, h]
  rw [Option.any_some, g]
theorem learn_card : Rows.TopSharedLearnUptoCardSaid :=
  Claim7.holds_tied_plain_at .later [] _ _ _ _ saidUpto (fun _ h => by cases h) learn_words (fun _ h => by cases h) row_tie rfl ⟨rfl, rfl⟩ learn_main rfl plainD learn_goes
end Go.Proofs.YtjmmbonjfaifnaaGreatDoor
