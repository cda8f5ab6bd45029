/- TopSharedTseitin: the second form's card: for every input of bulk at most 1048576 the call returns true and the input reads as it did. Conditions: none. -/
import Derived.Test.YtjmmbonjfaifnaaGreatDoorTseitinSaid
import Derived.Test.YtjmmbonjfaifnaaGreatDoorGoes
namespace Go.Proofs.YtjmmbonjfaifnaaGreatDoor
open Go
theorem tseitin_words : Rows.topSharedTseitinUptoRow.wfByText (Rows.OpenSpec.upto Rows.topSharedTseitinSpec) = true := by kernel_rfl
theorem tseitin_main : Tryz.pinned.checked.prog.mainIs = some (true, "57b88dc864c68f14b52f35a985e3524627f88e808391181344fef62f5a007a07".toList) := by kernel_rfl
theorem tseitin_goes : false = Rows.topSharedTseitinUptoRow.goesBy Tryz.pinned.checked.prog := by
  have h : Tryz.pinned.checked.prog.funcNamed Rows.topSharedTseitinUptoRow.func = some 6 := by kernel_rfl
  have g : Tryz.pinned.checked.prog.goes 6 = false := goes_not 6
  show false = (Tryz.pinned.checked.prog.goesFrom Rows.topSharedTseitinUptoRow.func || false)
  rw [Bool.or_false, Program.goesFrom, h]
  rw [Option.any_some, g]
theorem tseitin_card : Rows.TopSharedTseitinUptoCardSaid :=
  Claim7.holds_tied_plain_at .later [] _ _ _ _ saidUpto (fun _ h => by cases h) tseitin_words (fun _ h => by cases h) row_tie rfl ⟨rfl, rfl⟩ tseitin_main rfl plainD tseitin_goes
end Go.Proofs.YtjmmbonjfaifnaaGreatDoor
