/- TopSharedUnit: the second form's card: for every input of bulk at most 1048576 the call returns true and the input reads as it did. Conditions: none. -/
import Derived.Test.YtjmmbonjfaifnaaGreatDoorUnitSaid
import Derived.Test.YtjmmbonjfaifnaaGreatDoorGoes
namespace Go.Proofs.YtjmmbonjfaifnaaGreatDoor
open Go
theorem unit_words : Rows.topSharedUnitUptoRow.wfByText (Rows.OpenSpec.upto Rows.topSharedUnitSpec) = true := by kernel_rfl
theorem unit_main : Tryz.pinned.checked.prog.mainIs = some (true, "57b88dc864c68f14b52f35a985e3524627f88e808391181344fef62f5a007a07".toList) := by kernel_rfl
theorem unit_goes : false = Rows.topSharedUnitUptoRow.goesBy Tryz.pinned.checked.prog := by
  have h : Tryz.pinned.checked.prog.funcNamed Rows.topSharedUnitUptoRow.func = some 3 := by kernel_rfl
  have g : Tryz.pinned.checked.prog.goes 3 = false := goes_not 3
  show false = (Tryz.pinned.checked.prog.goesFrom Rows.topSharedUnitUptoRow.func || false)
  rw [Bool.or_false, Program.goesFrom, h]
  rw [Option.any_some, g]
theorem unit_card : Rows.TopSharedUnitUptoCardSaid :=
  Claim7.holds_tied_plain_at .later [] _ _ _ _ saidUpto (fun _ h => by cases h) unit_words (fun _ h => by cases h) row_tie rfl ⟨rfl, rfl⟩ unit_main rfl plainD unit_goes
end Go.Proofs.YtjmmbonjfaifnaaGreatDoor
