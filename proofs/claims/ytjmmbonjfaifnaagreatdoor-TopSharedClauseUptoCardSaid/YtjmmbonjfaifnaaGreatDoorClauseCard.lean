/- TopSharedClause: the second form's card: for every input of bulk at most 1048576 the call returns true and the input reads as it did. Conditions: none. -/
import Derived.Test.YtjmmbonjfaifnaaGreatDoorClauseSaid
import Derived.Test.YtjmmbonjfaifnaaGreatDoorGoes
namespace Go.Proofs.YtjmmbonjfaifnaaGreatDoor
open Go
theorem clause_words : Rows.topSharedClauseUptoRow.wfByText (Rows.OpenSpec.upto Rows.topSharedClauseSpec) = true := by kernel_rfl
theorem clause_main : Tryz.pinned.checked.prog.mainIs = some (true, "57b88dc864c68f14b52f35a985e3524627f88e808391181344fef62f5a007a07".toList) := by kernel_rfl
theorem clause_goes : false = Rows.topSharedClauseUptoRow.goesBy Tryz.pinned.checked.prog := by
  have h : Tryz.pinned.checked.prog.funcNamed Rows.topSharedClauseUptoRow.func = some 4 := by kernel_rfl
  have g : Tryz.pinned.checked.prog.goes 4 = false := goes_not 4
  show false = (Tryz.pinned.checked.prog.goesFrom Rows.topSharedClauseUptoRow.func || false)
  rw [Bool.or_false, Program.goesFrom, h]
  rw [Option.any_some, g]
theorem clause_card : Rows.TopSharedClauseUptoCardSaid :=
  Claim7.holds_tied_plain_at .later [] _ _ _ _ saidUpto (fun _ h => by cases h) clause_words (fun _ h => by cases h) row_tie rfl ⟨rfl, rfl⟩ clause_main rfl plainD clause_goes
end Go.Proofs.YtjmmbonjfaifnaaGreatDoor
