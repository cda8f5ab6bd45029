/- How the program's types lie, in parts. Conditions: none. -/
import Derived.Test.YtbjiommpeeanmaaGreatDoorRows
import Derived.KernelRfl
namespace Go.Proofs.YtbjiommpeeanmaaGreatDoor
open Go
def chunk (f : Nat → Bool) : Nat → Nat → Bool
  | 0, _ => true
  | n + 1, i => f i && chunk f n (i + 1)
theorem chunk_iff {f : Nat → Bool} : ∀ {n i : Nat}, chunk f n i = true → ∀ j, i ≤ j → j < i + n → f j = true
  | 0, i, _, j, h1, h2 => by omega
  | n + 1, i, h, j, h1, h2 => by
    simp only [chunk, Bool.and_eq_true] at h
    by_cases e : j = i
    · rw [e]; exact h.1
    · exact chunk_iff h.2 j (by omega) (by omega)
theorem size : Tryz.prog.types.size = 737 := by kernel_rfl
theorem lay0 : chunk (rowFine Tryz.prog) 50 0 = true := by kernel_rfl
theorem lay50 : chunk (rowFine Tryz.prog) 50 50 = true := by kernel_rfl
theorem lay100 : chunk (rowFine Tryz.prog) 50 100 = true := by kernel_rfl
theorem lay150 : chunk (rowFine Tryz.prog) 50 150 = true := by kernel_rfl
theorem lay200 : chunk (rowFine Tryz.prog) 50 200 = true := by kernel_rfl
theorem lay250 : chunk (rowFine Tryz.prog) 50 250 = true := by kernel_rfl
theorem lay300 : chunk (rowFine Tryz.prog) 50 300 = true := by kernel_rfl
theorem lay350 : chunk (rowFine Tryz.prog) 50 350 = true := by kernel_rfl
theorem lay400 : chunk (rowFine Tryz.prog) 50 400 = true := by kernel_rfl
theorem lay450 : chunk (rowFine Tryz.prog) 50 450 = true := by kernel_rfl
theorem lay500 : chunk (rowFine Tryz.prog) 50 500 = true := by kernel_rfl
theorem lay550 : chunk (rowFine Tryz.prog) 50 550 = true := by kernel_rfl
theorem lay600 : chunk (rowFine Tryz.prog) 50 600 = true := by kernel_rfl
theorem lay650 : chunk (rowFine Tryz.prog) 50 650 = true := by kernel_rfl
theorem lay700 : chunk (rowFine Tryz.prog) 37 700 = true := by kernel_rfl
theorem layG : Tryz.prog.globals.all (fun g => decide (g.type < Tryz.prog.types.size)) = true := by kernel_rfl
theorem layF : Tryz.prog.funcs.all (fun f => f.params.all fun t => decide (t < Tryz.prog.types.size)) = true := by kernel_rfl
theorem rows (t : Nat) (h : t < 737) : rowFine Tryz.prog t = true := by
  by_cases h0 : t < 50
  · exact chunk_iff lay0 t (by omega) (by omega)
  by_cases h50 : t < 100
  · exact chunk_iff lay50 t (by omega) (by omega)
  by_cases h100 : t < 150
  · exact chunk_iff lay100 t (by omega) (by omega)
  by_cases h150 : t < 200
  · exact chunk_iff lay150 t (by omega) (by omega)
  by_cases h200 : t < 250
  · exact chunk_iff lay200 t (by omega) (by omega)
  by_cases h250 : t < 300
  · exact chunk_iff lay250 t (by omega) (by omega)
  by_cases h300 : t < 350
  · exact chunk_iff lay300 t (by omega) (by omega)
  by_cases h350 : t < 400
  · exact chunk_iff lay350 t (by omega) (by omega)
  by_cases h400 : t < 450
  · exact chunk_iff lay400 t (by omega) (by omega)
  by_cases h450 : t < 500
  · exact chunk_iff lay450 t (by omega) (by omega)
  by_cases h500 : t < 550
  · exact chunk_iff lay500 t (by omega) (by omega)
  by_cases h550 : t < 600
  · exact chunk_iff lay550 t (by omega) (by omega)
  by_cases h600 : t < 650
  · exact chunk_iff lay600 t (by omega) (by omega)
  by_cases h650 : t < 700
  · exact chunk_iff lay650 t (by omega) (by omega)
  by_cases h700 : t < 737
  · exact chunk_iff lay700 t (by omega) (by omega)
  omega
theorem laidOut : laidOutB Tryz.prog = true := by
  unfold laidOutB
  rw [layG, layF, size]
  simp only [Bool.and_true, List.all_eq_true, List.mem_range]
  exact rows
end Go.Proofs.YtbjiommpeeanmaaGreatDoor
