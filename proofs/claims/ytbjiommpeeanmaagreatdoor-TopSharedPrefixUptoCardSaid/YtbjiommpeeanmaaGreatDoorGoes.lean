/- No function of the translation starts a goroutine. Conditions: none. -/
import Derived.Test.YtbjiommpeeanmaaGreatDoorLay1
import GoSem.ClaimGoes
namespace Go.Proofs.YtbjiommpeeanmaaGreatDoor
open Go
noncomputable def still (i : Nat) : Bool := !((Tryz.prog.funcs[i]?).any Func.goes)
theorem fsize : Tryz.prog.funcs.size = 653 := by kernel_rfl
theorem still0 : chunk still 40 0 = true := by kernel_rfl
theorem still40 : chunk still 40 40 = true := by kernel_rfl
theorem still80 : chunk still 40 80 = true := by kernel_rfl
theorem still120 : chunk still 40 120 = true := by kernel_rfl
theorem still160 : chunk still 40 160 = true := by kernel_rfl
theorem still200 : chunk still 40 200 = true := by kernel_rfl
theorem still240 : chunk still 40 240 = true := by kernel_rfl
theorem still280 : chunk still 40 280 = true := by kernel_rfl
theorem still320 : chunk still 40 320 = true := by kernel_rfl
theorem still360 : chunk still 40 360 = true := by kernel_rfl
theorem still400 : chunk still 40 400 = true := by kernel_rfl
theorem still440 : chunk still 40 440 = true := by kernel_rfl
theorem still480 : chunk still 40 480 = true := by kernel_rfl
theorem still520 : chunk still 40 520 = true := by kernel_rfl
theorem still560 : chunk still 40 560 = true := by kernel_rfl
theorem still600 : chunk still 40 600 = true := by kernel_rfl
theorem still640 : chunk still 13 640 = true := by kernel_rfl
theorem stills (t : Nat) (h : t < 653) : still t = true := by
  by_cases h0 : t < 40
  · exact chunk_iff still0 t (by omega) (by omega)
  by_cases h40 : t < 80
  · exact chunk_iff still40 t (by omega) (by omega)
  by_cases h80 : t < 120
  · exact chunk_iff still80 t (by omega) (by omega)
  by_cases h120 : t < 160
  · exact chunk_iff still120 t (by omega) (by omega)
  by_cases h160 : t < 200
  · exact chunk_iff still160 t (by omega) (by omega)
  by_cases h200 : t < 240
  · exact chunk_iff still200 t (by omega) (by omega)
  by_cases h240 : t < 280
  · exact chunk_iff still240 t (by omega) (by omega)
  by_cases h280 : t < 320
  · exact chunk_iff still280 t (by omega) (by omega)
  by_cases h320 : t < 360
  · exact chunk_iff still320 t (by omega) (by omega)
  by_cases h360 : t < 400
  · exact chunk_iff still360 t (by omega) (by omega)
  by_cases h400 : t < 440
  · exact chunk_iff still400 t (by omega) (by omega)
  by_cases h440 : t < 480
  · exact chunk_iff still440 t (by omega) (by omega)
  by_cases h480 : t < 520
  · exact chunk_iff still480 t (by omega) (by omega)
  by_cases h520 : t < 560
  · exact chunk_iff still520 t (by omega) (by omega)
  by_cases h560 : t < 600
  · exact chunk_iff still560 t (by omega) (by omega)
  by_cases h600 : t < 640
  · exact chunk_iff still600 t (by omega) (by omega)
  by_cases h640 : t < 653
  · exact chunk_iff still640 t (by omega) (by omega)
  omega
theorem goes_none (g : Nat) : (Tryz.prog.funcs[g]?).any Func.goes = false := by
  by_cases h : g < 653
  · simpa [still] using stills g h
  · have : Tryz.prog.funcs[g]? = none := by
      rw [Array.getElem?_eq_none_iff, fsize]
      omega
    rw [this]; rfl
theorem goes_not (f : FuncId) : Tryz.prog.goes f = false := by
  unfold Program.goes
  rw [Bool.or_eq_false_iff]
  constructor
  · rw [List.any_eq_false]
    intro g _ h
    rw [goes_none g] at h
    cases h
  · rw [Bool.and_eq_false_iff]
    right
    rw [Array.any_eq_false]
    intro i hi h
    have := goes_none i
    rw [Array.getElem?_eq_getElem hi] at this
    simp only [Option.any_some] at this
    rw [this] at h
    cases h
end Go.Proofs.YtbjiommpeeanmaaGreatDoor
