/- The closed facts of the row, one by one. Conditions: none. -/
import Derived.Test.YtbjiommpeeanmaaGreatDoorPrefixNamed
namespace Go.Proofs.YtbjiommpeeanmaaGreatDoor
open Go
theorem q1 : dC.wf (OpenSpec.ofChange dS) = true := by kernel_rfl
theorem q3 : mapsRowed Tryz.prog = true := by kernel_rfl
theorem q4 : Tryz.f3.params.all (Tryz.prog.readableRec ·) = true := by kernel_rfl
theorem q5 : namedTie Tryz.prog dC.named dS.vars = true := by kernel_rfl
theorem q7 : (Tryz.prog.stops == []) = true := by kernel_rfl
theorem q9 : (Tryz.prog.stopKnobs == []) = true := by kernel_rfl
theorem q14 : (dC.maps == (Tryz.f3.params.toList ++ dS.plain.varTypes Tryz.prog).any (Tryz.prog.mapsRec ·)) = true := by kernel_rfl
theorem q15 : (dC.ifaces == (Tryz.f3.params.toList ++ dS.plain.varTypes Tryz.prog).any (Tryz.prog.ifacesRec ·)) = true := by kernel_rfl
theorem q16 : (dC.mapsOut == Tryz.prog.mapsAmong Tryz.f3.resultTypes.toList) = true := by kernel_rfl
theorem q17 : (dC.loops == (Tryz.f3.params.toList ++ dS.plain.varTypes Tryz.prog).any (Tryz.prog.loopsFrom ·)) = true := by kernel_rfl
theorem q17b : (dC.wideKeys == (Tryz.f3.params.toList ++ dS.plain.varTypes Tryz.prog ++ Tryz.f3.resultTypes.toList).any (Tryz.prog.wideKeysFrom ·)) = true := by kernel_rfl
theorem q18 : dS.vars.all (Tryz.prog.varReadable ·) = true := by kernel_rfl
theorem q19 : Tryz.f3.resultTypes.all (fun t => Tryz.prog.readableRec t && decide (t < Tryz.prog.types.size)) = true := by kernel_rfl
theorem q20 : (dC.ifacesOut == Tryz.f3.resultTypes.toList.any (Tryz.prog.ifacesRec ·)) = true := by kernel_rfl
theorem q21 : (dC.loopsOut == Tryz.f3.resultTypes.toList.any (Tryz.prog.loopsFrom ·)) = true := by kernel_rfl
theorem q22 : (dC.plainKeys == Tryz.prog.plainKeys) = true := by kernel_rfl
theorem q23b : Tryz.prog.stopsHeard = true := by kernel_rfl
theorem q24 : Tryz.prog.mayEnter = true := by kernel_rfl
theorem q24b : (dC.lifted == Tryz.prog.liftsFinal) = true := by kernel_rfl
theorem q24c : (Tryz.prog.make == some dC.make) = true := by kernel_rfl
theorem q27 : (dC.veiled == (Tryz.f3.params.toList ++ dS.plain.varTypes Tryz.prog ++ Tryz.f3.resultTypes.toList).any (Tryz.prog.veiledRec ·)) = true := by kernel_rfl
theorem q28 : dC.veiledFits Tryz.prog Tryz.f3.params.toList (Tryz.f3.params.toList ++ dS.plain.varTypes Tryz.prog ++ Tryz.f3.resultTypes.toList) = true := by kernel_rfl
end Go.Proofs.YtbjiommpeeanmaaGreatDoor
