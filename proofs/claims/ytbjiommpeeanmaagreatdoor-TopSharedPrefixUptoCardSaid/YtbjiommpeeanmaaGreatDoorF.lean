/- Closed facts about types and fields of the program. Conditions: none beyond each theorem's own. -/
import Derived.Test.YtbjiommpeeanmaaGreatDoorProg
import Derived.Test.YtbjiommpeeanmaaGreatDoorEngC
import Derived.Test.YtbjiommpeeanmaaGreatDoorEngD
import Derived.KernelRfl
set_option linter.all false
namespace Go.Eng
open Go Go.Proofs
noncomputable def Eb : Env := { P := Tryz.prog, G := 8, ext := lookF [] }
noncomputable def E0 : Env := { P := Tryz.prog, G := 8, ext := lookF [], sum := fun f => bif Nat.beq f 19 then some (known (.bool true)) else bif Nat.beq f 121 then some (sortS Eb 121 mergeI) else bif Nat.beq f 516 then some (editS Eb 516 compactE) else bif Nat.beq f 564 then some (editS Eb 564 deleteE) else none }
end Go.Eng
