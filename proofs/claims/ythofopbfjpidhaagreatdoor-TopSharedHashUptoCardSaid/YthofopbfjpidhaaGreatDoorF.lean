/- Closed facts about types and fields of the program. Conditions: none beyond each theorem's own. -/
import Derived.Test.YthofopbfjpidhaaGreatDoorProg
import Derived.Test.YthofopbfjpidhaaGreatDoorEngC
import Derived.Test.YthofopbfjpidhaaGreatDoorEngD
import Derived.KernelRfl
set_option linter.all false
namespace Go.Eng
open Go Go.Proofs
noncomputable def Eb : Env := { P := Tryz.prog, G := 8, ext := lookF [] }
noncomputable def E0 : Env := { P := Tryz.prog, G := 8, ext := lookF [], sum := fun f => bif Nat.beq f 20 then some (known (.bool true)) else bif Nat.beq f 470 then some (sortS Eb 470 mergeI) else bif Nat.beq f 471 then some (editS Eb 471 compactE) else bif Nat.beq f 523 then some (editS Eb 523 deleteE) else none }
end Go.Eng
