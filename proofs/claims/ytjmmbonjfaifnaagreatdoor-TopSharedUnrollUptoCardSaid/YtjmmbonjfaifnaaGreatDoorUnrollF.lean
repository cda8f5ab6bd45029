/- Closed facts about types and fields of the program. Conditions: none beyond each theorem's own. -/
import Derived.Test.YtjmmbonjfaifnaaGreatDoorProg
import Derived.Test.YtjmmbonjfaifnaaGreatDoorUnrollEngC
import Derived.Test.YtjmmbonjfaifnaaGreatDoorUnrollEngD
import Derived.KernelRfl
set_option linter.all false
namespace Go.Eng
open Go Go.Proofs
/-- The program, and what is known of its functions. -/
noncomputable def Eb : Env := { P := Tryz.prog, G := 8, ext := lookF [] }
noncomputable def E0 : Env := { P := Tryz.prog, G := 8, ext := lookF [], sum := fun f => bif Nat.beq f 17 then some (known (.bool true)) else bif Nat.beq f 82 then some (sortS Eb 82 mergeI) else bif Nat.beq f 83 then some (editS Eb 83 compactE) else bif Nat.beq f 94 then some (editS Eb 94 deleteE) else none }
end Go.Eng
