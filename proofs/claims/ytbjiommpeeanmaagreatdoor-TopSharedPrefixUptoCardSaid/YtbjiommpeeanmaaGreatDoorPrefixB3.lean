/- Functions of the program and of the library keep their contracts. Conditions: none beyond each theorem's own. -/
import Derived.Test.YtbjiommpeeanmaaGreatDoorPrefixB2
import Derived.KernelRfl
set_option linter.all false
namespace Go.Eng
open Go Go.Proofs
end Go.Eng
