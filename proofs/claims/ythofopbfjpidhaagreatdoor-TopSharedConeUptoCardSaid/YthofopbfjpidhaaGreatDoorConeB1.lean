/- Functions of the program and of the library keep their contracts. Conditions: none beyond each theorem's own. -/
import Derived.Test.YthofopbfjpidhaaGreatDoorF
import Derived.KernelRfl
set_option linter.all false
namespace Go.Eng
open Go Go.Proofs
structure AsgOK (v : Int) (T S : List Int) : Prop where
  v0 : 0 ≤ v
  v1 : v ≤ 4000
  t : ∀ u ∈ T, 2 ≤ u ∧ u / 2 ≤ v
  td : ∀ (i j : Nat) (x y : Int), i < j → T[i]? = some x → T[j]? = some y → x / 2 ≠ y / 2
  s : ∀ u ∈ S, 0 ≤ u ∧ u < T.length
  n : (T.length : Int) ≤ v + 1
  m : S.length ≤ T.length
structure ClOK (v : Int) (c : List Int) : Prop where
  v0 : 0 ≤ v
  v1 : v ≤ 4000
  l : ∀ u ∈ c, 2 ≤ u ∧ u / 2 ≤ v
  lt : ∀ (i : Nat) x y, c[i]? = some x → c[i + 1]? = some y → x < y
  n : (c.length : Int) ≤ 2 * v + 2
end Go.Eng
