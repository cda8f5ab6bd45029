/- Functions of the program and of the library keep their contracts. Conditions: none beyond each theorem's own. -/
import Derived.Test.YtbjiommpeeanmaaGreatDoorF
import Derived.KernelRfl
set_option linter.all false
namespace Go.Eng
open Go Go.Proofs
theorem sort_empty (a : Option Addr) (H : AHeap) : callA Eb 60 121 [.slice a 0 0] H = some (.tuple #[], H) := by kernel_rfl
theorem Sort_int (H : AHeap) (a_s : Option Addr) (n_s : Nat) (s : List Int) (D_s : List Nat) (h_s : (R.lst 3 1 a_s n_s (cells (EI .i64) s) D_s).ok H) (lt_s : ∀ j ∈ D_s, j < H.next) (wf_s : ∀ u ∈ s, (EI .i64).wf u) (hm : n_s ≤ 1000000000) : WF E0 121 [.slice a_s n_s n_s] H fun q => ∃ (ys : List Int), q.1 = .tuple #[] ∧ Mem D_s H q.2 [R.lst 3 1 a_s n_s (cells (EI .i64) ys) D_s] ∧ (ys.length = n_s) ∧ (∀ u, u ∈ ys ↔ u ∈ s) ∧ (ys.Pairwise (· ≤ ·)) ∧ (∀ u ∈ ys, (EI .i64).wf u) := by
  have m0 : Mem D_s H H [R.lst 3 1 a_s n_s (cells (EI .i64) s) D_s] := Mem.startR (r := R.lst 3 1 a_s n_s (cells (EI .i64) s) D_s) h_s (Gr.nd h_s) lt_s
  have hl : s.length = n_s := m0.lstLen (E := EI .i64) (i := 0) rfl
  have hfin : (mergeI s).length = n_s ∧ (∀ u, u ∈ mergeI s ↔ u ∈ s) ∧ (mergeI s).Pairwise (· ≤ ·) ∧ ∀ u ∈ mergeI s, (EI .i64).wf u := ⟨by rw [mergeI_length, hl], mergeI_mem s, mergeI_sorted s, fun u hu => wf_s u ((mergeI_mem s u).1 hu)⟩
  rcases Nat.eq_zero_or_pos n_s with h0 | h0
  · subst h0
    obtain rfl := List.length_eq_zero_iff.1 hl
    obtain ⟨r, hr, hq⟩ := evalA_of (E := Eb) (f := 121) (args := [.slice a_s 0 0]) (H := H) (Q := fun q => q = (.tuple #[], H)) ⟨60, _, sort_empty a_s H, rfl⟩
    subst hq
    exact WF.told (s := sortS Eb 121 mergeI) rfl (by simp only [sortS, if_pos]; exact hr) ⟨[], rfl, m0, rfl, fun u => Iff.rfl, .nil, fun u h => absurd h List.not_mem_nil⟩
  · exact (WF.sorts (g := mergeI) rfl mergeI_length h_s lt_s h0 hm).mono fun q hq => ⟨_, hq.1, hq.2, hfin⟩
structure AsgOK (v : Int) (T S : List Int) : Prop where
  v0 : 0 ≤ v
  v1 : v ≤ 4000
  t : ∀ u ∈ T, 2 ≤ u ∧ u / 2 ≤ v
  td : ∀ (i j : Nat) (x y : Int), i < j → T[i]? = some x → T[j]? = some y → x / 2 ≠ y / 2
  s : ∀ u ∈ S, 0 ≤ u ∧ u < T.length
  n : (T.length : Int) ≤ v + 1
  m : S.length ≤ T.length
structure ClOK (v : Int) (c : List Int) : Prop where
  v0 : 0 ≤ v
  v1 : v ≤ 4000
  l : ∀ u ∈ c, 2 ≤ u ∧ u / 2 ≤ v
  lt : ∀ (i : Nat) x y, c[i]? = some x → c[i + 1]? = some y → x < y
  n : (c.length : Int) ≤ 2 * v + 2
end Go.Eng
