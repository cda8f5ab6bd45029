/- Functions of the program and of the library keep their contracts. Conditions: none beyond each theorem's own. -/
import Derived.Test.YtbjiommpeeanmaaGreatDoorF
import Derived.KernelRfl
set_option linter.all false
namespace Go.Eng
open Go Go.Proofs
theorem el24_B1 : elemT E0.P 24 = some 3 := by kernel_rfl
theorem ez3_B1 : elemZ E0.P 3 = some (1, [.int .i64 0]) := by kernel_rfl
theorem sb3_B1 : smallBytes E0.P 3 = true := by kernel_rfl
theorem un24_B1 : E0.P.underlying 24 = some (.slice 3) := by kernel_rfl
theorem Clone_int (H : AHeap) (a_s : Option Addr) (n_s c_s : Nat) (s : List Int) (h_s : V (EI .i64) H a_s n_s c_s s) (hm : n_s ≤ 330000000) : WF E0 91 [.slice a_s n_s c_s] H fun q => ∃ (a : Option Addr) (n : Nat) (xs : List Int) (D : List Nat), q.1 = .slice a n n ∧ Mem [] H q.2 [R.lst 3 1 a n (cells (EI .i64) xs) D] ∧ (xs = s) ∧ (n = n_s) ∧ (xs.length = n) ∧ (∀ u ∈ xs, (EI .i64).wf u) := by
  obtain ⟨len_s, cap_s, max_s, wf_s⟩ := h_s.len
  have m0 : Mem [] H H [] := Mem.start
  refine WF.kg Tryz.func91 rfl rfl ?_
  refine KC.seq ?_
  refine KC.region ?_
  refine KO.pv (PV.assign rfl) rfl rfl ?_
  refine KO.nil ?_
  refine KC.seq ?_
  refine KC.seq ?_
  refine KC.region ?_
  refine KO.pv (PV.move rfl) rfl rfl ?_
  obtain ⟨b1, qb1⟩ : ∃ b : Bool, isNone a_s = b := ⟨_, rfl⟩
  refine KO.pv (PV.eqNilB un24_B1 rfl qb1) rfl rfl ?_
  refine KO.nil ?_
  refine KC.cond rfl (fun h2 => ?_) (fun h2 => ?_)
  · subst h2
    obtain rfl := h_s.nil0 (by assumption)
    obtain rfl := List.length_eq_zero_iff.1 len_s
    refine KC.seq ?_
    refine KC.region ?_
    refine KO.pv (PV.assign rfl) rfl rfl ?_
    refine KO.nil ?_
    have m3 := m0.lnilC (EI .i64) (e := 3) none rfl
    exact KC.ret ⟨rfl, _, (.tmp rfl .nil), none, 0, [], [], rfl, m3.pick [0] (by decide) rfl, (by first | omega | (intro h; omega) | (simp only [List.length_nil, true_and, and_true, or_true, true_or] <;> omega) | rfl | (simp only [List.nil_append])), (by first | omega | (intro h; omega) | (simp only [List.length_nil, true_and, and_true, or_true, true_or] <;> omega)), (by first | omega | (intro h; omega) | (simp only [List.length_nil, true_and, and_true, or_true, true_or] <;> omega) | rfl | assumption), (by first | omega | (intro h; omega) | (simp only [List.length_nil, true_and, and_true, or_true, true_or] <;> omega) | exact wf_s | exact all_nil)⟩
  · subst h2
    refine KC.skip ?_
    refine KC.seq ?_
    refine KC.region ?_
    refine KO.buildSliceM m0 el24_B1 ez3_B1 rfl rfl (show _ = some [] from rfl) rfl rfl fun H4 m5 => ?_
    refine KO.pv (PV.move rfl) rfl rfl ?_
    have m6 := m5.lnilC (EI .i64) (e := 3) (some ⟨H.next, 0, none⟩) rfl
    refine KO.appendC0 (C := (EI .i64)) m6 (i := 0) rfl el24_B1 ez3_B1 sb3_B1 un24_B1 rfl rfl (V.new (V.mem m6 h_s)) (by first | omega | (simp only [splice, List.length_append, List.length_set, List.length_replicate, List.length_map, List.length_take, List.length_drop, List.length_cons, List.length_nil] <;> omega)) (by first | omega | (simp only [splice, List.length_append, List.length_set, List.length_replicate, List.length_map, List.length_take, List.length_drop, List.length_cons, List.length_nil] <;> omega)) rfl rfl fun a8 D9 H7 m10 => ?_
    refine KO.pv (PV.assign rfl) rfl rfl ?_
    refine KO.nil ?_
    exact KC.ret ⟨rfl, _, (.tmp rfl .nil), a8, n_s, s, D9, rfl, m10.pick [0] (by decide) rfl, (by first | omega | (intro h; omega) | (simp only [List.length_nil, true_and, and_true, or_true, true_or] <;> omega) | rfl | (simp only [List.nil_append])), (by first | omega | (intro h; omega) | (simp only [List.length_nil, true_and, and_true, or_true, true_or] <;> omega)), (by first | omega | (intro h; omega) | (simp only [List.length_nil, true_and, and_true, or_true, true_or] <;> omega) | rfl | assumption), (by first | omega | (intro h; omega) | (simp only [List.length_nil, true_and, and_true, or_true, true_or] <;> omega) | exact wf_s | exact all_nil)⟩
structure AsgOK (v : Int) (T S : List Int) : Prop where
  v0 : 0 ≤ v
  v1 : v ≤ 4000
  t : ∀ u ∈ T, 2 ≤ u ∧ u / 2 ≤ v
  td : ∀ (i j : Nat) (x y : Int), i < j → T[i]? = some x → T[j]? = some y → x / 2 ≠ y / 2
  s : ∀ u ∈ S, 0 ≤ u ∧ u < T.length
  n : (T.length : Int) ≤ v + 1
  m : S.length ≤ T.length
structure ClOK (v : Int) (c : List Int) : Prop where
  v0 : 0 ≤ v
  v1 : v ≤ 4000
  l : ∀ u ∈ c, 2 ≤ u ∧ u / 2 ≤ v
  lt : ∀ (i : Nat) x y, c[i]? = some x → c[i + 1]? = some y → x < y
  n : (c.length : Int) ≤ 2 * v + 2
end Go.Eng
