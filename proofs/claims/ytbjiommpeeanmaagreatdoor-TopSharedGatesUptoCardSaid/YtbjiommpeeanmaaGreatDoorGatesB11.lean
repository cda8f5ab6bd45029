/- Functions of the program and of the library keep their contracts. Conditions: none beyond each theorem's own. -/
import Derived.Test.YtbjiommpeeanmaaGreatDoorGatesB5
import Derived.Test.YtbjiommpeeanmaaGreatDoorGatesB3
import Derived.KernelRfl
set_option linter.all false
namespace Go.Eng
open Go Go.Proofs
theorem ag3_B11 : isAggT E0.P 3 = some false := by kernel_rfl
theorem sz3_B11 : sizeT E0.P 3 = some 1 := by kernel_rfl
theorem un24_B11 : E0.P.underlying 24 = some (.slice 3) := by kernel_rfl
theorem li_check (H : AHeap) (a_l : Option Addr) (n_l c_l : Nat) (l : List Int) (h_l : V (EI .i64) H a_l n_l c_l l) : WF E0 168 [.slice a_l n_l c_l] H fun q => ∃ (e : Int), q.1 = .int .i64 e ∧ Mem [] H q.2 [] ∧ (e = 0 → ∀ u ∈ l, 0 ≤ u ∧ u ≤ 2001) ∧ (0 ≤ e ∧ e ≤ 100) := by
  obtain ⟨len_l, cap_l, max_l, wf_l⟩ := h_l.len
  have m0 : Mem [] H H [] := Mem.start
  refine WF.kg Tryz.func168 rfl rfl ?_
  refine KC.seq ?_
  refine KC.region ?_
  refine KO.pv (PV.assign rfl) rfl rfl ?_
  refine KO.nil ?_
  refine KC.seq ?_
  refine KC.seq ?_
  refine KC.region ?_
  refine KO.pv (PV.move rfl) rfl rfl ?_
  refine KO.pv (PV.len un24_B11 rfl) rfl rfl ?_
  refine KO.pv (PV.move rfl) rfl rfl ?_
  refine KO.nil ?_
  refine KC.block ?_
  refine KC.sub (l' := [(5, .slice a_l n_l c_l), (6, .int .i64 (n_l : Int)), (7, .int .i64 0)]) (.cons rfl (.cons rfl (.cons rfl .nil))) ?_
  refine KC.loopN (fun kq lq A => ∃ (x7 : Int), kq = ((n_l : Int) - x7).toNat ∧ lq = [(5, .slice a_l n_l c_l), (6, .int .i64 (n_l : Int)), (7, .int .i64 x7)] ∧ Mem [] H A [] ∧ (0 ≤ x7 ∧ x7 ≤ (n_l : Int)) ∧ (Ahead l x7 fun _ u => 0 ≤ u ∧ u ≤ 2001)) ?_ (((n_l : Int) - 0).toNat) ⟨0, rfl, rfl, (m0.pick [] (by decide) rfl), (by first | omega | assumption | (constructor <;> omega)), Ahead.zero⟩
  rintro kq lq A1 ⟨x7, rfl, rfl, m2, hr2, hpre⟩
  refine KC.seq ?_
  refine KC.region ?_
  refine KO.pv (PV.lssD rfl rfl rfl) rfl rfl ?_
  refine KO.nil ?_
  refine KC.seq ?_
  refine KC.condD rfl (fun h3 => ?_) (fun h3 => ?_)
  · refine KC.skip ?_
    refine KC.seq ?_
    refine KC.block ?_
    refine KC.seq ?_
    refine KC.region ?_
    obtain ⟨b4, o4, p4, r4, e4, ha4, hb4, hr4, hx4, hw4, hc4, ht4⟩ := V.at_ h_l (z := x7) (by omega) (by omega)
    have hc4_0 : r4.cs[o4 + (x7).toNat * 1 + 0]? = some (.int .i64 e4) := hc4 0 (by decide)
    have hw4 : IntKind.i64.wrap e4 = e4 := hw4
    obtain ⟨lo4, hi4⟩ := rangei64 hw4
    refine KO.pv (PV.indexAddrZ un24_B11 sz3_B11 rfl ha4 rfl (by omega) (by omega)) rfl rfl ?_
    refine KO.load1 ag3_B11 rfl (m2.row0 hb4 hr4) hc4_0 rfl rfl ?_
    refine KO.pv (PV.assign rfl) rfl rfl ?_
    refine KO.nil ?_
    refine KC.seq ?_
    refine KC.region ?_
    refine KO.pv (PV.move rfl) rfl rfl ?_
    by_cases h5 : e4 < 0
    · refine KO.pv (PV.lssD rfl rfl (decide_eq_true h5)) rfl rfl ?_
      refine KO.pv (PV.move rfl) rfl rfl ?_
      refine KO.no rfl rfl rfl ?_
      refine KO.no rfl rfl rfl ?_
      refine KO.pv (PV.pickT rfl rfl rfl) rfl rfl ?_
      refine KO.nil ?_
      refine KC.condT rfl ?_
      refine KC.seq ?_
      refine KC.region ?_
      refine KO.pv (PV.assign rfl) rfl rfl ?_
      refine KO.nil ?_
      exact KC.ret ⟨rfl, _, (.tmp rfl .nil), 2, rfl, m2.pick [] (by decide) rfl, (by first | omega | (intro h; omega) | (simp only [List.length_nil, true_and, and_true, or_true, true_or] <;> omega) | (exact fun _ => hl)), (by first | omega | (intro h; omega) | (simp only [List.length_nil, true_and, and_true, or_true, true_or] <;> omega))⟩
    · refine KO.pv (PV.lssD rfl rfl (decide_eq_false h5)) rfl rfl ?_
      refine KO.pv (PV.move rfl) rfl rfl ?_
      refine KO.pv (PV.move rfl) rfl rfl ?_
      refine KO.pv (PV.gtrD rfl rfl rfl) rfl rfl ?_
      refine KO.pv (PV.pickF rfl rfl rfl) rfl rfl ?_
      refine KO.nil ?_
      refine KC.condD rfl (fun h6 => ?_) (fun h6 => ?_)
      · refine KC.seq ?_
        refine KC.region ?_
        refine KO.pv (PV.assign rfl) rfl rfl ?_
        refine KO.nil ?_
        exact KC.ret ⟨rfl, _, (.tmp rfl .nil), 2, rfl, m2.pick [] (by decide) rfl, (by first | omega | (intro h; omega) | (simp only [List.length_nil, true_and, and_true, or_true, true_or] <;> omega) | (exact fun _ => hl)), (by first | omega | (intro h; omega) | (simp only [List.length_nil, true_and, and_true, or_true, true_or] <;> omega))⟩
      · refine KC.skip ?_
        refine KC.region ?_
        refine KO.pv (PV.add rfl rfl (wrap64 (by omega) (by omega))) rfl rfl ?_
        refine KO.pv (PV.move rfl) rfl rfl ?_
        refine KO.nil ?_
        exact ⟨_, _, (by omega), (.cons rfl (.cons rfl (.cons rfl .nil))), (x7 + 1), rfl, rfl, (m2.pick [] (by decide) rfl), (by first | omega | assumption | (constructor <;> omega)), (hpre.step (by assumption) (by omega) (by constructor <;> omega))⟩
  · refine KC.exit ?_
    have hl := hpre.mem len_l (by omega)
    refine KC.seq ?_
    refine KC.region ?_
    refine KO.pv (PV.assign rfl) rfl rfl ?_
    refine KO.nil ?_
    exact KC.ret ⟨rfl, _, (.tmp rfl .nil), 0, rfl, m2.pick [] (by decide) rfl, (by first | omega | (intro h; omega) | (simp only [List.length_nil, true_and, and_true, or_true, true_or] <;> omega) | (exact fun _ => hl)), (by first | omega | (intro h; omega) | (simp only [List.length_nil, true_and, and_true, or_true, true_or] <;> omega))⟩
structure PredOK (n : Int) (A : List (Int × Int)) (l : Int) : Prop where
  n0 : 0 ≤ n
  n1 : n ≤ 1000
  al : n + A.length ≤ 1000
  ha : ∀ (j : Nat) p, A[j]? = some p → 0 ≤ p.2 ∧ p.2 ≤ p.1 ∧ p.1 < 2 * (n + 1 + j)
  l0 : 0 ≤ l
  l1 : l / 2 ≤ n + A.length
end Go.Eng
