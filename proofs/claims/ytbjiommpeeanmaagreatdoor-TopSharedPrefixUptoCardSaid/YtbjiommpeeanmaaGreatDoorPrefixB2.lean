/- Functions of the program and of the library keep their contracts. Conditions: none beyond each theorem's own. -/
import Derived.Test.YtbjiommpeeanmaaGreatDoorPrefixB1
import Derived.KernelRfl
set_option linter.all false
namespace Go.Eng
open Go Go.Proofs
theorem ag3_B2 : isAggT E0.P 3 = some false := by kernel_rfl
theorem sz3_B2 : sizeT E0.P 3 = some 1 := by kernel_rfl
theorem un24_B2 : E0.P.underlying 24 = some (.slice 3) := by kernel_rfl
theorem IndexFunc_int (H : AHeap) (a_s : Option Addr) (n_s c_s : Nat) (s : List Int) (g_f : FuncId) (cap_f : List Value) (Pf : Int → Bool → Prop) (h_s : V (EI .i64) H a_s n_s c_s s) (x_f : E0.ext g_f = none) (h_f : ∀ A, Mem [] H A [] → ∀ u ∈ s, WF E0 g_f ([.int .i64 u] ++ cap_f) A fun q => ∃ b : Bool, q.1 = .bool b ∧ Mem [] A q.2 [] ∧ Pf u b) : WF E0 166 [.slice a_s n_s c_s, .func (.func g_f) #[] cap_f.toArray] H fun q => ∃ (z : Int), q.1 = .int .i64 z ∧ Mem [] H q.2 [] ∧ (-1 ≤ z ∧ z < n_s) ∧ (z < 0 → ∀ u ∈ s, Pf u false) ∧ (0 ≤ z → ∃ u, s[z.toNat]? = some u ∧ Pf u true) := by
  obtain ⟨len_s, cap_s, max_s, wf_s⟩ := h_s.len
  have m0 : Mem [] H H [] := Mem.start
  refine WF.kg Tryz.func166 rfl rfl ?_
  refine KC.seq ?_
  refine KC.region ?_
  refine KO.pv (PV.assign rfl) rfl rfl ?_
  refine KO.nil ?_
  refine KC.seq ?_
  refine KC.seq ?_
  refine KC.region ?_
  refine KO.pv (PV.move rfl) rfl rfl ?_
  refine KO.pv (PV.len un24_B2 rfl) rfl rfl ?_
  refine KO.pv (PV.move rfl) rfl rfl ?_
  refine KO.nil ?_
  refine KC.block ?_
  refine KC.sub (l' := [(0, .slice a_s n_s c_s), (1, .func (.func g_f) #[] cap_f.toArray), (4, .int .i64 0), (7, .int .i64 (n_s : Int)), (8, .int .i64 0)]) (.cons rfl (.cons rfl (.cons rfl (.cons rfl (.cons rfl .nil))))) ?_
  refine KC.loopN (fun kq lq A => ∃ (i : Int), kq = ((n_s : Int) - i).toNat ∧ lq = [(0, .slice a_s n_s c_s), (1, .func (.func g_f) #[] cap_f.toArray), (4, .int .i64 0), (7, .int .i64 (n_s : Int)), (8, .int .i64 i)] ∧ Mem [] H A [] ∧ (0 ≤ i ∧ i ≤ n_s) ∧ (Ahead s i fun _ u => Pf u false)) ?_ (((n_s : Int) - 0).toNat) ⟨0, rfl, rfl, (m0.pick [] (by decide) rfl), (by omega), Ahead.zero⟩
  rintro kq lq A1 ⟨i, rfl, rfl, m2, hi, hpre⟩
  refine KC.seq ?_
  refine KC.region ?_
  refine KO.pv (PV.lssD rfl rfl rfl) rfl rfl ?_
  refine KO.nil ?_
  refine KC.seq ?_
  refine KC.condD rfl (fun h3 => ?_) (fun h3 => ?_)
  · refine KC.skip ?_
    refine KC.seq ?_
    refine KC.block ?_
    refine KC.seq ?_
    refine KC.region ?_
    refine KO.pv (PV.move rfl) rfl rfl ?_
    refine KO.pv (PV.assign rfl) rfl rfl ?_
    refine KO.nil ?_
    refine KC.seq ?_
    refine KC.region ?_
    refine KO.pv (PV.move rfl) rfl rfl ?_
    refine KO.pv (PV.move rfl) rfl rfl ?_
    refine KO.pv (PV.move rfl) rfl rfl ?_
    obtain ⟨b4, o4, p4, r4, e4, ha4, hb4, hr4, hx4, hw4, hc4, ht4⟩ := V.at_ h_s (z := i) (by omega) (by omega)
    have hc4_0 : r4.cs[o4 + (i).toNat * 1 + 0]? = some (.int .i64 e4) := hc4 0 (by decide)
    have hw4 : IntKind.i64.wrap e4 = e4 := hw4
    obtain ⟨lo4, hi4⟩ := rangei64 hw4
    refine KO.pv (PV.indexAddrZ un24_B2 sz3_B2 rfl ha4 rfl (by omega) (by omega)) rfl rfl ?_
    refine KO.load1 ag3_B2 rfl (m2.row0 hb4 hr4) hc4_0 rfl rfl ?_
    refine KO.callV rfl x_f rfl rfl rfl (h_f A1 (m2.pick [] (by decide) rfl) _ (List.mem_of_getElem? hx4)) fun v5 H5 q5 => ?_
    obtain ⟨b5, hv5, mc5, pf5⟩ := q5
    dsimp only at hv5 mc5
    subst hv5
    have m6 := m2.seq mc5
    refine KO.nil ?_
    refine KC.cond rfl (fun h7 => ?_) (fun h7 => ?_)
    · subst h7
      refine KC.seq ?_
      refine KC.region ?_
      refine KO.pv (PV.move rfl) rfl rfl ?_
      refine KO.pv (PV.assign rfl) rfl rfl ?_
      refine KO.nil ?_
      exact KC.ret ⟨rfl, _, (.tmp rfl .nil), i, rfl, m6.pick [] (by decide) rfl, (by first | omega | (intro h; omega) | (simp only [List.length_nil, true_and, and_true, or_true, true_or] <;> omega)), (by first | omega | (intro h; omega) | (simp only [List.length_nil, true_and, and_true, or_true, true_or] <;> omega) | (exact fun h => by omega) | (exact fun _ => hpre.mem len_s (by omega))), (by first | omega | (intro h; omega) | (simp only [List.length_nil, true_and, and_true, or_true, true_or] <;> omega) | (exact fun _ => ⟨_, by assumption, by subst_vars; assumption⟩) | (exact fun h => by omega))⟩
    · subst h7
      refine KC.skip ?_
      refine KC.region ?_
      refine KO.pv (PV.add rfl rfl (wrap64 (by omega) (by omega))) rfl rfl ?_
      refine KO.pv (PV.move rfl) rfl rfl ?_
      refine KO.nil ?_
      exact ⟨_, _, (by omega), (.cons rfl (.cons rfl (.cons rfl (.cons rfl (.cons rfl .nil))))), (i + 1), rfl, rfl, (m6.pick [] (by decide) rfl), (by omega), (hpre.step (by assumption) (by omega) (by subst_vars; assumption))⟩
  · refine KC.exit ?_
    refine KC.seq ?_
    refine KC.region ?_
    refine KO.pv (PV.assign rfl) rfl rfl ?_
    refine KO.nil ?_
    exact KC.ret ⟨rfl, _, (.tmp rfl .nil), (-1), rfl, m2.pick [] (by decide) rfl, (by first | omega | (intro h; omega) | (simp only [List.length_nil, true_and, and_true, or_true, true_or] <;> omega)), (by first | omega | (intro h; omega) | (simp only [List.length_nil, true_and, and_true, or_true, true_or] <;> omega) | (exact fun h => by omega) | (exact fun _ => hpre.mem len_s (by omega))), (by first | omega | (intro h; omega) | (simp only [List.length_nil, true_and, and_true, or_true, true_or] <;> omega) | (exact fun _ => ⟨_, by assumption, by subst_vars; assumption⟩) | (exact fun h => by omega))⟩
theorem ContainsFunc_int (H : AHeap) (a_s : Option Addr) (n_s c_s : Nat) (s : List Int) (g_f : FuncId) (cap_f : List Value) (Pf : Int → Bool → Prop) (h_s : V (EI .i64) H a_s n_s c_s s) (x_f : E0.ext g_f = none) (h_f : ∀ A, Mem [] H A [] → ∀ u ∈ s, WF E0 g_f ([.int .i64 u] ++ cap_f) A fun q => ∃ b : Bool, q.1 = .bool b ∧ Mem [] A q.2 [] ∧ Pf u b) : WF E0 116 [.slice a_s n_s c_s, .func (.func g_f) #[] cap_f.toArray] H fun q => ∃ (c : Bool), q.1 = .bool c ∧ Mem [] H q.2 [] ∧ (c = false → ∀ u ∈ s, Pf u false) ∧ (c = true → ∃ u ∈ s, Pf u true) := by
  obtain ⟨len_s, cap_s, max_s, wf_s⟩ := h_s.len
  have m0 : Mem [] H H [] := Mem.start
  refine WF.kg Tryz.func116 rfl rfl ?_
  refine KC.seq ?_
  refine KC.region ?_
  refine KO.pv (PV.assign rfl) rfl rfl ?_
  refine KO.nil ?_
  refine KC.seq ?_
  refine KC.region ?_
  refine KO.pv (PV.move rfl) rfl rfl ?_
  refine KO.pv (PV.move rfl) rfl rfl ?_
  refine KO.call rfl rfl rfl rfl (IndexFunc_int H a_s n_s c_s s g_f cap_f Pf h_s x_f h_f) fun v1 H1 q1 => ?_
  obtain ⟨z1, hv1, mc1, p1_0, p1_1, p1_2⟩ := q1
  dsimp only at hv1 mc1
  subst hv1
  have m1 := m0.seq mc1
  refine KO.pv (PV.geqD rfl rfl rfl) rfl rfl ?_
  refine KO.pv (PV.assign rfl) rfl rfl ?_
  refine KO.nil ?_
  exact KC.ret ⟨rfl, _, (.tmp rfl .nil), (decide (0 ≤ z1)), rfl, m1.pick [] (by decide) rfl, (fun h => p1_1 (by have := of_decide_eq_false h; omega)), (fun h => by obtain ⟨u, h1, h2⟩ := p1_2 (by have := of_decide_eq_true h; omega); exact ⟨u, List.mem_of_getElem? h1, h2⟩)⟩
end Go.Eng
