/- Functions of the program and of the library keep their contracts. Conditions: none beyond each theorem's own. -/
import Derived.Test.YtbjiommpeeanmaaGreatDoorPrefixB2
import Derived.KernelRfl
set_option linter.all false
namespace Go.Eng
open Go Go.Proofs
theorem ag3_B5 : isAggT E0.P 3 = some false := by kernel_rfl
theorem sz3_B5 : sizeT E0.P 3 = some 1 := by kernel_rfl
theorem ag24_B5 : isAggT E0.P 24 = some false := by kernel_rfl
theorem un24_B5 : E0.P.underlying 24 = some (.slice 3) := by kernel_rfl
theorem zt179_B5 : zeroT E0.P 179 = some [.int .i64 0, .int .i64 0, .int .i64 0, .int .i64 0] := by kernel_rfl
theorem fo26_0_B5 : foff E0.P 26 0 = some 0 := by kernel_rfl
theorem fo26_1_B5 : foff E0.P 26 1 = some 1 := by kernel_rfl
theorem ag22_B5 : isAggT E0.P 22 = some false := by kernel_rfl
theorem un22_B5 : E0.P.underlying 22 = some (.slice 150) := by kernel_rfl
theorem fo26_2_B5 : foff E0.P 26 2 = some 2 := by kernel_rfl
theorem ag23_B5 : isAggT E0.P 23 = some false := by kernel_rfl
theorem un23_B5 : E0.P.underlying 23 = some (.slice 187) := by kernel_rfl
theorem bl179_0i64_1i64_2i64_3i64_B5 (v0 : Int) (v1 : Int) (v2 : Int) (v3 : Int) : buildA E0.P 179 [(0, .int .i64 v0), (1, .int .i64 v1), (2, .int .i64 v2), (3, .int .i64 v3)] = some (.agg #[.int .i64 v0, .int .i64 v1, .int .i64 v2, .int .i64 v3]) := by kernel_rfl
theorem sz179_B5 : sizeT E0.P 179 = some 4 := by kernel_rfl
theorem ag179_B5 : isAggT E0.P 179 = some true := by kernel_rfl
theorem sz150_B5 : sizeT E0.P 150 = some 2 := by kernel_rfl
theorem ag150_B5 : isAggT E0.P 150 = some true := by kernel_rfl
theorem un179_B5 : E0.P.underlying 179 = some (.array 4 3) := by kernel_rfl
theorem ag182_B5 : isAggT E0.P 182 = some false := by kernel_rfl
theorem fo150_0_B5 : foff E0.P 150 0 = some 0 := by kernel_rfl
theorem fo150_1_B5 : foff E0.P 150 1 = some 1 := by kernel_rfl
theorem ag26_B5 : isAggT E0.P 26 = some true := by kernel_rfl
theorem sz26_B5 : sizeT E0.P 26 = some 5 := by kernel_rfl
theorem fo26_3_B5 : foff E0.P 26 3 = some 3 := by kernel_rfl
theorem fo26_4_B5 : foff E0.P 26 4 = some 4 := by kernel_rfl
theorem zt182_B5 : zeroT E0.P 182 = some [.nilFunc] := by kernel_rfl
theorem sz182_B5 : sizeT E0.P 182 = some 1 := by kernel_rfl
theorem sz187_B5 : sizeT E0.P 187 = some 2 := by kernel_rfl
theorem ag187_B5 : isAggT E0.P 187 = some true := by kernel_rfl
theorem zt187_B5 : zeroT E0.P 187 = some [.int .i64 0, .int .i64 0] := by kernel_rfl
theorem fo187_1_B5 : foff E0.P 187 1 = some 1 := by kernel_rfl
theorem fo187_0_B5 : foff E0.P 187 0 = some 0 := by kernel_rfl
structure CirOK (i : Int) (L A : List (Int × Int)) (B C : List Int) : Prop where
  i0 : 0 ≤ i
  all : i + L.length + A.length ≤ 1000
  b : B.length ≤ 100
  c : C.length ≤ 100
  hb : ∀ u ∈ B, 0 ≤ u ∧ u / 2 < 1 + i + L.length + A.length
  hc : ∀ u ∈ C, 0 ≤ u ∧ u / 2 < 1 + i + L.length + A.length
  hl : ∀ p ∈ L, (0 ≤ p.1 ∧ p.1 / 2 < 1 + i + L.length + A.length) ∧ 0 ≤ p.2 ∧ p.2 ≤ 2
  ha : ∀ (j : Nat) p, A[j]? = some p → 0 ≤ p.2 ∧ p.2 ≤ p.1 ∧ p.1 < 2 * (1 + i + L.length + j)
theorem gates_starts (H : AHeap) (ci : Int) (a_cL : Option Addr) (n_cL c_cL : Nat) (cL : List (Int × Int)) (a_cA : Option Addr) (n_cA c_cA : Nat) (cA : List (Int × Int)) (a_cB : Option Addr) (n_cB c_cB : Nat) (cB : List Int) (a_cC : Option Addr) (n_cC c_cC : Nat) (cC : List Int) (w_ci : IntKind.i64.wrap ci = ci) (h_cL : V EP H a_cL n_cL c_cL cL) (h_cA : V EP H a_cA n_cA c_cA cA) (h_cB : V (EI .i64) H a_cB n_cB c_cB cB) (h_cC : V (EI .i64) H a_cC n_cC c_cC cC) (c0 : 0 ≤ ci) (c1 : ci ≤ 1000) : WF E0 113 [.agg #[.int .i64 ci, .slice a_cL n_cL c_cL, .slice a_cA n_cA c_cA, .slice a_cB n_cB c_cB, .slice a_cC n_cC c_cC]] H fun q => q.1 = .agg #[.int .i64 1, .int .i64 (1 + ci), .int .i64 ((1 + ci) + (n_cL : Int)), .int .i64 (((1 + ci) + (n_cL : Int)) + (n_cA : Int))] ∧ Mem [] H q.2 [] := by
  obtain ⟨lo_ci, hi_ci⟩ := rangei64 w_ci
  obtain ⟨len_cL, cap_cL, max_cL, wf_cL⟩ := h_cL.len
  obtain ⟨len_cA, cap_cA, max_cA, wf_cA⟩ := h_cA.len
  obtain ⟨len_cB, cap_cB, max_cB, wf_cB⟩ := h_cB.len
  obtain ⟨len_cC, cap_cC, max_cC, wf_cC⟩ := h_cC.len
  have m0 : Mem [] H H [] := Mem.start
  refine WF.kg Tryz.func113 rfl rfl ?_
  refine KC.seq ?_
  refine KC.region ?_
  refine KO.boxM m0 rfl rfl (show _ = [.int .i64 ci, .slice a_cL n_cL c_cL, .slice a_cA n_cA c_cA, .slice a_cB n_cB c_cB, .slice a_cC n_cC c_cC] from rfl) rfl rfl fun H1 m2 => ?_
  refine KO.allocM m2 zt179_B5 rfl rfl fun H3 m4 => ?_
  refine KO.nil ?_
  refine KC.seq ?_
  refine KC.region ?_
  refine KO.pv (PV.fieldAddr fo26_0_B5 rfl) rfl rfl ?_
  refine KO.load1 ag3_B5 rfl (m4.row (i := 1) rfl) rfl rfl rfl ?_
  refine KO.pv (PV.add rfl rfl (wrap64 (by omega) (by omega))) rfl rfl ?_
  refine KO.pv (PV.assign rfl) rfl rfl ?_
  refine KO.nil ?_
  refine KC.seq ?_
  refine KC.region ?_
  refine KO.pv (PV.move rfl) rfl rfl ?_
  refine KO.pv (PV.fieldAddr fo26_1_B5 rfl) rfl rfl ?_
  refine KO.load1 ag22_B5 rfl (m4.row (i := 1) rfl) rfl rfl rfl ?_
  refine KO.pv (PV.len un22_B5 rfl) rfl rfl ?_
  refine KO.pv (PV.add rfl rfl (wrap64 (by omega) (by omega))) rfl rfl ?_
  refine KO.pv (PV.assign rfl) rfl rfl ?_
  refine KO.nil ?_
  refine KC.seq ?_
  refine KC.region ?_
  refine KO.pv (PV.move rfl) rfl rfl ?_
  refine KO.pv (PV.move rfl) rfl rfl ?_
  refine KO.pv (PV.move rfl) rfl rfl ?_
  refine KO.pv (PV.fieldAddr fo26_2_B5 rfl) rfl rfl ?_
  refine KO.load1 ag23_B5 rfl (m4.row (i := 1) rfl) rfl rfl rfl ?_
  refine KO.pv (PV.len un23_B5 rfl) rfl rfl ?_
  refine KO.pv (PV.add rfl rfl (wrap64 (by omega) (by omega))) rfl rfl ?_
  refine KO.pv (PV.build rfl (bl179_0i64_1i64_2i64_3i64_B5 _ _ _ _)) rfl rfl ?_
  refine KO.storeM m4 (i := 0) rfl sz179_B5 rfl rfl rfl (show 0 + 4 ≤ 4 by decide) (show _ = [.int .i64 1, .int .i64 (1 + ci), .int .i64 ((1 + ci) + (n_cL : Int)), .int .i64 (((1 + ci) + (n_cL : Int)) + (n_cA : Int))] from rfl) rfl fun H5 m6 => ?_
  refine KO.nil ?_
  exact KC.ret ⟨rfl, _, (.cell rfl (ldN (m6.row (i := 0) rfl) ag179_B5 sz179_B5 rfl rfl) .nil), rfl, m6.pick [] (by decide) rfl⟩
theorem IndexFunc_api_Latch (H : AHeap) (a_s : Option Addr) (n_s c_s : Nat) (s : List (Int × Int)) (g_f : FuncId) (cap_f : List Value) (Pf : (Int × Int) → Bool → Prop) (h_s : V EP H a_s n_s c_s s) (x_f : E0.ext g_f = none) (h_f : ∀ A, Mem [] H A [] → ∀ u ∈ s, WF E0 g_f ([.agg #[.int .i64 u.1, .int .i64 u.2]] ++ cap_f) A fun q => ∃ b : Bool, q.1 = .bool b ∧ Mem [] A q.2 [] ∧ Pf u b) : WF E0 167 [.slice a_s n_s c_s, .func (.func g_f) #[] cap_f.toArray] H fun q => ∃ (z : Int), q.1 = .int .i64 z ∧ Mem [] H q.2 [] ∧ (-1 ≤ z ∧ z < n_s) ∧ (z < 0 → ∀ u ∈ s, Pf u false) ∧ (0 ≤ z → ∃ u, s[z.toNat]? = some u ∧ Pf u true) := by
  obtain ⟨len_s, cap_s, max_s, wf_s⟩ := h_s.len
  have m0 : Mem [] H H [] := Mem.start
  refine WF.kg Tryz.func167 rfl rfl ?_
  refine KC.seq ?_
  refine KC.region ?_
  refine KO.pv (PV.assign rfl) rfl rfl ?_
  refine KO.nil ?_
  refine KC.seq ?_
  refine KC.seq ?_
  refine KC.region ?_
  refine KO.pv (PV.move rfl) rfl rfl ?_
  refine KO.pv (PV.len un22_B5 rfl) rfl rfl ?_
  refine KO.pv (PV.move rfl) rfl rfl ?_
  refine KO.nil ?_
  refine KC.block ?_
  refine KC.sub (l' := [(0, .slice a_s n_s c_s), (1, .func (.func g_f) #[] cap_f.toArray), (4, .int .i64 0), (7, .int .i64 (n_s : Int)), (8, .int .i64 0)]) (.cons rfl (.cons rfl (.cons rfl (.cons rfl (.cons rfl .nil))))) ?_
  refine KC.loopN (fun kq lq A => ∃ (i : Int), kq = ((n_s : Int) - i).toNat ∧ lq = [(0, .slice a_s n_s c_s), (1, .func (.func g_f) #[] cap_f.toArray), (4, .int .i64 0), (7, .int .i64 (n_s : Int)), (8, .int .i64 i)] ∧ Mem [] H A [] ∧ (0 ≤ i ∧ i ≤ n_s) ∧ (Ahead s i fun _ u => Pf u false)) ?_ (((n_s : Int) - 0).toNat) ⟨0, rfl, rfl, (m0.pick [] (by decide) rfl), (by omega), Ahead.zero⟩
  rintro kq lq A1 ⟨i, rfl, rfl, m2, hi, hpre⟩
  refine KC.seq ?_
  refine KC.region ?_
  refine KO.pv (PV.lssD rfl rfl rfl) rfl rfl ?_
  refine KO.nil ?_
  refine KC.seq ?_
  refine KC.condD rfl (fun h3 => ?_) (fun h3 => ?_)
  · refine KC.skip ?_
    refine KC.seq ?_
    refine KC.block ?_
    refine KC.seq ?_
    refine KC.region ?_
    refine KO.pv (PV.move rfl) rfl rfl ?_
    refine KO.pv (PV.assign rfl) rfl rfl ?_
    refine KO.nil ?_
    refine KC.seq ?_
    refine KC.region ?_
    refine KO.pv (PV.move rfl) rfl rfl ?_
    refine KO.pv (PV.move rfl) rfl rfl ?_
    refine KO.pv (PV.move rfl) rfl rfl ?_
    obtain ⟨b4, o4, p4, r4, e4, ha4, hb4, hr4, hx4, hw4, hc4, ht4⟩ := V.at_ h_s (z := i) (by omega) (by omega)
    have hc4_0 : r4.cs[o4 + (i).toNat * 2 + 0]? = some (.int .i64 e4.1) := hc4 0 (by decide)
    have hc4_1 : r4.cs[o4 + (i).toNat * 2 + 1]? = some (.int .i64 e4.2) := hc4 1 (by decide)
    obtain ⟨hwa4, hwb4⟩ := hw4
    obtain ⟨loa4, hia4⟩ := rangei64 hwa4
    obtain ⟨lob4, hib4⟩ := rangei64 hwb4
    refine KO.pv (PV.indexAddrZ un22_B5 sz150_B5 rfl ha4 rfl (by omega) (by omega)) rfl rfl ?_
    refine KO.loadN ag150_B5 sz150_B5 rfl (m2.row0 hb4 hr4) ht4 rfl rfl ?_
    refine KO.callV rfl x_f rfl rfl rfl (h_f A1 (m2.pick [] (by decide) rfl) _ (List.mem_of_getElem? hx4)) fun v5 H5 q5 => ?_
    obtain ⟨b5, hv5, mc5, pf5⟩ := q5
    dsimp only at hv5 mc5
    subst hv5
    have m6 := m2.seq mc5
    refine KO.nil ?_
    refine KC.cond rfl (fun h7 => ?_) (fun h7 => ?_)
    · subst h7
      refine KC.seq ?_
      refine KC.region ?_
      refine KO.pv (PV.move rfl) rfl rfl ?_
      refine KO.pv (PV.assign rfl) rfl rfl ?_
      refine KO.nil ?_
      exact KC.ret ⟨rfl, _, (.tmp rfl .nil), i, rfl, m6.pick [] (by decide) rfl, (by first | omega | (intro h; omega) | (simp only [List.length_nil, true_and, and_true, or_true, true_or] <;> omega)), (by first | omega | (intro h; omega) | (simp only [List.length_nil, true_and, and_true, or_true, true_or] <;> omega) | (exact fun h => by omega) | (exact fun _ => hpre.mem len_s (by omega))), (by first | omega | (intro h; omega) | (simp only [List.length_nil, true_and, and_true, or_true, true_or] <;> omega) | (exact fun _ => ⟨_, by assumption, by subst_vars; assumption⟩) | (exact fun h => by omega))⟩
    · subst h7
      refine KC.skip ?_
      refine KC.region ?_
      refine KO.pv (PV.add rfl rfl (wrap64 (by omega) (by omega))) rfl rfl ?_
      refine KO.pv (PV.move rfl) rfl rfl ?_
      refine KO.nil ?_
      exact ⟨_, _, (by omega), (.cons rfl (.cons rfl (.cons rfl (.cons rfl (.cons rfl .nil))))), (i + 1), rfl, rfl, (m6.pick [] (by decide) rfl), (by omega), (hpre.step (by assumption) (by omega) (by subst_vars; assumption))⟩
  · refine KC.exit ?_
    refine KC.seq ?_
    refine KC.region ?_
    refine KO.pv (PV.assign rfl) rfl rfl ?_
    refine KO.nil ?_
    exact KC.ret ⟨rfl, _, (.tmp rfl .nil), (-1), rfl, m2.pick [] (by decide) rfl, (by first | omega | (intro h; omega) | (simp only [List.length_nil, true_and, and_true, or_true, true_or] <;> omega)), (by first | omega | (intro h; omega) | (simp only [List.length_nil, true_and, and_true, or_true, true_or] <;> omega) | (exact fun h => by omega) | (exact fun _ => hpre.mem len_s (by omega))), (by first | omega | (intro h; omega) | (simp only [List.length_nil, true_and, and_true, or_true, true_or] <;> omega) | (exact fun _ => ⟨_, by assumption, by subst_vars; assumption⟩) | (exact fun h => by omega))⟩
theorem ContainsFunc_api_Latch (H : AHeap) (a_s : Option Addr) (n_s c_s : Nat) (s : List (Int × Int)) (g_f : FuncId) (cap_f : List Value) (Pf : (Int × Int) → Bool → Prop) (h_s : V EP H a_s n_s c_s s) (x_f : E0.ext g_f = none) (h_f : ∀ A, Mem [] H A [] → ∀ u ∈ s, WF E0 g_f ([.agg #[.int .i64 u.1, .int .i64 u.2]] ++ cap_f) A fun q => ∃ b : Bool, q.1 = .bool b ∧ Mem [] A q.2 [] ∧ Pf u b) : WF E0 117 [.slice a_s n_s c_s, .func (.func g_f) #[] cap_f.toArray] H fun q => ∃ (c : Bool), q.1 = .bool c ∧ Mem [] H q.2 [] ∧ (c = false → ∀ u ∈ s, Pf u false) ∧ (c = true → ∃ u ∈ s, Pf u true) := by
  obtain ⟨len_s, cap_s, max_s, wf_s⟩ := h_s.len
  have m0 : Mem [] H H [] := Mem.start
  refine WF.kg Tryz.func117 rfl rfl ?_
  refine KC.seq ?_
  refine KC.region ?_
  refine KO.pv (PV.assign rfl) rfl rfl ?_
  refine KO.nil ?_
  refine KC.seq ?_
  refine KC.region ?_
  refine KO.pv (PV.move rfl) rfl rfl ?_
  refine KO.pv (PV.move rfl) rfl rfl ?_
  refine KO.call rfl rfl rfl rfl (IndexFunc_api_Latch H a_s n_s c_s s g_f cap_f Pf h_s x_f h_f) fun v1 H1 q1 => ?_
  obtain ⟨z1, hv1, mc1, p1_0, p1_1, p1_2⟩ := q1
  dsimp only at hv1 mc1
  subst hv1
  have m1 := m0.seq mc1
  refine KO.pv (PV.geqD rfl rfl rfl) rfl rfl ?_
  refine KO.pv (PV.assign rfl) rfl rfl ?_
  refine KO.nil ?_
  exact KC.ret ⟨rfl, _, (.tmp rfl .nil), (decide (0 ≤ z1)), rfl, m1.pick [] (by decide) rfl, (fun h => p1_1 (by have := of_decide_eq_false h; omega)), (fun h => by obtain ⟨u, h1, h2⟩ := p1_2 (by have := of_decide_eq_true h; omega); exact ⟨u, List.mem_of_getElem? h1, h2⟩)⟩
theorem gates_outside (H : AHeap) (l : Int) (b_p : Nat) (s0 s1 s2 s3 : Int) (w_l : IntKind.i64.wrap l = l) (r_p : H.row b_p = some ⟨179, true, true, [.int .i64 s0, .int .i64 s1, .int .i64 s2, .int .i64 s3]⟩) (l_p : b_p < H.next) : WF E0 114 [.int .i64 l, .pointer (some ⟨b_p, 0, none⟩)] H fun q => ∃ (o : Bool), q.1 = .bool o ∧ Mem [] H q.2 [] ∧ (o = false → 0 ≤ l ∧ l / 2 < s3) ∧ (o = true → ¬ (0 ≤ l ∧ l / 2 < s3)) := by
  obtain ⟨lo_l, hi_l⟩ := rangei64 w_l
  have m0 : Mem [] H H [] := Mem.start
  refine WF.kg Tryz.func114 rfl rfl ?_
  refine KC.seq ?_
  refine KC.region ?_
  refine KO.pv (PV.assign rfl) rfl rfl ?_
  refine KO.nil ?_
  refine KC.seq ?_
  refine KC.region ?_
  refine KO.pv (PV.move rfl) rfl rfl ?_
  by_cases h1 : l < 0
  · refine KO.pv (PV.lssD rfl rfl (decide_eq_true h1)) rfl rfl ?_
    refine KO.pv (PV.move rfl) rfl rfl ?_
    refine KO.no rfl rfl rfl ?_
    refine KO.no rfl rfl rfl ?_
    refine KO.no rfl rfl rfl ?_
    refine KO.no rfl rfl rfl ?_
    refine KO.no rfl rfl rfl ?_
    refine KO.pv (PV.pickT rfl rfl rfl) rfl rfl ?_
    refine KO.pv (PV.assign rfl) rfl rfl ?_
    refine KO.nil ?_
    exact KC.ret ⟨rfl, _, (.tmp rfl .nil), true, rfl, m0.pick [] (by decide) rfl, (by first | omega | (intro h; omega) | (simp only [List.length_nil, true_and, and_true, or_true, true_or] <;> omega) | (intro h; cases h) | (exact fun h => by have := of_decide_eq_false h; omega)), (by first | omega | (intro h; omega) | (simp only [List.length_nil, true_and, and_true, or_true, true_or] <;> omega) | (intro h; cases h) | (exact fun h => by have := of_decide_eq_true h; omega) | (intro h; omega))⟩
  · refine KO.pv (PV.lssD rfl rfl (decide_eq_false h1)) rfl rfl ?_
    refine KO.pv (PV.move rfl) rfl rfl ?_
    refine KO.pv (PV.move rfl) rfl rfl ?_
    refine KO.pv (PV.shr1 rfl rfl rfl) rfl rfl ?_
    refine KO.pv (PV.indexArrZ un179_B5 sz3_B5 rfl (z := 3) rfl (by decide) (by decide)) rfl rfl ?_
    refine KO.load1 ag3_B5 rfl (m0.row0 l_p r_p) rfl rfl rfl ?_
    refine KO.pv (PV.geqD rfl rfl rfl) rfl rfl ?_
    refine KO.pv (PV.pickF rfl rfl rfl) rfl rfl ?_
    refine KO.pv (PV.assign rfl) rfl rfl ?_
    refine KO.nil ?_
    exact KC.ret ⟨rfl, _, (.tmp rfl .nil), (decide (s3 ≤ (l / 2))), rfl, m0.pick [] (by decide) rfl, (by first | omega | (intro h; omega) | (simp only [List.length_nil, true_and, and_true, or_true, true_or] <;> omega) | (intro h; cases h) | (exact fun h => by have := of_decide_eq_false h; omega)), (by first | omega | (intro h; omega) | (simp only [List.length_nil, true_and, and_true, or_true, true_or] <;> omega) | (intro h; cases h) | (exact fun h => by have := of_decide_eq_true h; omega) | (intro h; omega))⟩
theorem gates_wrong (H : AHeap) (l1 : Int) (l2 : Int) (b_f : Nat) (b_p : Nat) (s0 s1 s2 s3 : Int) (w_l1 : IntKind.i64.wrap l1 = l1) (w_l2 : IntKind.i64.wrap l2 = l2) (r_f : H.row b_f = some ⟨182, true, true, [.func (.func 114) #[] #[.pointer (some ⟨b_p, 0, none⟩)]]⟩) (l_f : b_f < H.next) (r_p : H.row b_p = some ⟨179, true, true, [.int .i64 s0, .int .i64 s1, .int .i64 s2, .int .i64 s3]⟩) (l_p : b_p < H.next) : WF E0 115 [.agg #[.int .i64 l1, .int .i64 l2], .pointer (some ⟨b_f, 0, none⟩)] H fun q => ∃ (o : Bool), q.1 = .bool o ∧ Mem [] H q.2 [] ∧ (o = false → (0 ≤ l1 ∧ l1 / 2 < s3) ∧ 0 ≤ l2 ∧ l2 ≤ 2) ∧ (o = true → ¬ ((0 ≤ l1 ∧ l1 / 2 < s3) ∧ 0 ≤ l2 ∧ l2 ≤ 2)) := by
  obtain ⟨lo_l1, hi_l1⟩ := rangei64 w_l1
  obtain ⟨lo_l2, hi_l2⟩ := rangei64 w_l2
  have m0 : Mem [] H H [] := Mem.start
  refine WF.kg Tryz.func115 rfl rfl ?_
  refine KC.seq ?_
  refine KC.region ?_
  refine KO.boxM m0 rfl rfl (show _ = [.int .i64 l1, .int .i64 l2] from rfl) rfl rfl fun H1 m2 => ?_
  refine KO.pv (PV.assign rfl) rfl rfl ?_
  refine KO.nil ?_
  refine KC.seq ?_
  refine KC.region ?_
  refine KO.load1 ag182_B5 rfl (m2.row0 l_f r_f) rfl rfl rfl ?_
  refine KO.pv (PV.fieldAddr fo150_0_B5 rfl) rfl rfl ?_
  refine KO.load1 ag3_B5 rfl (m2.row (i := 0) rfl) rfl rfl rfl ?_
  refine KO.callV rfl rfl rfl rfl rfl (gates_outside H1 l1 b_p _ _ _ _ (wrap64 (by omega) (by omega)) (m2.row0 l_p r_p) (Nat.lt_of_lt_of_le l_p m2.next)) fun v3 H3 q3 => ?_
  obtain ⟨o3, hv3, mc3, p3_0, p3_1⟩ := q3
  dsimp only at hv3 mc3
  subst hv3
  have m4 := m2.seq mc3
  refine KO.pv (PV.move rfl) rfl rfl ?_
  rcases Bool.eq_false_or_eq_true o3 with h5 | h5
  · subst h5
    have p3_1t := p3_1 rfl
    refine KO.no rfl rfl rfl ?_
    refine KO.no rfl rfl rfl ?_
    refine KO.no rfl rfl rfl ?_
    refine KO.pv (PV.pickT rfl rfl rfl) rfl rfl ?_
    refine KO.pv (PV.move rfl) rfl rfl ?_
    refine KO.no rfl rfl rfl ?_
    refine KO.no rfl rfl rfl ?_
    refine KO.no rfl rfl rfl ?_
    refine KO.pv (PV.pickT rfl rfl rfl) rfl rfl ?_
    refine KO.pv (PV.assign rfl) rfl rfl ?_
    refine KO.nil ?_
    exact KC.ret ⟨rfl, _, (.tmp rfl .nil), true, rfl, m4.pick [] (by decide) rfl, (by first | omega | (intro h; omega) | (simp only [List.length_nil, true_and, and_true, or_true, true_or] <;> omega) | (intro h; cases h) | (exact fun h => by have h1 := p3_0 (by first | rfl | assumption); have := of_decide_eq_false h; omega)), (by first | omega | (intro h; omega) | (simp only [List.length_nil, true_and, and_true, or_true, true_or] <;> omega) | (intro h; cases h) | (exact fun h => by have h1 := p3_1 (by first | rfl | assumption); omega) | (exact fun h => by have := of_decide_eq_true h; omega))⟩
  · subst h5
    have p3_0t := p3_0 rfl
    refine KO.pv (PV.fieldAddr fo150_1_B5 rfl) rfl rfl ?_
    refine KO.load1 ag3_B5 rfl (m4.row (i := 0) rfl) rfl rfl rfl ?_
    by_cases h6 : l2 < 0
    · refine KO.pv (PV.lssD rfl rfl (decide_eq_true h6)) rfl rfl ?_
      refine KO.pv (PV.pickF rfl rfl rfl) rfl rfl ?_
      refine KO.pv (PV.move rfl) rfl rfl ?_
      refine KO.no rfl rfl rfl ?_
      refine KO.no rfl rfl rfl ?_
      refine KO.no rfl rfl rfl ?_
      refine KO.pv (PV.pickT rfl rfl rfl) rfl rfl ?_
      refine KO.pv (PV.assign rfl) rfl rfl ?_
      refine KO.nil ?_
      exact KC.ret ⟨rfl, _, (.tmp rfl .nil), true, rfl, m4.pick [] (by decide) rfl, (by first | omega | (intro h; omega) | (simp only [List.length_nil, true_and, and_true, or_true, true_or] <;> omega) | (intro h; cases h) | (exact fun h => by have h1 := p3_0 (by first | rfl | assumption); have := of_decide_eq_false h; omega)), (by first | omega | (intro h; omega) | (simp only [List.length_nil, true_and, and_true, or_true, true_or] <;> omega) | (intro h; cases h) | (exact fun h => by have h1 := p3_1 (by first | rfl | assumption); omega) | (exact fun h => by have := of_decide_eq_true h; omega))⟩
    · refine KO.pv (PV.lssD rfl rfl (decide_eq_false h6)) rfl rfl ?_
      refine KO.pv (PV.pickF rfl rfl rfl) rfl rfl ?_
      refine KO.pv (PV.move rfl) rfl rfl ?_
      refine KO.pv (PV.fieldAddr fo150_1_B5 rfl) rfl rfl ?_
      refine KO.load1 ag3_B5 rfl (m4.row (i := 0) rfl) rfl rfl rfl ?_
      refine KO.pv (PV.gtrD rfl rfl rfl) rfl rfl ?_
      refine KO.pv (PV.pickF rfl rfl rfl) rfl rfl ?_
      refine KO.pv (PV.assign rfl) rfl rfl ?_
      refine KO.nil ?_
      exact KC.ret ⟨rfl, _, (.tmp rfl .nil), (decide (2 < l2)), rfl, m4.pick [] (by decide) rfl, (by first | omega | (intro h; omega) | (simp only [List.length_nil, true_and, and_true, or_true, true_or] <;> omega) | (intro h; cases h) | (exact fun h => by have h1 := p3_0 (by first | rfl | assumption); have := of_decide_eq_false h; omega)), (by first | omega | (intro h; omega) | (simp only [List.length_nil, true_and, and_true, or_true, true_or] <;> omega) | (intro h; cases h) | (exact fun h => by have h1 := p3_1 (by first | rfl | assumption); omega) | (exact fun h => by have := of_decide_eq_true h; omega))⟩
theorem gates_Check (H : AHeap) (ci : Int) (a_cL : Option Addr) (n_cL c_cL : Nat) (cL : List (Int × Int)) (a_cA : Option Addr) (n_cA c_cA : Nat) (cA : List (Int × Int)) (a_cB : Option Addr) (n_cB c_cB : Nat) (cB : List Int) (a_cC : Option Addr) (n_cC c_cC : Nat) (cC : List Int) (w_ci : IntKind.i64.wrap ci = ci) (h_cL : V EP H a_cL n_cL c_cL cL) (h_cA : V EP H a_cA n_cA c_cA cA) (h_cB : V (EI .i64) H a_cB n_cB c_cB cB) (h_cC : V (EI .i64) H a_cC n_cC c_cC cC) : WF E0 42 [.agg #[.int .i64 ci, .slice a_cL n_cL c_cL, .slice a_cA n_cA c_cA, .slice a_cB n_cB c_cB, .slice a_cC n_cC c_cC]] H fun q => ∃ (e : Int), q.1 = .int .i64 e ∧ Mem [] H q.2 [] ∧ (e = 0 → CirOK ci cL cA cB cC) ∧ (0 ≤ e ∧ e ≤ 100) ∧ (CirOK ci cL cA cB cC → e = 0) := by
  obtain ⟨lo_ci, hi_ci⟩ := rangei64 w_ci
  obtain ⟨len_cL, cap_cL, max_cL, wf_cL⟩ := h_cL.len
  obtain ⟨len_cA, cap_cA, max_cA, wf_cA⟩ := h_cA.len
  obtain ⟨len_cB, cap_cB, max_cB, wf_cB⟩ := h_cB.len
  obtain ⟨len_cC, cap_cC, max_cC, wf_cC⟩ := h_cC.len
  have m0 : Mem [] H H [] := Mem.start
  refine WF.kg Tryz.func42 rfl rfl ?_
  refine KC.seq ?_
  refine KC.region ?_
  refine KO.boxM m0 rfl rfl (show _ = [.int .i64 ci, .slice a_cL n_cL c_cL, .slice a_cA n_cA c_cA, .slice a_cB n_cB c_cB, .slice a_cC n_cC c_cC] from rfl) rfl rfl fun H1 m2 => ?_
  refine KO.pv (PV.assign rfl) rfl rfl ?_
  refine KO.nil ?_
  refine KC.seq ?_
  refine KC.seq ?_
  refine KC.region ?_
  refine KO.pv (PV.fieldAddr fo26_0_B5 rfl) rfl rfl ?_
  refine KO.load1 ag3_B5 rfl (m2.row (i := 0) rfl) rfl rfl rfl ?_
  refine KO.pv (PV.lssD rfl rfl rfl) rfl rfl ?_
  refine KO.nil ?_
  refine KC.condD rfl (fun h3 => ?_) (fun h3 => ?_)
  · refine KC.seq ?_
    refine KC.region ?_
    refine KO.pv (PV.assign rfl) rfl rfl ?_
    refine KO.nil ?_
    exact KC.ret ⟨rfl, _, (.tmp rfl .nil), 8, rfl, m2.pick [] (by decide) rfl, (by first | omega | (intro h; omega) | (simp only [List.length_nil, true_and, and_true, or_true, true_or] <;> omega)), (by first | omega | (intro h; omega) | (simp only [List.length_nil, true_and, and_true, or_true, true_or] <;> omega)), (by first | omega | (intro h; omega) | (simp only [List.length_nil, true_and, and_true, or_true, true_or] <;> omega) | (exact fun _ => rfl) | (exact fun h => by have h1 := h.i0; have h2 := h.all; have h3 := h.b; have h4 := h.c; omega))⟩
  · refine KC.skip ?_
    refine KC.seq ?_
    refine KC.seq ?_
    refine KC.region ?_
    refine KO.pv (PV.fieldAddr fo26_0_B5 rfl) rfl rfl ?_
    refine KO.load1 ag3_B5 rfl (m2.row (i := 0) rfl) rfl rfl rfl ?_
    by_cases h4 : 1000 < ci
    · refine KO.pv (PV.gtrD rfl rfl (decide_eq_true h4)) rfl rfl ?_
      refine KO.pv (PV.move rfl) rfl rfl ?_
      refine KO.no rfl rfl rfl ?_
      refine KO.no rfl rfl rfl ?_
      refine KO.no rfl rfl rfl ?_
      refine KO.no rfl rfl rfl ?_
      refine KO.no rfl rfl rfl ?_
      refine KO.pv (PV.pickT rfl rfl rfl) rfl rfl ?_
      refine KO.pv (PV.move rfl) rfl rfl ?_
      refine KO.no rfl rfl rfl ?_
      refine KO.no rfl rfl rfl ?_
      refine KO.no rfl rfl rfl ?_
      refine KO.no rfl rfl rfl ?_
      refine KO.no rfl rfl rfl ?_
      refine KO.no rfl rfl rfl ?_
      refine KO.no rfl rfl rfl ?_
      refine KO.no rfl rfl rfl ?_
      refine KO.pv (PV.pickT rfl rfl rfl) rfl rfl ?_
      refine KO.nil ?_
      refine KC.condT rfl ?_
      refine KC.seq ?_
      refine KC.region ?_
      refine KO.pv (PV.assign rfl) rfl rfl ?_
      refine KO.nil ?_
      exact KC.ret ⟨rfl, _, (.tmp rfl .nil), 4, rfl, m2.pick [] (by decide) rfl, (by first | omega | (intro h; omega) | (simp only [List.length_nil, true_and, and_true, or_true, true_or] <;> omega)), (by first | omega | (intro h; omega) | (simp only [List.length_nil, true_and, and_true, or_true, true_or] <;> omega)), (by first | omega | (intro h; omega) | (simp only [List.length_nil, true_and, and_true, or_true, true_or] <;> omega) | (exact fun _ => rfl) | (exact fun h => by have h1 := h.i0; have h2 := h.all; have h3 := h.b; have h4 := h.c; omega))⟩
    · refine KO.pv (PV.gtrD rfl rfl (decide_eq_false h4)) rfl rfl ?_
      refine KO.pv (PV.move rfl) rfl rfl ?_
      refine KO.loadN ag26_B5 sz26_B5 rfl (m2.row (i := 0) rfl) (takeN_of (p := [.int .i64 ci, .slice a_cL n_cL c_cL, .slice a_cA n_cA c_cA, .slice a_cB n_cB c_cB, .slice a_cC n_cC c_cC]) rfl  rfl) rfl rfl ?_
      refine KO.call rfl rfl rfl rfl (gates_starts H1 ci a_cL n_cL c_cL _ a_cA n_cA c_cA _ a_cB n_cB c_cB _ a_cC n_cC c_cC _ (wrap64 (by omega) (by omega)) (V.mem m2 h_cL) (V.mem m2 h_cA) (V.mem m2 h_cB) (V.mem m2 h_cC) (by first | omega | assumption) (by first | omega | assumption)) fun v5 H5 q5 => ?_
      obtain ⟨hv5, mc5⟩ := q5
      dsimp only at hv5 mc5
      subst hv5
      have m6 := m2.seq mc5
      refine KO.pv (PV.index un179_B5 sz3_B5 rfl (j := 3) (show _ = some (Value.int .i64 ((3 : Nat) : Int)) from rfl) (by decide) (by rw [read1 ag3_B5]; rfl)) rfl rfl ?_
      refine KO.pv (PV.sub rfl rfl (wrap64 (by omega) (by omega))) rfl rfl ?_
      by_cases h7 : 1000 < ((((1 + ci) + (n_cL : Int)) + (n_cA : Int)) - 1)
      · refine KO.pv (PV.gtrD rfl rfl (decide_eq_true h7)) rfl rfl ?_
        refine KO.pv (PV.pickF rfl rfl rfl) rfl rfl ?_
        refine KO.pv (PV.move rfl) rfl rfl ?_
        refine KO.no rfl rfl rfl ?_
        refine KO.no rfl rfl rfl ?_
        refine KO.no rfl rfl rfl ?_
        refine KO.no rfl rfl rfl ?_
        refine KO.no rfl rfl rfl ?_
        refine KO.no rfl rfl rfl ?_
        refine KO.no rfl rfl rfl ?_
        refine KO.no rfl rfl rfl ?_
        refine KO.pv (PV.pickT rfl rfl rfl) rfl rfl ?_
        refine KO.nil ?_
        refine KC.condT rfl ?_
        refine KC.seq ?_
        refine KC.region ?_
        refine KO.pv (PV.assign rfl) rfl rfl ?_
        refine KO.nil ?_
        exact KC.ret ⟨rfl, _, (.tmp rfl .nil), 4, rfl, m6.pick [] (by decide) rfl, (by first | omega | (intro h; omega) | (simp only [List.length_nil, true_and, and_true, or_true, true_or] <;> omega)), (by first | omega | (intro h; omega) | (simp only [List.length_nil, true_and, and_true, or_true, true_or] <;> omega)), (by first | omega | (intro h; omega) | (simp only [List.length_nil, true_and, and_true, or_true, true_or] <;> omega) | (exact fun _ => rfl) | (exact fun h => by have h1 := h.i0; have h2 := h.all; have h3 := h.b; have h4 := h.c; omega))⟩
      · refine KO.pv (PV.gtrD rfl rfl (decide_eq_false h7)) rfl rfl ?_
        refine KO.pv (PV.pickF rfl rfl rfl) rfl rfl ?_
        refine KO.pv (PV.move rfl) rfl rfl ?_
        refine KO.pv (PV.fieldAddr fo26_3_B5 rfl) rfl rfl ?_
        refine KO.load1 ag24_B5 rfl (m6.row (i := 0) rfl) rfl rfl rfl ?_
        refine KO.pv (PV.len un24_B5 rfl) rfl rfl ?_
        refine KO.pv (PV.fieldAddr fo26_4_B5 rfl) rfl rfl ?_
        refine KO.load1 ag24_B5 rfl (m6.row (i := 0) rfl) rfl rfl rfl ?_
        refine KO.pv (PV.len un24_B5 rfl) rfl rfl ?_
        obtain ⟨x8, hx8, dx8⟩ := maxD (n_cB : Int) (n_cC : Int)
        refine KO.pv (PV.maxE rfl rfl hx8) rfl rfl ?_
        refine KO.pv (PV.gtrD rfl rfl rfl) rfl rfl ?_
        refine KO.pv (PV.pickF rfl rfl rfl) rfl rfl ?_
        refine KO.nil ?_
        refine KC.condD rfl (fun h9 => ?_) (fun h9 => ?_)
        · refine KC.seq ?_
          refine KC.region ?_
          refine KO.pv (PV.assign rfl) rfl rfl ?_
          refine KO.nil ?_
          exact KC.ret ⟨rfl, _, (.tmp rfl .nil), 4, rfl, m6.pick [] (by decide) rfl, (by first | omega | (intro h; omega) | (simp only [List.length_nil, true_and, and_true, or_true, true_or] <;> omega)), (by first | omega | (intro h; omega) | (simp only [List.length_nil, true_and, and_true, or_true, true_or] <;> omega)), (by first | omega | (intro h; omega) | (simp only [List.length_nil, true_and, and_true, or_true, true_or] <;> omega) | (exact fun _ => rfl) | (exact fun h => by have h1 := h.i0; have h2 := h.all; have h3 := h.b; have h4 := h.c; omega))⟩
        · refine KC.skip ?_
          refine KC.seq ?_
          refine KC.region ?_
          refine KO.loadN ag26_B5 sz26_B5 rfl (m6.row (i := 0) rfl) (takeN_of (p := [.int .i64 ci, .slice a_cL n_cL c_cL, .slice a_cA n_cA c_cA, .slice a_cB n_cB c_cB, .slice a_cC n_cC c_cC]) rfl  rfl) rfl rfl ?_
          refine KO.call rfl rfl rfl rfl (gates_starts H5 ci a_cL n_cL c_cL _ a_cA n_cA c_cA _ a_cB n_cB c_cB _ a_cC n_cC c_cC _ (wrap64 (by omega) (by omega)) (V.mem m6 h_cL) (V.mem m6 h_cA) (V.mem m6 h_cB) (V.mem m6 h_cC) (by first | omega | assumption) (by first | omega | assumption)) fun v10 H10 q10 => ?_
          obtain ⟨hv10, mc10⟩ := q10
          dsimp only at hv10 mc10
          subst hv10
          have m11 := m6.seq mc10
          refine KO.allocM m11 zt179_B5 rfl rfl fun H12 m13 => ?_
          refine KO.storeM m13 (i := 0) rfl sz179_B5 rfl rfl rfl (show 0 + 4 ≤ 4 by decide) (show _ = [.int .i64 1, .int .i64 (1 + ci), .int .i64 ((1 + ci) + (n_cL : Int)), .int .i64 (((1 + ci) + (n_cL : Int)) + (n_cA : Int))] from rfl) rfl fun H14 m15 => ?_
          refine KO.nil ?_
          refine KC.seq ?_
          refine KC.region ?_
          refine KO.pv (PV.makeFunc rfl rfl) rfl rfl ?_
          refine KO.allocM m15 zt182_B5 rfl rfl fun H16 m17 => ?_
          refine KO.storeM m17 (i := 0) rfl sz182_B5 rfl rfl rfl (show 0 + 1 ≤ 1 by decide) (show _ = [.func (.func 114) #[] #[.pointer (some ⟨H10.next, 0, none⟩)]] from rfl) rfl fun H18 m19 => ?_
          refine KO.nil ?_
          refine KC.seq ?_
          refine KC.region ?_
          refine KO.pv (PV.makeFunc rfl rfl) rfl rfl ?_
          refine KO.pv (PV.assign rfl) rfl rfl ?_
          refine KO.nil ?_
          refine KC.seq ?_
          refine KC.seq ?_
          refine KC.region ?_
          refine KO.pv (PV.fieldAddr fo26_3_B5 rfl) rfl rfl ?_
          refine KO.load1 ag24_B5 rfl (m19.row (i := 2) rfl) rfl rfl rfl ?_
          refine KO.load1 ag182_B5 rfl (m19.row (i := 0) rfl) rfl rfl rfl ?_
          refine KO.call rfl rfl rfl rfl (ContainsFunc_int H18 a_cB n_cB c_cB _ 114 [.pointer (some ⟨H10.next, 0, none⟩)] (fun u b => (b = false → 0 ≤ u ∧ u / 2 < (((1 + ci) + (n_cL : Int)) + (n_cA : Int))) ∧ (b = true → ¬ (0 ≤ u ∧ u / 2 < (((1 + ci) + (n_cL : Int)) + (n_cA : Int))))) (V.mem m19 h_cB) rfl (fun A mA u hu => gates_outside A u H10.next _ _ _ _ (wf_cB u hu) (mA.row0 (m19.blt (i := 1) rfl) (m19.row (i := 1) rfl)) (Nat.lt_of_lt_of_le (m19.blt (i := 1) rfl) mA.next))) fun v20 H20 q20 => ?_
          obtain ⟨c20, hv20, mc20, p20_0, p20_1⟩ := q20
          dsimp only at hv20 mc20
          subst hv20
          have m21 := m19.seq mc20
          refine KO.pv (PV.move rfl) rfl rfl ?_
          rcases Bool.eq_false_or_eq_true c20 with h22 | h22
          · subst h22
            have p20_1t := p20_1 rfl
            refine KO.no rfl rfl rfl ?_
            refine KO.no rfl rfl rfl ?_
            refine KO.no rfl rfl rfl ?_
            refine KO.no rfl rfl rfl ?_
            refine KO.pv (PV.pickT rfl rfl rfl) rfl rfl ?_
            refine KO.pv (PV.move rfl) rfl rfl ?_
            refine KO.no rfl rfl rfl ?_
            refine KO.no rfl rfl rfl ?_
            refine KO.no rfl rfl rfl ?_
            refine KO.no rfl rfl rfl ?_
            refine KO.pv (PV.pickT rfl rfl rfl) rfl rfl ?_
            refine KO.nil ?_
            refine KC.condT rfl ?_
            refine KC.seq ?_
            refine KC.region ?_
            refine KO.pv (PV.assign rfl) rfl rfl ?_
            refine KO.nil ?_
            exact KC.ret ⟨rfl, _, (.tmp rfl .nil), 8, rfl, m21.pick [] (by decide) rfl, (by first | omega | (intro h; omega) | (simp only [List.length_nil, true_and, and_true, or_true, true_or] <;> omega)), (by first | omega | (intro h; omega) | (simp only [List.length_nil, true_and, and_true, or_true, true_or] <;> omega)), (by first | omega | (intro h; omega) | (simp only [List.length_nil, true_and, and_true, or_true, true_or] <;> omega) | (exact fun _ => rfl) | (exact fun h => by have h1 := h.i0; have h2 := h.all; have h3 := h.b; have h4 := h.c; omega) | (exact fun h => by obtain ⟨u, hu, hP⟩ := p20_1 (by first | rfl | assumption); have h2 := hP.2 rfl; have h3 := h.hb u hu; omega))⟩
          · subst h22
            have p20_0t := p20_0 rfl
            refine KO.pv (PV.fieldAddr fo26_4_B5 rfl) rfl rfl ?_
            refine KO.load1 ag24_B5 rfl (m21.row (i := 2) rfl) rfl rfl rfl ?_
            refine KO.load1 ag182_B5 rfl (m21.row (i := 0) rfl) rfl rfl rfl ?_
            refine KO.call rfl rfl rfl rfl (ContainsFunc_int H20 a_cC n_cC c_cC _ 114 [.pointer (some ⟨H10.next, 0, none⟩)] (fun u b => (b = false → 0 ≤ u ∧ u / 2 < (((1 + ci) + (n_cL : Int)) + (n_cA : Int))) ∧ (b = true → ¬ (0 ≤ u ∧ u / 2 < (((1 + ci) + (n_cL : Int)) + (n_cA : Int))))) (V.mem m21 h_cC) rfl (fun A mA u hu => gates_outside A u H10.next _ _ _ _ (wf_cC u hu) (mA.row0 (m21.blt (i := 1) rfl) (m21.row (i := 1) rfl)) (Nat.lt_of_lt_of_le (m21.blt (i := 1) rfl) mA.next))) fun v23 H23 q23 => ?_
            obtain ⟨c23, hv23, mc23, p23_0, p23_1⟩ := q23
            dsimp only at hv23 mc23
            subst hv23
            have m24 := m21.seq mc23
            refine KO.pv (PV.pickF rfl rfl rfl) rfl rfl ?_
            refine KO.pv (PV.move rfl) rfl rfl ?_
            rcases Bool.eq_false_or_eq_true c23 with h25 | h25
            · subst h25
              have p23_1t := p23_1 rfl
              refine KO.no rfl rfl rfl ?_
              refine KO.no rfl rfl rfl ?_
              refine KO.no rfl rfl rfl ?_
              refine KO.no rfl rfl rfl ?_
              refine KO.pv (PV.pickT rfl rfl rfl) rfl rfl ?_
              refine KO.nil ?_
              refine KC.condT rfl ?_
              refine KC.seq ?_
              refine KC.region ?_
              refine KO.pv (PV.assign rfl) rfl rfl ?_
              refine KO.nil ?_
              exact KC.ret ⟨rfl, _, (.tmp rfl .nil), 8, rfl, m24.pick [] (by decide) rfl, (by first | omega | (intro h; omega) | (simp only [List.length_nil, true_and, and_true, or_true, true_or] <;> omega)), (by first | omega | (intro h; omega) | (simp only [List.length_nil, true_and, and_true, or_true, true_or] <;> omega)), (by first | omega | (intro h; omega) | (simp only [List.length_nil, true_and, and_true, or_true, true_or] <;> omega) | (exact fun _ => rfl) | (exact fun h => by have h1 := h.i0; have h2 := h.all; have h3 := h.b; have h4 := h.c; omega) | (exact fun h => by obtain ⟨u, hu, hP⟩ := p20_1 (by first | rfl | assumption); have h2 := hP.2 rfl; have h3 := h.hb u hu; omega) | (exact fun h => by obtain ⟨u, hu, hP⟩ := p23_1 (by first | rfl | assumption); have h2 := hP.2 rfl; have h3 := h.hc u hu; omega))⟩
            · subst h25
              have p23_0t := p23_0 rfl
              refine KO.pv (PV.fieldAddr fo26_1_B5 rfl) rfl rfl ?_
              refine KO.load1 ag22_B5 rfl (m24.row (i := 2) rfl) rfl rfl rfl ?_
              refine KO.pv (PV.move rfl) rfl rfl ?_
              refine KO.call rfl rfl rfl rfl (ContainsFunc_api_Latch H23 a_cL n_cL c_cL _ 115 [.pointer (some ⟨H14.next, 0, none⟩)] (fun u b => (b = false → (0 ≤ u.1 ∧ u.1 / 2 < (((1 + ci) + (n_cL : Int)) + (n_cA : Int))) ∧ 0 ≤ u.2 ∧ u.2 ≤ 2) ∧ (b = true → ¬ ((0 ≤ u.1 ∧ u.1 / 2 < (((1 + ci) + (n_cL : Int)) + (n_cA : Int))) ∧ 0 ≤ u.2 ∧ u.2 ≤ 2))) (V.mem m24 h_cL) rfl (fun A mA u hu => gates_wrong A u.1 u.2 H14.next H10.next _ _ _ _ (wf_cL u hu).1 (wf_cL u hu).2 (mA.row0 (m24.blt (i := 0) rfl) (m24.row (i := 0) rfl)) (Nat.lt_of_lt_of_le (m24.blt (i := 0) rfl) mA.next) (mA.row0 (m24.blt (i := 1) rfl) (m24.row (i := 1) rfl)) (Nat.lt_of_lt_of_le (m24.blt (i := 1) rfl) mA.next))) fun v26 H26 q26 => ?_
              obtain ⟨c26, hv26, mc26, p26_0, p26_1⟩ := q26
              dsimp only at hv26 mc26
              subst hv26
              have m27 := m24.seq mc26
              refine KO.pv (PV.pickF rfl rfl rfl) rfl rfl ?_
              refine KO.nil ?_
              refine KC.cond rfl (fun h28 => ?_) (fun h28 => ?_)
              · subst h28
                have p26_1t := p26_1 rfl
                refine KC.seq ?_
                refine KC.region ?_
                refine KO.pv (PV.assign rfl) rfl rfl ?_
                refine KO.nil ?_
                exact KC.ret ⟨rfl, _, (.tmp rfl .nil), 8, rfl, m27.pick [] (by decide) rfl, (by first | omega | (intro h; omega) | (simp only [List.length_nil, true_and, and_true, or_true, true_or] <;> omega) | (exact fun _ => ⟨by omega, by omega, by omega, by omega, fun u hu => by have := p20_0 (by first | rfl | assumption) u hu; have := this.1 rfl; omega, fun u hu => by have := p23_0 (by first | rfl | assumption) u hu; have := this.1 rfl; omega, fun u hu => by have := p26_0 (by first | rfl | assumption) u hu; have := this.1 rfl; omega, fun j u hu => by have := hpre.all len_cA (by omega) j u hu; (try dsimp only at this); omega⟩)), (by first | omega | (intro h; omega) | (simp only [List.length_nil, true_and, and_true, or_true, true_or] <;> omega)), (by first | omega | (intro h; omega) | (simp only [List.length_nil, true_and, and_true, or_true, true_or] <;> omega) | (exact fun _ => rfl) | (exact fun h => by have h1 := h.i0; have h2 := h.all; have h3 := h.b; have h4 := h.c; omega) | (exact fun h => by obtain ⟨u, hu, hP⟩ := p20_1 (by first | rfl | assumption); have h2 := hP.2 rfl; have h3 := h.hb u hu; omega) | (exact fun h => by obtain ⟨u, hu, hP⟩ := p23_1 (by first | rfl | assumption); have h2 := hP.2 rfl; have h3 := h.hc u hu; omega) | (exact fun h => by obtain ⟨u, hu, hP⟩ := p26_1 (by first | rfl | assumption); have h2 := hP.2 rfl; have h3 := h.hl u hu; omega))⟩
              · subst h28
                have p26_0t := p26_0 rfl
                refine KC.skip ?_
                refine KC.seq ?_
                refine KC.seq ?_
                refine KC.region ?_
                refine KO.pv (PV.fieldAddr fo26_2_B5 rfl) rfl rfl ?_
                refine KO.load1 ag23_B5 rfl (m27.row (i := 2) rfl) rfl rfl rfl ?_
                refine KO.pv (PV.len un23_B5 rfl) rfl rfl ?_
                refine KO.pv (PV.move rfl) rfl rfl ?_
                refine KO.nil ?_
                refine KC.block ?_
                refine KC.sub (l' := [(2, .int .i64 0), (3, .pointer (some ⟨H10.next, 0, none⟩)), (10, .bool (decide (ci < 0))), (30, .bool (decide (100 < x8))), (50, .bool false), (52, .slice a_cA n_cA c_cA), (53, .int .i64 (n_cA : Int)), (54, .int .i64 0)]) (.cons rfl (.cons rfl (.cons rfl (.cons rfl (.cons rfl (.cons rfl (.cons rfl (.cons rfl .nil)))))))) ?_
                refine KC.loopN (fun kq lq A => ∃ (i : Int), kq = ((n_cA : Int) - i).toNat ∧ lq = [(2, .int .i64 0), (3, .pointer (some ⟨H10.next, 0, none⟩)), (10, .bool (decide (ci < 0))), (30, .bool (decide (100 < x8))), (50, .bool false), (52, .slice a_cA n_cA c_cA), (53, .int .i64 (n_cA : Int)), (54, .int .i64 i)] ∧ Mem [] H A [R.row H14.next 182 true [.func (.func 114) #[] #[.pointer (some ⟨H10.next, 0, none⟩)]], R.row H10.next 179 true [.int .i64 1, .int .i64 (1 + ci), .int .i64 ((1 + ci) + (n_cL : Int)), .int .i64 (((1 + ci) + (n_cL : Int)) + (n_cA : Int))], R.row H.next 26 true [.int .i64 ci, .slice a_cL n_cL c_cL, .slice a_cA n_cA c_cA, .slice a_cB n_cB c_cB, .slice a_cC n_cC c_cC]] ∧ (0 ≤ i ∧ i ≤ n_cA) ∧ (Ahead cA i fun j p => 0 ≤ p.2 ∧ p.2 ≤ p.1 ∧ p.1 < 2 * (((1 + ci) + (n_cL : Int)) + j))) ?_ (((n_cA : Int) - 0).toNat) ⟨0, rfl, rfl, (m27.pick [0, 1, 2] (by decide) rfl), (by omega), Ahead.zero⟩
                rintro kq lq A29 ⟨i, rfl, rfl, m30, hi, hpre⟩
                refine KC.seq ?_
                refine KC.region ?_
                refine KO.pv (PV.lssD rfl rfl rfl) rfl rfl ?_
                refine KO.nil ?_
                refine KC.seq ?_
                refine KC.condD rfl (fun h31 => ?_) (fun h31 => ?_)
                · refine KC.skip ?_
                  refine KC.seq ?_
                  refine KC.block ?_
                  refine KC.seq ?_
                  refine KC.region ?_
                  refine KO.pv (PV.move rfl) rfl rfl ?_
                  obtain ⟨b32, o32, p32, r32, e32, ha32, hb32, hr32, hx32, hw32, hc32, ht32⟩ := V.at_ h_cA (z := i) (by omega) (by omega)
                  have hc32_0 : r32.cs[o32 + (i).toNat * 2 + 0]? = some (.int .i64 e32.1) := hc32 0 (by decide)
                  have hc32_1 : r32.cs[o32 + (i).toNat * 2 + 1]? = some (.int .i64 e32.2) := hc32 1 (by decide)
                  obtain ⟨hwa32, hwb32⟩ := hw32
                  obtain ⟨loa32, hia32⟩ := rangei64 hwa32
                  obtain ⟨lob32, hib32⟩ := rangei64 hwb32
                  refine KO.pv (PV.indexAddrZ un23_B5 sz187_B5 rfl ha32 rfl (by omega) (by omega)) rfl rfl ?_
                  refine KO.loadN ag187_B5 sz187_B5 rfl (m30.row0 hb32 hr32) ht32 rfl rfl ?_
                  refine KO.allocM m30 zt187_B5 rfl rfl fun H33 m34 => ?_
                  refine KO.pv (PV.assign rfl) rfl rfl ?_
                  refine KO.storeM m34 (i := 0) rfl sz187_B5 rfl rfl rfl (show 0 + 2 ≤ 2 by decide) (show _ = [.int .i64 e32.1, .int .i64 e32.2] from rfl) rfl fun H35 m36 => ?_
                  refine KO.nil ?_
                  refine KC.seq ?_
                  refine KC.region ?_
                  refine KO.pv (PV.fieldAddr fo187_1_B5 rfl) rfl rfl ?_
                  refine KO.load1 ag3_B5 rfl (m36.row (i := 0) rfl) rfl rfl rfl ?_
                  by_cases h37 : e32.2 < 0
                  · refine KO.pv (PV.lssD rfl rfl (decide_eq_true h37)) rfl rfl ?_
                    refine KO.pv (PV.move rfl) rfl rfl ?_
                    refine KO.no rfl rfl rfl ?_
                    refine KO.no rfl rfl rfl ?_
                    refine KO.no rfl rfl rfl ?_
                    refine KO.no rfl rfl rfl ?_
                    refine KO.no rfl rfl rfl ?_
                    refine KO.pv (PV.pickT rfl rfl rfl) rfl rfl ?_
                    refine KO.pv (PV.move rfl) rfl rfl ?_
                    refine KO.no rfl rfl rfl ?_
                    refine KO.no rfl rfl rfl ?_
                    refine KO.no rfl rfl rfl ?_
                    refine KO.no rfl rfl rfl ?_
                    refine KO.no rfl rfl rfl ?_
                    refine KO.no rfl rfl rfl ?_
                    refine KO.no rfl rfl rfl ?_
                    refine KO.no rfl rfl rfl ?_
                    refine KO.pv (PV.pickT rfl rfl rfl) rfl rfl ?_
                    refine KO.nil ?_
                    refine KC.condT rfl ?_
                    refine KC.seq ?_
                    refine KC.region ?_
                    refine KO.pv (PV.assign rfl) rfl rfl ?_
                    refine KO.nil ?_
                    exact KC.ret ⟨rfl, _, (.tmp rfl .nil), 8, rfl, m36.pick [] (by decide) rfl, (by first | omega | (intro h; omega) | (simp only [List.length_nil, true_and, and_true, or_true, true_or] <;> omega) | (exact fun _ => ⟨by omega, by omega, by omega, by omega, fun u hu => by have := p20_0 (by first | rfl | assumption) u hu; have := this.1 rfl; omega, fun u hu => by have := p23_0 (by first | rfl | assumption) u hu; have := this.1 rfl; omega, fun u hu => by have := p26_0 (by first | rfl | assumption) u hu; have := this.1 rfl; omega, fun j u hu => by have := hpre.all len_cA (by omega) j u hu; (try dsimp only at this); omega⟩)), (by first | omega | (intro h; omega) | (simp only [List.length_nil, true_and, and_true, or_true, true_or] <;> omega)), (by first | omega | (intro h; omega) | (simp only [List.length_nil, true_and, and_true, or_true, true_or] <;> omega) | (exact fun _ => rfl) | (exact fun h => by have h1 := h.i0; have h2 := h.all; have h3 := h.b; have h4 := h.c; omega) | (exact fun h => by obtain ⟨u, hu, hP⟩ := p20_1 (by first | rfl | assumption); have h2 := hP.2 rfl; have h3 := h.hb u hu; omega) | (exact fun h => by obtain ⟨u, hu, hP⟩ := p23_1 (by first | rfl | assumption); have h2 := hP.2 rfl; have h3 := h.hc u hu; omega) | (exact fun h => by obtain ⟨u, hu, hP⟩ := p26_1 (by first | rfl | assumption); have h2 := hP.2 rfl; have h3 := h.hl u hu; omega) | (exact fun h => by have h2 := h.ha _ _ hx32; (try dsimp only at h2); omega))⟩
                  · refine KO.pv (PV.lssD rfl rfl (decide_eq_false h37)) rfl rfl ?_
                    refine KO.pv (PV.move rfl) rfl rfl ?_
                    refine KO.pv (PV.fieldAddr fo187_0_B5 rfl) rfl rfl ?_
                    refine KO.load1 ag3_B5 rfl (m36.row (i := 0) rfl) rfl rfl rfl ?_
                    refine KO.pv (PV.fieldAddr fo187_1_B5 rfl) rfl rfl ?_
                    refine KO.load1 ag3_B5 rfl (m36.row (i := 0) rfl) rfl rfl rfl ?_
                    by_cases h38 : e32.1 < e32.2
                    · refine KO.pv (PV.lssD rfl rfl (decide_eq_true h38)) rfl rfl ?_
                      refine KO.pv (PV.pickF rfl rfl rfl) rfl rfl ?_
                      refine KO.pv (PV.move rfl) rfl rfl ?_
                      refine KO.no rfl rfl rfl ?_
                      refine KO.no rfl rfl rfl ?_
                      refine KO.no rfl rfl rfl ?_
                      refine KO.no rfl rfl rfl ?_
                      refine KO.no rfl rfl rfl ?_
                      refine KO.no rfl rfl rfl ?_
                      refine KO.no rfl rfl rfl ?_
                      refine KO.no rfl rfl rfl ?_
                      refine KO.pv (PV.pickT rfl rfl rfl) rfl rfl ?_
                      refine KO.nil ?_
                      refine KC.condT rfl ?_
                      refine KC.seq ?_
                      refine KC.region ?_
                      refine KO.pv (PV.assign rfl) rfl rfl ?_
                      refine KO.nil ?_
                      exact KC.ret ⟨rfl, _, (.tmp rfl .nil), 8, rfl, m36.pick [] (by decide) rfl, (by first | omega | (intro h; omega) | (simp only [List.length_nil, true_and, and_true, or_true, true_or] <;> omega) | (exact fun _ => ⟨by omega, by omega, by omega, by omega, fun u hu => by have := p20_0 (by first | rfl | assumption) u hu; have := this.1 rfl; omega, fun u hu => by have := p23_0 (by first | rfl | assumption) u hu; have := this.1 rfl; omega, fun u hu => by have := p26_0 (by first | rfl | assumption) u hu; have := this.1 rfl; omega, fun j u hu => by have := hpre.all len_cA (by omega) j u hu; (try dsimp only at this); omega⟩)), (by first | omega | (intro h; omega) | (simp only [List.length_nil, true_and, and_true, or_true, true_or] <;> omega)), (by first | omega | (intro h; omega) | (simp only [List.length_nil, true_and, and_true, or_true, true_or] <;> omega) | (exact fun _ => rfl) | (exact fun h => by have h1 := h.i0; have h2 := h.all; have h3 := h.b; have h4 := h.c; omega) | (exact fun h => by obtain ⟨u, hu, hP⟩ := p20_1 (by first | rfl | assumption); have h2 := hP.2 rfl; have h3 := h.hb u hu; omega) | (exact fun h => by obtain ⟨u, hu, hP⟩ := p23_1 (by first | rfl | assumption); have h2 := hP.2 rfl; have h3 := h.hc u hu; omega) | (exact fun h => by obtain ⟨u, hu, hP⟩ := p26_1 (by first | rfl | assumption); have h2 := hP.2 rfl; have h3 := h.hl u hu; omega) | (exact fun h => by have h2 := h.ha _ _ hx32; (try dsimp only at h2); omega))⟩
                    · refine KO.pv (PV.lssD rfl rfl (decide_eq_false h38)) rfl rfl ?_
                      refine KO.pv (PV.pickF rfl rfl rfl) rfl rfl ?_
                      refine KO.pv (PV.move rfl) rfl rfl ?_
                      refine KO.pv (PV.fieldAddr fo187_0_B5 rfl) rfl rfl ?_
                      refine KO.load1 ag3_B5 rfl (m36.row (i := 0) rfl) rfl rfl rfl ?_
                      refine KO.pv (PV.indexArrZ un179_B5 sz3_B5 rfl (z := 2) rfl (by decide) (by decide)) rfl rfl ?_
                      refine KO.load1 ag3_B5 rfl (m36.row (i := 2) rfl) rfl rfl rfl ?_
                      refine KO.pv (PV.move rfl) rfl rfl ?_
                      refine KO.pv (PV.add rfl rfl (wrap64 (by omega) (by omega))) rfl rfl ?_
                      refine KO.pv (PV.mul rfl rfl (wrap64 (by omega) (by omega))) rfl rfl ?_
                      refine KO.pv (PV.geqD rfl rfl rfl) rfl rfl ?_
                      refine KO.pv (PV.pickF rfl rfl rfl) rfl rfl ?_
                      refine KO.nil ?_
                      refine KC.condD rfl (fun h39 => ?_) (fun h39 => ?_)
                      · refine KC.seq ?_
                        refine KC.region ?_
                        refine KO.pv (PV.assign rfl) rfl rfl ?_
                        refine KO.nil ?_
                        exact KC.ret ⟨rfl, _, (.tmp rfl .nil), 8, rfl, m36.pick [] (by decide) rfl, (by first | omega | (intro h; omega) | (simp only [List.length_nil, true_and, and_true, or_true, true_or] <;> omega) | (exact fun _ => ⟨by omega, by omega, by omega, by omega, fun u hu => by have := p20_0 (by first | rfl | assumption) u hu; have := this.1 rfl; omega, fun u hu => by have := p23_0 (by first | rfl | assumption) u hu; have := this.1 rfl; omega, fun u hu => by have := p26_0 (by first | rfl | assumption) u hu; have := this.1 rfl; omega, fun j u hu => by have := hpre.all len_cA (by omega) j u hu; (try dsimp only at this); omega⟩)), (by first | omega | (intro h; omega) | (simp only [List.length_nil, true_and, and_true, or_true, true_or] <;> omega)), (by first | omega | (intro h; omega) | (simp only [List.length_nil, true_and, and_true, or_true, true_or] <;> omega) | (exact fun _ => rfl) | (exact fun h => by have h1 := h.i0; have h2 := h.all; have h3 := h.b; have h4 := h.c; omega) | (exact fun h => by obtain ⟨u, hu, hP⟩ := p20_1 (by first | rfl | assumption); have h2 := hP.2 rfl; have h3 := h.hb u hu; omega) | (exact fun h => by obtain ⟨u, hu, hP⟩ := p23_1 (by first | rfl | assumption); have h2 := hP.2 rfl; have h3 := h.hc u hu; omega) | (exact fun h => by obtain ⟨u, hu, hP⟩ := p26_1 (by first | rfl | assumption); have h2 := hP.2 rfl; have h3 := h.hl u hu; omega) | (exact fun h => by have h2 := h.ha _ _ hx32; (try dsimp only at h2); omega))⟩
                      · refine KC.skip ?_
                        refine KC.region ?_
                        refine KO.pv (PV.add rfl rfl (wrap64 (by omega) (by omega))) rfl rfl ?_
                        refine KO.pv (PV.move rfl) rfl rfl ?_
                        refine KO.nil ?_
                        exact ⟨_, _, (by omega), (.cons rfl (.cons rfl (.cons rfl (.cons rfl (.cons rfl (.cons rfl (.cons rfl (.cons rfl .nil)))))))), (i + 1), rfl, rfl, (m36.pick [1, 2, 3] (by decide) rfl), (by omega), (hpre.step (by assumption) (by omega) (by (try dsimp only); omega))⟩
                · refine KC.exit ?_
                  refine KC.seq ?_
                  refine KC.region ?_
                  refine KO.pv (PV.assign rfl) rfl rfl ?_
                  refine KO.nil ?_
                  exact KC.ret ⟨rfl, _, (.tmp rfl .nil), 0, rfl, m30.pick [] (by decide) rfl, (by first | omega | (intro h; omega) | (simp only [List.length_nil, true_and, and_true, or_true, true_or] <;> omega) | (exact fun _ => ⟨by omega, by omega, by omega, by omega, fun u hu => by have := p20_0 (by first | rfl | assumption) u hu; have := this.1 rfl; omega, fun u hu => by have := p23_0 (by first | rfl | assumption) u hu; have := this.1 rfl; omega, fun u hu => by have := p26_0 (by first | rfl | assumption) u hu; have := this.1 rfl; omega, fun j u hu => by have := hpre.all len_cA (by omega) j u hu; (try dsimp only at this); omega⟩)), (by first | omega | (intro h; omega) | (simp only [List.length_nil, true_and, and_true, or_true, true_or] <;> omega)), (by first | omega | (intro h; omega) | (simp only [List.length_nil, true_and, and_true, or_true, true_or] <;> omega) | (exact fun _ => rfl) | (exact fun h => by have h1 := h.i0; have h2 := h.all; have h3 := h.b; have h4 := h.c; omega) | (exact fun h => by obtain ⟨u, hu, hP⟩ := p20_1 (by first | rfl | assumption); have h2 := hP.2 rfl; have h3 := h.hb u hu; omega) | (exact fun h => by obtain ⟨u, hu, hP⟩ := p23_1 (by first | rfl | assumption); have h2 := hP.2 rfl; have h3 := h.hc u hu; omega) | (exact fun h => by obtain ⟨u, hu, hP⟩ := p26_1 (by first | rfl | assumption); have h2 := hP.2 rfl; have h3 := h.hl u hu; omega))⟩
end Go.Eng
