/- TopSharedTernary answers true on the interpreter. Conditions: none beyond each theorem's own. -/
import Derived.Test.YtphehedgnhmahaaGreatDoorGates
import Derived.Test.YtphehedgnhmahaaGreatDoorTernaryA
import Derived.KernelRfl
namespace Go.Eng
open Go Go.Proofs
theorem IndexFunc_uint8 (H : AHeap) (a_s : Option Addr) (n_s c_s : Nat) (s : List Int) (g_f : FuncId) (cap_f : List Value) (Pf : Int → Bool → Prop) (h_s : V (EI .u8) H a_s n_s c_s s) (x_f : E0.ext g_f = none) (h_f : ∀ A, Mem [] H A [] → ∀ u ∈ s, WF E0 g_f ([.int .u8 u] ++ cap_f) A fun q => ∃ b : Bool, q.1 = .bool b ∧ Mem [] A q.2 [] ∧ Pf u b) : WF E0 180 [.slice a_s n_s c_s, .func (.func g_f) #[] cap_f.toArray] H fun q => ∃ (z : Int), q.1 = .int .i64 z ∧ Mem [] H q.2 [] ∧ (-1 ≤ z ∧ z < n_s) ∧ (z < 0 → ∀ u ∈ s, Pf u false) ∧ (0 ≤ z → ∃ u, s[z.toNat]? = some u ∧ Pf u true) := by
  obtain ⟨len_s, cap_s, max_s, wf_s⟩ := h_s.len
  have m0 : Mem [] H H [] := Mem.start
  refine WF.kg Tryz.func180 rfl rfl ?_
  refine KC.seq ?_
  refine KC.region ?_
  refine KO.pv (PV.assign rfl) rfl rfl ?_
  refine KO.nil ?_
  refine KC.seq ?_
  refine KC.seq ?_
  refine KC.region ?_
  refine KO.pv (PV.move rfl) rfl rfl ?_
  refine KO.pv (PV.len un68 rfl) rfl rfl ?_
  refine KO.pv (PV.move rfl) rfl rfl ?_
  refine KO.nil ?_
  refine KC.block ?_
  refine KC.sub (l' := [(0, .slice a_s n_s c_s), (1, .func (.func g_f) #[] cap_f.toArray), (4, .int .i64 0), (7, .int .i64 (n_s : Int)), (8, .int .i64 0)]) (.cons rfl (.cons rfl (.cons rfl (.cons rfl (.cons rfl .nil))))) ?_
  refine KC.loopN (fun k l A => ∃ (i : Int), k = ((n_s : Int) - i).toNat ∧ l = [(0, .slice a_s n_s c_s), (1, .func (.func g_f) #[] cap_f.toArray), (4, .int .i64 0), (7, .int .i64 (n_s : Int)), (8, .int .i64 i)] ∧ Mem [] H A [] ∧ (0 ≤ i ∧ i ≤ n_s) ∧ (Ahead s i fun _ u => Pf u false)) ?_ (((n_s : Int) - 0).toNat) ⟨0, rfl, rfl, (m0.pick [] (by decide) rfl), (by omega), Ahead.zero⟩
  rintro k l A1 ⟨i, rfl, rfl, m2, hi, hpre⟩
  refine KC.seq ?_
  refine KC.region ?_
  refine KO.pv (PV.lssD rfl rfl rfl) rfl rfl ?_
  refine KO.nil ?_
  refine KC.seq ?_
  refine KC.condD rfl (fun h3 => ?_) (fun h3 => ?_)
  · refine KC.skip ?_
    refine KC.seq ?_
    refine KC.block ?_
    refine KC.seq ?_
    refine KC.region ?_
    refine KO.pv (PV.move rfl) rfl rfl ?_
    refine KO.pv (PV.assign rfl) rfl rfl ?_
    refine KO.nil ?_
    refine KC.seq ?_
    refine KC.region ?_
    refine KO.pv (PV.move rfl) rfl rfl ?_
    refine KO.pv (PV.move rfl) rfl rfl ?_
    refine KO.pv (PV.move rfl) rfl rfl ?_
    obtain ⟨b4, o4, p4, r4, e4, ha4, hb4, hr4, hx4, hw4, hc4, ht4⟩ := V.at_ h_s (z := i) (by omega) (by omega)
    have hc4_0 : r4.cs[o4 + (i).toNat * 1 + 0]? = some (.int .u8 e4) := hc4 0 (by decide)
    have hw4 : IntKind.u8.wrap e4 = e4 := hw4
    obtain ⟨lo4, hi4⟩ := rangeu8 hw4
    refine KO.pv (PV.indexAddrZ un68 sz5 rfl ha4 rfl (by omega) (by omega)) rfl rfl ?_
    refine KO.load1 ag5 rfl (m2.row0 hb4 hr4) hc4_0 rfl rfl ?_
    refine KO.callV rfl x_f rfl rfl rfl (h_f A1 (m2.pick [] (by decide) rfl) _ (List.mem_of_getElem? hx4)) fun v5 H5 q5 => ?_
    obtain ⟨b5, hv5, mc5, pf5⟩ := q5
    dsimp only at hv5 mc5
    subst hv5
    have m6 := m2.seq mc5
    refine KO.nil ?_
    refine KC.cond rfl (fun h7 => ?_) (fun h7 => ?_)
    · refine KC.seq ?_
      refine KC.region ?_
      refine KO.pv (PV.move rfl) rfl rfl ?_
      refine KO.pv (PV.assign rfl) rfl rfl ?_
      refine KO.nil ?_
      exact KC.ret ⟨rfl, _, (.tmp rfl .nil), i, rfl, m6.pick [] (by decide) rfl, (by first | omega | (intro h; omega)), (by first | omega | (intro h; omega) | (exact fun h => by omega) | (exact fun _ => hpre.mem len_s (by omega))), (by first | omega | (intro h; omega) | (exact fun _ => ⟨_, by assumption, by subst_vars; assumption⟩) | (exact fun h => by omega))⟩
    · refine KC.skip ?_
      refine KC.region ?_
      refine KO.pv (PV.add rfl rfl (wrap64 (by omega) (by omega))) rfl rfl ?_
      refine KO.pv (PV.move rfl) rfl rfl ?_
      refine KO.nil ?_
      exact ⟨_, _, (by omega), (.cons rfl (.cons rfl (.cons rfl (.cons rfl (.cons rfl .nil))))), (i + 1), rfl, rfl, (m6.pick [] (by decide) rfl), (by omega), (hpre.step (by assumption) (by omega) (by subst_vars; assumption))⟩
  · refine KC.exit ?_
    refine KC.seq ?_
    refine KC.region ?_
    refine KO.pv (PV.assign rfl) rfl rfl ?_
    refine KO.nil ?_
    exact KC.ret ⟨rfl, _, (.tmp rfl .nil), (-1), rfl, m2.pick [] (by decide) rfl, (by first | omega | (intro h; omega)), (by first | omega | (intro h; omega) | (exact fun h => by omega) | (exact fun _ => hpre.mem len_s (by omega))), (by first | omega | (intro h; omega) | (exact fun _ => ⟨_, by assumption, by subst_vars; assumption⟩) | (exact fun h => by omega))⟩
theorem ContainsFunc_uint8 (H : AHeap) (a_s : Option Addr) (n_s c_s : Nat) (s : List Int) (g_f : FuncId) (cap_f : List Value) (Pf : Int → Bool → Prop) (h_s : V (EI .u8) H a_s n_s c_s s) (x_f : E0.ext g_f = none) (h_f : ∀ A, Mem [] H A [] → ∀ u ∈ s, WF E0 g_f ([.int .u8 u] ++ cap_f) A fun q => ∃ b : Bool, q.1 = .bool b ∧ Mem [] A q.2 [] ∧ Pf u b) : WF E0 164 [.slice a_s n_s c_s, .func (.func g_f) #[] cap_f.toArray] H fun q => ∃ (c : Bool), q.1 = .bool c ∧ Mem [] H q.2 [] ∧ (c = false → ∀ u ∈ s, Pf u false) ∧ (c = true → ∃ u ∈ s, Pf u true) := by
  obtain ⟨len_s, cap_s, max_s, wf_s⟩ := h_s.len
  have m0 : Mem [] H H [] := Mem.start
  refine WF.kg Tryz.func164 rfl rfl ?_
  refine KC.seq ?_
  refine KC.region ?_
  refine KO.pv (PV.assign rfl) rfl rfl ?_
  refine KO.nil ?_
  refine KC.seq ?_
  refine KC.region ?_
  refine KO.pv (PV.move rfl) rfl rfl ?_
  refine KO.pv (PV.move rfl) rfl rfl ?_
  refine KO.call rfl rfl rfl rfl (IndexFunc_uint8 H a_s n_s c_s s g_f cap_f Pf h_s x_f h_f) fun v1 H1 q1 => ?_
  obtain ⟨z1, hv1, mc1, p1_0, p1_1, p1_2⟩ := q1
  dsimp only at hv1 mc1
  subst hv1
  have m1 := m0.seq mc1
  refine KO.pv (PV.geqD rfl rfl rfl) rfl rfl ?_
  refine KO.pv (PV.assign rfl) rfl rfl ?_
  refine KO.nil ?_
  exact KC.ret ⟨rfl, _, (.tmp rfl .nil), (decide (0 ≤ z1)), rfl, m1.pick [] (by decide) rfl, (fun h => p1_1 (by have := of_decide_eq_false h; omega)), (fun h => by obtain ⟨u, h1, h2⟩ := p1_2 (by have := of_decide_eq_true h; omega); exact ⟨u, List.mem_of_getElem? h1, h2⟩)⟩
theorem tern_bad (H : AHeap) (x : Int) (w_x : IntKind.u8.wrap x = x) : WF E0 165 [.int .u8 x] H fun q => ∃ (o : Bool), q.1 = .bool o ∧ Mem [] H q.2 [] ∧ (o = false → x ≤ 2) := by
  obtain ⟨lo_x, hi_x⟩ := rangeu8 w_x
  have m0 : Mem [] H H [] := Mem.start
  refine WF.kg Tryz.func165 rfl rfl ?_
  refine KC.seq ?_
  refine KC.region ?_
  refine KO.pv (PV.assign rfl) rfl rfl ?_
  refine KO.nil ?_
  refine KC.seq ?_
  refine KC.region ?_
  refine KO.pv (PV.move rfl) rfl rfl ?_
  refine KO.pv (PV.gtrD rfl rfl rfl) rfl rfl ?_
  refine KO.pv (PV.assign rfl) rfl rfl ?_
  refine KO.nil ?_
  exact KC.ret ⟨rfl, _, (.tmp rfl .nil), (decide (2 < x)), rfl, m0.pick [] (by decide) rfl, (by first | omega | (intro h; omega) | (exact fun h => by have := of_decide_eq_false h; omega))⟩
theorem tern_check (H : AHeap) (a_l : Option Addr) (n_l c_l : Nat) (l : List Int) (h_l : V (EI .u8) H a_l n_l c_l l) : WF E0 131 [.slice a_l n_l c_l] H fun q => ∃ (e : Int), q.1 = .int .i64 e ∧ Mem [] H q.2 [] ∧ (e = 0 → ∀ u ∈ l, 0 ≤ u ∧ u ≤ 2) ∧ (0 ≤ e ∧ e ≤ 100) := by
  obtain ⟨len_l, cap_l, max_l, wf_l⟩ := h_l.len
  have m0 : Mem [] H H [] := Mem.start
  refine WF.kg Tryz.func131 rfl rfl ?_
  refine KC.seq ?_
  refine KC.region ?_
  refine KO.pv (PV.assign rfl) rfl rfl ?_
  refine KO.nil ?_
  refine KC.seq ?_
  refine KC.seq ?_
  refine KC.region ?_
  refine KO.pv (PV.move rfl) rfl rfl ?_
  refine KO.call rfl rfl rfl rfl (ContainsFunc_uint8 H a_l n_l c_l _ 165 [] (fun u b => b = false → u ≤ 2) (V.mem m0 h_l) rfl (fun A mA u hu => tern_bad A u (wf_l u hu))) fun v1 H1 q1 => ?_
  obtain ⟨c1, hv1, mc1, p1_0, p1_1⟩ := q1
  dsimp only at hv1 mc1
  subst hv1
  have m2 := m0.seq mc1
  refine KO.nil ?_
  refine KC.cond rfl (fun h3 => ?_) (fun h3 => ?_)
  · refine KC.seq ?_
    refine KC.region ?_
    refine KO.pv (PV.assign rfl) rfl rfl ?_
    refine KO.nil ?_
    exact KC.ret ⟨rfl, _, (.tmp rfl .nil), 8, rfl, m2.pick [] (by decide) rfl, (by first | omega | (intro h; omega) | (exact fun _ u hu => ⟨(rangeu8 (wf_l u hu)).1, p1_0 (by assumption) u hu rfl⟩)), (by first | omega | (intro h; omega))⟩
  · refine KC.skip ?_
    refine KC.seq ?_
    refine KC.region ?_
    refine KO.pv (PV.assign rfl) rfl rfl ?_
    refine KO.nil ?_
    exact KC.ret ⟨rfl, _, (.tmp rfl .nil), 0, rfl, m2.pick [] (by decide) rfl, (by first | omega | (intro h; omega) | (exact fun _ u hu => ⟨(rangeu8 (wf_l u hu)).1, p1_0 (by assumption) u hu rfl⟩)), (by first | omega | (intro h; omega))⟩
theorem tern_not (H : AHeap) (a : Int) (w_a : IntKind.u8.wrap a = a) (h2 : a ≤ 2) : WF E0 166 [.int .u8 a] H fun q => ∃ (z : Int), q.1 = .int .u8 z ∧ Mem [] H q.2 [] ∧ (0 ≤ z ∧ z ≤ 2) := by
  obtain ⟨lo_a, hi_a⟩ := rangeu8 w_a
  have m0 : Mem [] H H [] := Mem.start
  refine WF.kg Tryz.func166 rfl rfl ?_
  refine KC.seq ?_
  refine KC.region ?_
  refine KO.pv (PV.assign rfl) rfl rfl ?_
  refine KO.nil ?_
  refine KC.seq ?_
  refine KC.seq ?_
  refine KC.region ?_
  refine KO.pv (PV.move rfl) rfl rfl ?_
  refine KO.pv (PV.neqD rfl rfl rfl) rfl rfl ?_
  refine KO.nil ?_
  refine KC.condD rfl (fun h1 => ?_) (fun h1 => ?_)
  · refine KC.region ?_
    refine KO.pv (PV.move rfl) rfl rfl ?_
    obtain ⟨x2, dx2, rx2, zx2, qx2⟩ := xor18 (a) (by omega) (by omega)
    refine KO.pv (PV.xor18 rfl rfl qx2) rfl rfl ?_
    refine KO.pv (PV.assign rfl) rfl rfl ?_
    refine KO.nil ?_
    refine KC.seq ?_
    refine KC.region ?_
    refine KO.pv (PV.move rfl) rfl rfl ?_
    refine KO.pv (PV.assign rfl) rfl rfl ?_
    refine KO.nil ?_
    exact KC.ret ⟨rfl, _, (.tmp rfl .nil), x2, rfl, m0.pick [] (by decide) rfl, (by first | omega | (intro h; omega))⟩
  · refine KC.skip ?_
    refine KC.seq ?_
    refine KC.region ?_
    refine KO.pv (PV.move rfl) rfl rfl ?_
    refine KO.pv (PV.assign rfl) rfl rfl ?_
    refine KO.nil ?_
    exact KC.ret ⟨rfl, _, (.tmp rfl .nil), a, rfl, m0.pick [] (by decide) rfl, (by first | omega | (intro h; omega))⟩
theorem tern_and (H : AHeap) (a : Int) (b : Int) (w_a : IntKind.u8.wrap a = a) (w_b : IntKind.u8.wrap b = b) (ha : a ≤ 2) (hb : b ≤ 2) : WF E0 132 [.int .u8 a, .int .u8 b] H fun q => ∃ (z : Int), q.1 = .int .u8 z ∧ Mem [] H q.2 [] ∧ (0 ≤ z ∧ z ≤ 2) := by
  obtain ⟨lo_a, hi_a⟩ := rangeu8 w_a
  obtain ⟨lo_b, hi_b⟩ := rangeu8 w_b
  have m0 : Mem [] H H [] := Mem.start
  refine WF.kg Tryz.func132 rfl rfl ?_
  refine KC.seq ?_
  refine KC.region ?_
  refine KO.pv (PV.assign rfl) rfl rfl ?_
  refine KO.nil ?_
  refine KC.seq ?_
  refine KC.block ?_
  refine KC.seq ?_
  refine KC.region ?_
  refine KO.pv (PV.move rfl) rfl rfl ?_
  by_cases h1 : a = 0
  · refine KO.pv (PV.eqlD rfl rfl (decide_eq_true h1)) rfl rfl ?_
    refine KO.pv (PV.move rfl) rfl rfl ?_
    refine KO.no rfl rfl rfl ?_
    refine KO.no rfl rfl rfl ?_
    refine KO.pv (PV.pickT rfl rfl rfl) rfl rfl ?_
    refine KO.pv (PV.assign rfl) rfl rfl ?_
    refine KO.nil ?_
    refine KC.condT rfl ?_
    refine KC.seq ?_
    refine KC.region ?_
    refine KO.pv (PV.assign rfl) rfl rfl ?_
    refine KO.nil ?_
    exact KC.ret ⟨rfl, _, (.tmp rfl .nil), 0, rfl, m0.pick [] (by decide) rfl, (by first | omega | (intro h; omega))⟩
  · refine KO.pv (PV.eqlD rfl rfl (decide_eq_false h1)) rfl rfl ?_
    refine KO.pv (PV.move rfl) rfl rfl ?_
    refine KO.pv (PV.move rfl) rfl rfl ?_
    refine KO.pv (PV.eqlD rfl rfl rfl) rfl rfl ?_
    refine KO.pv (PV.pickF rfl rfl rfl) rfl rfl ?_
    refine KO.pv (PV.assign rfl) rfl rfl ?_
    refine KO.nil ?_
    refine KC.condD rfl (fun h2 => ?_) (fun h2 => ?_)
    · refine KC.seq ?_
      refine KC.region ?_
      refine KO.pv (PV.assign rfl) rfl rfl ?_
      refine KO.nil ?_
      exact KC.ret ⟨rfl, _, (.tmp rfl .nil), 0, rfl, m0.pick [] (by decide) rfl, (by first | omega | (intro h; omega))⟩
    · refine KC.seq ?_
      refine KC.region ?_
      refine KO.pv (PV.move rfl) rfl rfl ?_
      by_cases h3 : a = 2
      · refine KO.pv (PV.eqlD rfl rfl (decide_eq_true h3)) rfl rfl ?_
        refine KO.pv (PV.move rfl) rfl rfl ?_
        refine KO.no rfl rfl rfl ?_
        refine KO.no rfl rfl rfl ?_
        refine KO.pv (PV.pickT rfl rfl rfl) rfl rfl ?_
        refine KO.pv (PV.assign rfl) rfl rfl ?_
        refine KO.nil ?_
        refine KC.condT rfl ?_
        refine KC.seq ?_
        refine KC.region ?_
        refine KO.pv (PV.assign rfl) rfl rfl ?_
        refine KO.nil ?_
        exact KC.ret ⟨rfl, _, (.tmp rfl .nil), 2, rfl, m0.pick [] (by decide) rfl, (by first | omega | (intro h; omega))⟩
      · refine KO.pv (PV.eqlD rfl rfl (decide_eq_false h3)) rfl rfl ?_
        refine KO.pv (PV.move rfl) rfl rfl ?_
        refine KO.pv (PV.move rfl) rfl rfl ?_
        refine KO.pv (PV.eqlD rfl rfl rfl) rfl rfl ?_
        refine KO.pv (PV.pickF rfl rfl rfl) rfl rfl ?_
        refine KO.pv (PV.assign rfl) rfl rfl ?_
        refine KO.nil ?_
        refine KC.condD rfl (fun h4 => ?_) (fun h4 => ?_)
        · refine KC.seq ?_
          refine KC.region ?_
          refine KO.pv (PV.assign rfl) rfl rfl ?_
          refine KO.nil ?_
          exact KC.ret ⟨rfl, _, (.tmp rfl .nil), 2, rfl, m0.pick [] (by decide) rfl, (by first | omega | (intro h; omega))⟩
        · refine KC.skip ?_
          refine KC.seq ?_
          refine KC.region ?_
          refine KO.pv (PV.assign rfl) rfl rfl ?_
          refine KO.nil ?_
          exact KC.ret ⟨rfl, _, (.tmp rfl .nil), 1, rfl, m0.pick [] (by decide) rfl, (by first | omega | (intro h; omega))⟩
theorem tern_of (H : AHeap) (a_l : Option Addr) (n_l c_l : Nat) (l : List Int) (x : Int) (h_l : V (EI .u8) H a_l n_l c_l l) (w_x : IntKind.i64.wrap x = x) (h0 : 0 ≤ x) (h1 : x / 2 < n_l) (hl : ∀ u ∈ l, 0 ≤ u ∧ u ≤ 2) : WF E0 133 [.slice a_l n_l c_l, .int .i64 x] H fun q => ∃ (z : Int), q.1 = .int .u8 z ∧ Mem [] H q.2 [] ∧ (0 ≤ z ∧ z ≤ 2) := by
  obtain ⟨len_l, cap_l, max_l, wf_l⟩ := h_l.len
  obtain ⟨lo_x, hi_x⟩ := rangei64 w_x
  have m0 : Mem [] H H [] := Mem.start
  refine WF.kg Tryz.func133 rfl rfl ?_
  refine KC.seq ?_
  refine KC.region ?_
  refine KO.pv (PV.assign rfl) rfl rfl ?_
  refine KO.nil ?_
  refine KC.seq ?_
  refine KC.seq ?_
  refine KC.region ?_
  refine KO.pv (PV.move rfl) rfl rfl ?_
  refine KO.pv (PV.and1 rfl rfl (by omega) (by omega)) rfl rfl ?_
  refine KO.pv (PV.eqlD rfl rfl rfl) rfl rfl ?_
  refine KO.nil ?_
  refine KC.condD rfl (fun h1 => ?_) (fun h1 => ?_)
  · refine KC.seq ?_
    refine KC.region ?_
    refine KO.pv (PV.move rfl) rfl rfl ?_
    refine KO.pv (PV.move rfl) rfl rfl ?_
    refine KO.pv (PV.shr1 rfl rfl rfl) rfl rfl ?_
    obtain ⟨b2, o2, p2, r2, e2, ha2, hb2, hr2, hx2, hw2, hc2, ht2⟩ := V.at_ h_l (z := (x / 2)) (by omega) (by omega)
    have hc2_0 : r2.cs[o2 + ((x / 2)).toNat * 1 + 0]? = some (.int .u8 e2) := hc2 0 (by decide)
    have hw2 : IntKind.u8.wrap e2 = e2 := hw2
    obtain ⟨lo2, hi2⟩ := rangeu8 hw2
    have q2 := hl _ (List.mem_of_getElem? hx2)
    refine KO.pv (PV.indexAddrZ un68 sz5 rfl ha2 rfl (by omega) (by omega)) rfl rfl ?_
    refine KO.load1 ag5 rfl (m0.row0 hb2 hr2) hc2_0 rfl rfl ?_
    refine KO.call rfl rfl rfl rfl (tern_not H e2 (wrap8 (by omega) (by omega)) (by first | omega | assumption)) fun v3 H3 q3 => ?_
    obtain ⟨z3, hv3, mc3, p3_0⟩ := q3
    dsimp only at hv3 mc3
    subst hv3
    have m4 := m0.seq mc3
    refine KO.pv (PV.assign rfl) rfl rfl ?_
    refine KO.nil ?_
    exact KC.ret ⟨rfl, _, (.tmp rfl .nil), z3, rfl, m4.pick [] (by decide) rfl, (by first | omega | (intro h; omega))⟩
  · refine KC.skip ?_
    refine KC.seq ?_
    refine KC.region ?_
    refine KO.pv (PV.move rfl) rfl rfl ?_
    refine KO.pv (PV.move rfl) rfl rfl ?_
    refine KO.pv (PV.shr1 rfl rfl rfl) rfl rfl ?_
    obtain ⟨b5, o5, p5, r5, e5, ha5, hb5, hr5, hx5, hw5, hc5, ht5⟩ := V.at_ h_l (z := (x / 2)) (by omega) (by omega)
    have hc5_0 : r5.cs[o5 + ((x / 2)).toNat * 1 + 0]? = some (.int .u8 e5) := hc5 0 (by decide)
    have hw5 : IntKind.u8.wrap e5 = e5 := hw5
    obtain ⟨lo5, hi5⟩ := rangeu8 hw5
    have q5 := hl _ (List.mem_of_getElem? hx5)
    refine KO.pv (PV.indexAddrZ un68 sz5 rfl ha5 rfl (by omega) (by omega)) rfl rfl ?_
    refine KO.load1 ag5 rfl (m0.row0 hb5 hr5) hc5_0 rfl rfl ?_
    refine KO.pv (PV.assign rfl) rfl rfl ?_
    refine KO.nil ?_
    exact KC.ret ⟨rfl, _, (.tmp rfl .nil), e5, rfl, m0.pick [] (by decide) rfl, (by first | omega | (intro h; omega))⟩
theorem Grow_uint8 (H : AHeap)  (n : Int) (w_n : IntKind.i64.wrap n = n) (h0 : 0 ≤ n) (h1 : n ≤ 330000000) : WF E0 163 [.slice none 0 0, .int .i64 n] H fun q => ∃ (a : Option Addr) (c : Nat) (zs : List Int) (D : List Nat), q.1 = .slice a 0 c ∧ Mem [] H q.2 [R.lst 5 1 a c (cells (EI .u8) zs) D] ∧ ((c : Int) = n) ∧ (zs.length = c) := by
  obtain ⟨lo_n, hi_n⟩ := rangei64 w_n
  have m0 : Mem [] H H [] := Mem.start
  refine WF.kg Tryz.func163 rfl rfl ?_
  refine KC.seq ?_
  refine KC.region ?_
  refine KO.pv (PV.assign rfl) rfl rfl ?_
  refine KO.nil ?_
  refine KC.seq ?_
  refine KC.seq ?_
  refine KC.region ?_
  refine KO.pv (PV.move rfl) rfl rfl ?_
  refine KO.pv (PV.lssD rfl rfl rfl) rfl rfl ?_
  refine KO.nil ?_
  refine KC.condD rfl (fun h1 => ?_) (fun h1 => ?_)
  · exact absurd h0 (by omega)
  · refine KC.skip ?_
    refine KC.seq ?_
    refine KC.seq ?_
    refine KC.region ?_
    refine KO.pv (PV.move rfl) rfl rfl ?_
    refine KO.pv (PV.move rfl) rfl rfl ?_
    refine KO.pv (PV.cap un68 rfl rfl) rfl rfl ?_
    refine KO.pv (PV.move rfl) rfl rfl ?_
    refine KO.pv (PV.len un68 rfl) rfl rfl ?_
    refine KO.pv (PV.sub rfl rfl (wrap64 (by omega) (by omega))) rfl rfl ?_
    refine KO.pv (PV.sub rfl rfl (wrap64 (by omega) (by omega))) rfl rfl ?_
    refine KO.pv (PV.assign rfl) rfl rfl ?_
    refine KO.nil ?_
    refine KC.seq ?_
    refine KC.region ?_
    refine KO.pv (PV.move rfl) rfl rfl ?_
    refine KO.pv (PV.gtrD rfl rfl rfl) rfl rfl ?_
    refine KO.nil ?_
    refine KC.condD rfl (fun h2 => ?_) (fun h2 => ?_)
    · refine KC.region ?_
      refine KO.pv (PV.move rfl) rfl rfl ?_
      refine KO.pv (PV.move rfl) rfl rfl ?_
      refine KO.pv (PV.cap un68 rfl rfl) rfl rfl ?_
      refine KO.pv (PV.slice rfl (fun _ h => by cases h) (fun _ => rfl) (fun _ h => by cases h; exact ⟨_, rfl, rfl⟩) (fun h => by cases h) (fun _ h => by cases h) (fun _ => rfl) (sliceNil un68 sz5)) rfl rfl ?_
      refine KO.pv (PV.move rfl) rfl rfl ?_
      have m3 := m0.lnil (e := 5) (sz := 1) none rfl
      refine KO.appendZM (C := (EI .u8)) 0 m3 (i := 0) rfl el68 ez5 sb5 un3 rfl rfl (by omega) (by omega) rfl rfl fun a5 D6 H4 m7 => ?_
      refine KO.pv (PV.move rfl) rfl rfl ?_
      refine KO.pv (PV.len un68 rfl) rfl rfl ?_
      refine KO.pv (PV.slice rfl (fun _ h => by cases h) (fun _ => rfl) (fun _ h => by cases h; exact ⟨_, rfl, rfl⟩) (fun h => by cases h) (fun _ h => by cases h) (fun _ => rfl) (sliceTo un68 sz5 (m7.vlst (i := 0) rfl (all_rep (wfu8 (by omega) (by omega))) (by first | omega | (simp only [splice, List.length_append, List.length_set, List.length_replicate, List.length_map, List.length_take, List.length_drop, List.length_cons, List.length_nil]; omega))) (by omega) (by omega))) rfl rfl ?_
      refine KO.pv (PV.assign rfl) rfl rfl ?_
      refine KO.nil ?_
      refine KC.seq ?_
      refine KC.region ?_
      refine KO.pv (PV.move rfl) rfl rfl ?_
      refine KO.pv (PV.assign rfl) rfl rfl ?_
      refine KO.nil ?_
      exact KC.ret ⟨rfl, _, (.tmp rfl .nil), a5, (((n - 0)).toNat), (List.replicate (((n - 0)).toNat) 0), D6, rfl, m7.pick [0] (by decide) rfl, (by first | omega | (intro h; omega)), (by first | omega | (intro h; omega) | rfl | (simp only [List.length_replicate] <;> omega))⟩
    · refine KC.skip ?_
      refine KC.seq ?_
      refine KC.region ?_
      refine KO.pv (PV.move rfl) rfl rfl ?_
      refine KO.pv (PV.assign rfl) rfl rfl ?_
      refine KO.nil ?_
      have m8 := m0.lnil (e := 5) (sz := 1) none rfl
      exact KC.ret ⟨rfl, _, (.tmp rfl .nil), none, 0, [], [], rfl, m8.pick [0] (by decide) rfl, (by first | omega | (intro h; omega)), (by first | omega | (intro h; omega) | rfl | (simp only [List.length_replicate] <;> omega))⟩
theorem Concat_uint8 (H : AHeap) (a_s : Option Addr) (n_s c_s : Nat) (v_s : List (Option Addr × Nat × Nat)) (s : List (List Int)) (h_s : V ES H a_s n_s c_s v_s) (i_s : VV (EI .u8) H v_s s) (tot : s.flatten.length ≤ 330000000) : WF E0 130 [.slice a_s n_s c_s] H fun q => ∃ (a : Option Addr) (n : Nat) (xs : List Int) (D : List Nat), q.1 = .slice a n n ∧ Mem [] H q.2 [R.lst 5 1 a n (cells (EI .u8) xs) D] ∧ (xs = s.flatten) := by
  obtain ⟨len_s, cap_s, max_s, wf_s⟩ := h_s.len
  have len2_s := i_s.1
  have m0 : Mem [] H H [] := Mem.start
  refine WF.kg Tryz.func130 rfl rfl ?_
  refine KC.seq ?_
  refine KC.region ?_
  refine KO.pv (PV.assign rfl) rfl rfl ?_
  refine KO.nil ?_
  refine KC.seq ?_
  refine KC.region ?_
  refine KO.pv (PV.assign rfl) rfl rfl ?_
  refine KO.nil ?_
  refine KC.seq ?_
  refine KC.seq ?_
  refine KC.region ?_
  refine KO.pv (PV.move rfl) rfl rfl ?_
  refine KO.pv (PV.len un237 rfl) rfl rfl ?_
  refine KO.pv (PV.move rfl) rfl rfl ?_
  refine KO.nil ?_
  refine KC.block ?_
  refine KC.sub (l' := [(0, .slice a_s n_s c_s), (2, .slice none 0 0), (3, .int .i64 0), (9, .slice a_s n_s c_s), (10, .int .i64 (n_s : Int)), (11, .int .i64 0)]) (.cons rfl (.cons rfl (.cons rfl (.cons rfl (.cons rfl (.cons rfl .nil)))))) ?_
  refine KC.loopN (fun k l A => ∃ (i : Int) (z : Int), k = ((n_s : Int) - i).toNat ∧ l = [(0, .slice a_s n_s c_s), (2, .slice none 0 0), (3, .int .i64 z), (9, .slice a_s n_s c_s), (10, .int .i64 (n_s : Int)), (11, .int .i64 i)] ∧ Mem [] H A [] ∧ (0 ≤ i ∧ i ≤ n_s) ∧ (z = ((s.take i.toNat).flatten.length : Int))) ?_ (((n_s : Int) - 0).toNat) ⟨0, 0, rfl, rfl, (m0.pick [] (by decide) rfl), (by omega), (by simp)⟩
  rintro k l A1 ⟨i, z, rfl, rfl, m2, hi, hz0⟩
  have fb0 := flat_le s i.toNat
  refine KC.seq ?_
  refine KC.region ?_
  refine KO.pv (PV.lssD rfl rfl rfl) rfl rfl ?_
  refine KO.nil ?_
  refine KC.seq ?_
  refine KC.condD rfl (fun h3 => ?_) (fun h3 => ?_)
  · refine KC.skip ?_
    refine KC.seq ?_
    refine KC.block ?_
    refine KC.seq ?_
    refine KC.region ?_
    obtain ⟨b4, o4, p4, r4, e4, ha4, hb4, hr4, hx4, hw4, hc4, ht4⟩ := V.at_ h_s (z := i) (by omega) (by omega)
    have hc4_0 : r4.cs[o4 + (i).toNat * 1 + 0]? = some (.slice e4.1 e4.2.1 e4.2.2) := hc4 0 (by decide)
    obtain ⟨xs4, hxs4, hV4⟩ := VV.at_ i_s hx4
    obtain ⟨len4, cap4, max4, wf4⟩ := hV4.len
    refine KO.pv (PV.indexAddrZ un237 sz68 rfl ha4 rfl (by omega) (by omega)) rfl rfl ?_
    refine KO.load1 ag68 rfl (m2.row0 hb4 hr4) hc4_0 rfl rfl ?_
    refine KO.pv (PV.assign rfl) rfl rfl ?_
    refine KO.nil ?_
    refine KC.seq ?_
    refine KC.region ?_
    refine KO.pv (PV.move rfl) rfl rfl ?_
    refine KO.pv (PV.move rfl) rfl rfl ?_
    refine KO.pv (PV.len un68 rfl) rfl rfl ?_
    have fs := flat_step (i := i) hxs4 (by omega)
    have fl : (s.take (i + 1).toNat).flatten.length = (s.take i.toNat).flatten.length + xs4.length := by rw [fs, List.length_append]
    have fb := flat_le s (i + 1).toNat
    refine KO.pv (PV.add rfl rfl (wrap64 (by omega) (by omega))) rfl rfl ?_
    refine KO.pv (PV.assign rfl) rfl rfl ?_
    refine KO.nil ?_
    refine KC.seq ?_
    refine KC.region ?_
    refine KO.pv (PV.move rfl) rfl rfl ?_
    refine KO.pv (PV.lssD rfl rfl rfl) rfl rfl ?_
    refine KO.nil ?_
    refine KC.condD rfl (fun h5 => ?_) (fun h5 => ?_)
    · exfalso; omega
    · refine KC.skip ?_
      refine KC.region ?_
      refine KO.pv (PV.add rfl rfl (wrap64 (by omega) (by omega))) rfl rfl ?_
      refine KO.pv (PV.move rfl) rfl rfl ?_
      refine KO.nil ?_
      exact ⟨_, _, (by omega), (.cons rfl (.cons rfl (.cons rfl (.cons rfl (.cons rfl (.cons rfl .nil)))))), (i + 1), (z + (e4.2.1 : Int)), rfl, rfl, (m2.pick [] (by decide) rfl), (by omega), (by omega)⟩
  · refine KC.exit ?_
    have hfull0 : s.take i.toNat = s := List.take_of_length_le (by omega)
    rw [hfull0] at hz0
    refine KC.seq ?_
    refine KC.region ?_
    refine KO.pv (PV.move rfl) rfl rfl ?_
    refine KO.call rfl rfl rfl rfl (Grow_uint8 A1 z (wrap64 (by omega) (by omega)) (by first | omega | assumption) (by first | omega | assumption)) fun v6 H6 q6 => ?_
    obtain ⟨a6, c6, zs6, D6, hv6, mc6, p6_0, p6_1⟩ := q6
    dsimp only at hv6 mc6
    subst hv6
    have m7 := m2.seq mc6
    refine KO.pv (PV.assign rfl) rfl rfl ?_
    refine KO.nil ?_
    refine KC.seq ?_
    refine KC.seq ?_
    refine KC.region ?_
    refine KO.pv (PV.move rfl) rfl rfl ?_
    refine KO.pv (PV.len un237 rfl) rfl rfl ?_
    refine KO.pv (PV.move rfl) rfl rfl ?_
    refine KO.nil ?_
    refine KC.block ?_
    refine KC.sub (l' := [(2, .slice none 0 0), (6, .slice a6 0 c6), (12, .bool (decide (i < (n_s : Int)))), (25, .slice a_s n_s c_s), (26, .int .i64 (n_s : Int)), (27, .int .i64 0)]) (.cons rfl (.cons rfl (.cons rfl (.cons rfl (.cons rfl (.cons rfl .nil)))))) ?_
    refine KC.loopN (fun k l A => ∃ (i2 : Int) (j : Nat) (zs : List Int), k = ((n_s : Int) - i2).toNat ∧ l = [(2, .slice none 0 0), (6, .slice a6 j c6), (12, .bool (decide (i < (n_s : Int)))), (25, .slice a_s n_s c_s), (26, .int .i64 (n_s : Int)), (27, .int .i64 i2)] ∧ Mem [] H A [R.lst 5 1 a6 c6 (cells (EI .u8) zs) D6] ∧ (0 ≤ i2 ∧ i2 ≤ n_s) ∧ (j = (s.take i2.toNat).flatten.length) ∧ (zs.take j = (s.take i2.toNat).flatten) ∧ (zs.length = c6)) ?_ (((n_s : Int) - 0).toNat) ⟨0, 0, zs6, rfl, rfl, (m7.pick [0] (by decide) rfl), (by omega), (by simp), (by simp), (by assumption)⟩
    rintro k l A8 ⟨i2, j, zs, rfl, rfl, m9, hi2, hj, hz, hzl⟩
    have fbj := flat_le s i2.toNat
    refine KC.seq ?_
    refine KC.region ?_
    refine KO.pv (PV.lssD rfl rfl rfl) rfl rfl ?_
    refine KO.nil ?_
    refine KC.seq ?_
    refine KC.condD rfl (fun h10 => ?_) (fun h10 => ?_)
    · refine KC.skip ?_
      refine KC.seq ?_
      refine KC.block ?_
      refine KC.seq ?_
      refine KC.region ?_
      obtain ⟨b11, o11, p11, r11, e11, ha11, hb11, hr11, hx11, hw11, hc11, ht11⟩ := V.at_ h_s (z := i2) (by omega) (by omega)
      have hc11_0 : r11.cs[o11 + (i2).toNat * 1 + 0]? = some (.slice e11.1 e11.2.1 e11.2.2) := hc11 0 (by decide)
      obtain ⟨xs11, hxs11, hV11⟩ := VV.at_ i_s hx11
      obtain ⟨len11, cap11, max11, wf11⟩ := hV11.len
      refine KO.pv (PV.indexAddrZ un237 sz68 rfl ha11 rfl (by omega) (by omega)) rfl rfl ?_
      refine KO.load1 ag68 rfl (m9.row0 hb11 hr11) hc11_0 rfl rfl ?_
      refine KO.pv (PV.assign rfl) rfl rfl ?_
      refine KO.nil ?_
      refine KC.region ?_
      refine KO.pv (PV.move rfl) rfl rfl ?_
      refine KO.pv (PV.move rfl) rfl rfl ?_
      have fs := flat_step (i := i2) hxs11 (by omega)
      have fl : (s.take (i2 + 1).toNat).flatten.length = (s.take i2.toNat).flatten.length + xs11.length := by rw [fs, List.length_append]
      have fb := flat_le s (i2 + 1).toNat
      refine KO.appendB (C := (EI .u8)) m9 (i := 0) rfl el68 ez5 sb5 un68 rfl rfl (V.new (V.mem m9 hV11)) (by assumption) (by omega) (by omega) rfl rfl fun H12 m13 => ?_
      refine KO.pv (PV.assign rfl) rfl rfl ?_
      refine KO.nil ?_
      refine KC.region ?_
      refine KO.pv (PV.add rfl rfl (wrap64 (by omega) (by omega))) rfl rfl ?_
      refine KO.pv (PV.move rfl) rfl rfl ?_
      refine KO.nil ?_
      exact ⟨_, _, (by omega), (.cons rfl (.cons rfl (.cons rfl (.cons rfl (.cons rfl (.cons rfl .nil)))))), (i2 + 1), (j + e11.2.1), (zs.take j ++ (xs11 ++ zs.drop (j + e11.2.1))), rfl, rfl, (m13.pick [0] (by decide) rfl), (by omega), (by omega), (by rw [take_app (by assumption) (by omega), hz, fs]), (by have := fb; simp only [List.length_append, List.length_take, List.length_drop]; omega)⟩
    · refine KC.exit ?_
      have hfull : s.take i2.toNat = s := List.take_of_length_le (by omega)
      rw [hfull] at hj hz
      obtain rfl : c6 = j := by omega
      rw [List.take_of_length_le (by omega)] at hz
      refine KC.seq ?_
      refine KC.region ?_
      refine KO.pv (PV.move rfl) rfl rfl ?_
      refine KO.pv (PV.assign rfl) rfl rfl ?_
      refine KO.nil ?_
      exact KC.ret ⟨rfl, _, (.tmp rfl .nil), a6, c6, zs, D6, rfl, m9.pick [0] (by decide) rfl, (by first | omega | (intro h; omega) | exact hz)⟩
theorem tern_All (H : AHeap) (ci : Int) (a_cL : Option Addr) (n_cL c_cL : Nat) (cL : List (Int × Int)) (a_cA : Option Addr) (n_cA c_cA : Nat) (cA : List (Int × Int)) (a_cB : Option Addr) (n_cB c_cB : Nat) (cB : List Int) (a_cC : Option Addr) (n_cC c_cC : Nat) (cC : List Int) (a_st : Option Addr) (n_st c_st : Nat) (st : List Int) (a_inp : Option Addr) (n_inp c_inp : Nat) (inp : List Int) (w_ci : IntKind.i64.wrap ci = ci) (h_cL : V EP H a_cL n_cL c_cL cL) (h_cA : V EP H a_cA n_cA c_cA cA) (h_cB : V (EI .i64) H a_cB n_cB c_cB cB) (h_cC : V (EI .i64) H a_cC n_cC c_cC cC) (h_st : V (EI .u8) H a_st n_st c_st st) (h_inp : V (EI .u8) H a_inp n_inp c_inp inp) : WF E0 38 [.agg #[.int .i64 ci, .slice a_cL n_cL c_cL, .slice a_cA n_cA c_cA, .slice a_cB n_cB c_cB, .slice a_cC n_cC c_cC], .slice a_st n_st c_st, .slice a_inp n_inp c_inp] H fun q => ∃ (a : Option Addr) (n : Nat) (e : Int) (xs : List Int) (D : List Nat), q.1 = .tuple #[.slice a n n, .int .i64 e] ∧ Mem [] H q.2 [R.lst 5 1 a n (cells (EI .u8) xs) D] ∧ (n ≤ 330000000) ∧ ((∀ u ∈ xs, 0 ≤ u ∧ u ≤ 2) ∧ ∀ u ∈ xs, (EI .u8).wf u) ∧ (e = 0 → CirOK ci cL cA cB cC ∧ (n : Int) = 1 + ci + n_cL + n_cA) := by
  obtain ⟨lo_ci, hi_ci⟩ := rangei64 w_ci
  obtain ⟨len_cL, cap_cL, max_cL, wf_cL⟩ := h_cL.len
  obtain ⟨len_cA, cap_cA, max_cA, wf_cA⟩ := h_cA.len
  obtain ⟨len_cB, cap_cB, max_cB, wf_cB⟩ := h_cB.len
  obtain ⟨len_cC, cap_cC, max_cC, wf_cC⟩ := h_cC.len
  obtain ⟨len_st, cap_st, max_st, wf_st⟩ := h_st.len
  obtain ⟨len_inp, cap_inp, max_inp, wf_inp⟩ := h_inp.len
  have m0 : Mem [] H H [] := Mem.start
  refine WF.kg Tryz.func38 rfl rfl ?_
  refine KC.seq ?_
  refine KC.region ?_
  refine KO.boxM m0 rfl rfl (show _ = [.int .i64 ci, .slice a_cL n_cL c_cL, .slice a_cA n_cA c_cA, .slice a_cB n_cB c_cB, .slice a_cC n_cC c_cC] from rfl) rfl rfl fun H1 m2 => ?_
  refine KO.pv (PV.assign rfl) rfl rfl ?_
  refine KO.pv (PV.assign rfl) rfl rfl ?_
  refine KO.nil ?_
  refine KC.seq ?_
  refine KC.seq ?_
  refine KC.region ?_
  refine KO.loadN ag49 sz49 rfl (m2.row (i := 0) rfl) (takeN_of (p := [.int .i64 ci, .slice a_cL n_cL c_cL, .slice a_cA n_cA c_cA, .slice a_cB n_cB c_cB, .slice a_cC n_cC c_cC]) rfl rfl) rfl rfl ?_
  refine KO.call rfl rfl rfl rfl (gates_Check H1 ci a_cL n_cL c_cL _ a_cA n_cA c_cA _ a_cB n_cB c_cB _ a_cC n_cC c_cC _ (wrap64 (by omega) (by omega)) (V.mem m2 h_cL) (V.mem m2 h_cA) (V.mem m2 h_cB) (V.mem m2 h_cC)) fun v3 H3 q3 => ?_
  obtain ⟨e3, hv3, mc3, p3_0, p3_1⟩ := q3
  dsimp only at hv3 mc3
  subst hv3
  have m4 := m2.seq mc3
  refine KO.pv (PV.assign rfl) rfl rfl ?_
  refine KO.nil ?_
  refine KC.seq ?_
  refine KC.region ?_
  refine KO.pv (PV.move rfl) rfl rfl ?_
  refine KO.pv (PV.neqD rfl rfl rfl) rfl rfl ?_
  refine KO.nil ?_
  refine KC.condD rfl (fun h5 => ?_) (fun h5 => ?_)
  · refine KC.seq ?_
    refine KC.region ?_
    refine KO.pv (PV.move rfl) rfl rfl ?_
    refine KO.pv (PV.assign rfl) rfl rfl ?_
    refine KO.pv (PV.assign rfl) rfl rfl ?_
    refine KO.nil ?_
    have m6 := m4.lnil (e := 5) (sz := 1) none rfl
    exact KC.ret ⟨rfl, _, (.tmp rfl (.tmp rfl .nil)), none, 0, e3, [], [], rfl, m6.pick [0] (by decide) rfl, (by first | omega | (intro h; omega) | exact hnb), (by first | omega | (intro h; omega) | exact ⟨all_nil, all_nil⟩ | exact ⟨hxs, hxw⟩), (by first | omega | (intro h; omega) | (exact fun _ => ⟨hok, by omega⟩))⟩
  · have hok := p3_0 (by omega)
    obtain ⟨k1, k2, k3, k4, k5, k6, k7, k8⟩ := id hok
    refine KC.skip ?_
    refine KC.seq ?_
    refine KC.seq ?_
    refine KC.region ?_
    refine KO.pv (PV.move rfl) rfl rfl ?_
    refine KO.pv (PV.len un68 rfl) rfl rfl ?_
    refine KO.pv (PV.fieldAddr fo49_1 rfl) rfl rfl ?_
    refine KO.load1 ag46 rfl (m4.row (i := 0) rfl) rfl rfl rfl ?_
    refine KO.pv (PV.len un46 rfl) rfl rfl ?_
    by_cases h7 : (n_st : Int) ≠ (n_cL : Int)
    · refine KO.pv (PV.neqD rfl rfl (decide_eq_true h7)) rfl rfl ?_
      refine KO.pv (PV.move rfl) rfl rfl ?_
      refine KO.no rfl rfl rfl ?_
      refine KO.no rfl rfl rfl ?_
      refine KO.no rfl rfl rfl ?_
      refine KO.no rfl rfl rfl ?_
      refine KO.no rfl rfl rfl ?_
      refine KO.pv (PV.pickT rfl rfl rfl) rfl rfl ?_
      refine KO.nil ?_
      refine KC.condT rfl ?_
      refine KC.seq ?_
      refine KC.region ?_
      refine KO.pv (PV.assign rfl) rfl rfl ?_
      refine KO.pv (PV.assign rfl) rfl rfl ?_
      refine KO.nil ?_
      have m8 := m4.lnil (e := 5) (sz := 1) none rfl
      exact KC.ret ⟨rfl, _, (.tmp rfl (.tmp rfl .nil)), none, 0, 2, [], [], rfl, m8.pick [0] (by decide) rfl, (by first | omega | (intro h; omega) | exact hnb), (by first | omega | (intro h; omega) | exact ⟨all_nil, all_nil⟩ | exact ⟨hxs, hxw⟩), (by first | omega | (intro h; omega) | (exact fun _ => ⟨hok, by omega⟩))⟩
    · refine KO.pv (PV.neqD rfl rfl (decide_eq_false h7)) rfl rfl ?_
      refine KO.pv (PV.move rfl) rfl rfl ?_
      refine KO.pv (PV.move rfl) rfl rfl ?_
      refine KO.pv (PV.len un68 rfl) rfl rfl ?_
      refine KO.pv (PV.fieldAddr fo49_0 rfl) rfl rfl ?_
      refine KO.load1 ag3 rfl (m4.row (i := 0) rfl) rfl rfl rfl ?_
      refine KO.pv (PV.neqD rfl rfl rfl) rfl rfl ?_
      refine KO.pv (PV.pickF rfl rfl rfl) rfl rfl ?_
      refine KO.nil ?_
      refine KC.condD rfl (fun h9 => ?_) (fun h9 => ?_)
      · refine KC.seq ?_
        refine KC.region ?_
        refine KO.pv (PV.assign rfl) rfl rfl ?_
        refine KO.pv (PV.assign rfl) rfl rfl ?_
        refine KO.nil ?_
        have m10 := m4.lnil (e := 5) (sz := 1) none rfl
        exact KC.ret ⟨rfl, _, (.tmp rfl (.tmp rfl .nil)), none, 0, 2, [], [], rfl, m10.pick [0] (by decide) rfl, (by first | omega | (intro h; omega) | exact hnb), (by first | omega | (intro h; omega) | exact ⟨all_nil, all_nil⟩ | exact ⟨hxs, hxw⟩), (by first | omega | (intro h; omega) | (exact fun _ => ⟨hok, by omega⟩))⟩
      · refine KC.skip ?_
        refine KC.seq ?_
        refine KC.region ?_
        refine KO.buildSliceM m4 el68 ez5 rfl rfl (show _ = some [.int .u8 0] from rfl) rfl rfl fun H11 m12 => ?_
        refine KO.pv (PV.move rfl) rfl rfl ?_
        refine KO.pv (PV.move rfl) rfl rfl ?_
        refine KO.buildSliceM m12 el237 ez68 rfl rfl (show _ = some [.slice (some ⟨H3.next, 0, none⟩) 1 1, .slice a_inp n_inp c_inp, .slice a_st n_st c_st] from rfl) rfl rfl fun H13 m14 => ?_
        refine KO.call rfl rfl rfl rfl (Concat_uint8 H13 (some ⟨H11.next, 0, none⟩) 3 3 _ _ (m14.vrow (E := ES) (xs := [((some ⟨H3.next, 0, none⟩), 1, 1), (a_inp, n_inp, c_inp), (a_st, n_st, c_st)]) (i := 0) rfl (fun _ _ => trivial) rfl (by decide) (by decide)) (VV.cons (m14.vrow (E := (EI .u8)) (xs := [0]) (i := 1) rfl (by simp only [List.mem_cons, List.not_mem_nil, or_false, forall_eq_or_imp, forall_eq]; first | exact wfI (by first | decide | (constructor <;> omega)) | (refine ⟨?_, ?_⟩ <;> exact wfI (by constructor <;> omega))) rfl (by decide) (by decide)) (VV.cons (V.mem m14 h_inp) (VV.cons (V.mem m14 h_st) VV.nil))) (by simp only [List.flatten_cons, List.flatten_nil, List.length_append, List.length_cons, List.length_nil, len_st, len_inp]; omega)) fun v15 H15 q15 => ?_
        obtain ⟨a15, n15, xs15, D15, hv15, mc15, p15_0⟩ := q15
        dsimp only at hv15 mc15
        subst hv15
        have m16 := m14.seq mc15
        have hcl := m16.lstLen (E := (EI .u8)) (i := 0) rfl
        have hcl2 := congrArg List.length p15_0
        simp only [List.flatten_cons, List.flatten_nil, List.length_append, List.length_cons, List.length_nil, len_st, len_inp] at hcl2
        have hcw : ∀ u ∈ xs15, (EI .u8).wf u := by
          rw [p15_0]
          intro u hu
          simp only [List.flatten_cons, List.flatten_nil, List.append_nil, List.mem_append, List.mem_cons, List.not_mem_nil, or_false] at hu
          rcases hu with rfl | hu | hu
          · exact wfu8 (by decide) (by decide)
          · exact wf_inp u hu
          · exact wf_st u hu
        refine KO.pv (PV.assign rfl) rfl rfl ?_
        refine KO.nil ?_
        refine KC.seq ?_
        refine KC.seq ?_
        refine KC.region ?_
        refine KO.pv (PV.move rfl) rfl rfl ?_
        refine KO.call rfl rfl rfl rfl (tern_check H15 a15 n15 n15 _ (m16.vlst (i := 0) rfl hcw (by first | omega | (simp only [splice, List.length_append, List.length_set, List.length_replicate, List.length_map, List.length_take, List.length_drop, List.length_cons, List.length_nil]; omega)))) fun v17 H17 q17 => ?_
        obtain ⟨e17, hv17, mc17, p17_0, p17_1⟩ := q17
        dsimp only at hv17 mc17
        subst hv17
        have m18 := m16.seq mc17
        refine KO.pv (PV.assign rfl) rfl rfl ?_
        refine KO.nil ?_
        refine KC.seq ?_
        refine KC.region ?_
        refine KO.pv (PV.move rfl) rfl rfl ?_
        refine KO.pv (PV.neqD rfl rfl rfl) rfl rfl ?_
        refine KO.nil ?_
        refine KC.condD rfl (fun h19 => ?_) (fun h19 => ?_)
        · refine KC.seq ?_
          refine KC.region ?_
          refine KO.pv (PV.move rfl) rfl rfl ?_
          refine KO.pv (PV.assign rfl) rfl rfl ?_
          refine KO.pv (PV.assign rfl) rfl rfl ?_
          refine KO.nil ?_
          have m20 := m18.lnil (e := 5) (sz := 1) none rfl
          exact KC.ret ⟨rfl, _, (.tmp rfl (.tmp rfl .nil)), none, 0, e17, [], [], rfl, m20.pick [0] (by decide) rfl, (by first | omega | (intro h; omega) | exact hnb), (by first | omega | (intro h; omega) | exact ⟨all_nil, all_nil⟩ | exact ⟨hxs, hxw⟩), (by first | omega | (intro h; omega) | (exact fun _ => ⟨hok, by omega⟩))⟩
        · have hxs0 := p17_0 (by omega)
          refine KC.skip ?_
          refine KC.seq ?_
          refine KC.seq ?_
          refine KC.region ?_
          refine KO.pv (PV.fieldAddr fo49_2 rfl) rfl rfl ?_
          refine KO.load1 ag47 rfl (m18.row (i := 3) rfl) rfl rfl rfl ?_
          refine KO.pv (PV.len un47 rfl) rfl rfl ?_
          refine KO.pv (PV.move rfl) rfl rfl ?_
          refine KO.nil ?_
          refine KC.block ?_
          refine KC.sub (l' := [(6, .slice none 0 0), (7, .int .i64 0), (9, .slice a15 n15 n15), (16, .bool (decide (e3 ≠ 0))), (30, .bool (decide ((n_inp : Int) ≠ ci))), (39, .bool (decide (e17 ≠ 0))), (42, .slice a_cA n_cA c_cA), (43, .int .i64 (n_cA : Int)), (44, .int .i64 0)]) (.cons rfl (.cons rfl (.cons rfl (.cons rfl (.cons rfl (.cons rfl (.cons rfl (.cons rfl (.cons rfl .nil))))))))) ?_
          refine KC.loopN (fun k l A => ∃ (i : Int) (a : Option Addr) (n : Nat) (xs : List Int) (D : List Nat), k = ((n_cA : Int) - i).toNat ∧ l = [(6, .slice none 0 0), (7, .int .i64 0), (9, .slice a n n), (16, .bool (decide (e3 ≠ 0))), (30, .bool (decide ((n_inp : Int) ≠ ci))), (39, .bool (decide (e17 ≠ 0))), (42, .slice a_cA n_cA c_cA), (43, .int .i64 (n_cA : Int)), (44, .int .i64 i)] ∧ Mem [] H A [R.row H.next 49 true [.int .i64 ci, .slice a_cL n_cL c_cL, .slice a_cA n_cA c_cA, .slice a_cB n_cB c_cB, .slice a_cC n_cC c_cC], R.lst 5 1 a n (cells (EI .u8) xs) D] ∧ (0 ≤ i ∧ i ≤ n_cA) ∧ ((n : Int) = 1 + ci + n_cL + i) ∧ (xs.length = n) ∧ (∀ u ∈ xs, 0 ≤ u ∧ u ≤ 2) ∧ (∀ u ∈ xs, (EI .u8).wf u)) ?_ (((n_cA : Int) - 0).toNat) ⟨0, a15, n15, xs15, D15, rfl, rfl, (m18.pick [3, 0] (by decide) rfl), (by omega), (by omega), (by omega), hxs0, (fun u hu => wfu8 (hxs0 u hu).1 (by have := hxs0 u hu; omega))⟩
          rintro k l A21 ⟨i, a, n, xs, D, rfl, rfl, m22, hi, hn, hxl, hxs, hxw⟩
          refine KC.seq ?_
          refine KC.region ?_
          refine KO.pv (PV.lssD rfl rfl rfl) rfl rfl ?_
          refine KO.nil ?_
          refine KC.seq ?_
          refine KC.condD rfl (fun h23 => ?_) (fun h23 => ?_)
          · refine KC.skip ?_
            refine KC.seq ?_
            refine KC.block ?_
            refine KC.seq ?_
            refine KC.region ?_
            obtain ⟨b24, o24, p24, r24, e24, ha24, hb24, hr24, hx24, hw24, hc24, ht24⟩ := V.at_ h_cA (z := i) (by omega) (by omega)
            have hc24_0 : r24.cs[o24 + (i).toNat * 2 + 0]? = some (.int .i64 e24.1) := hc24 0 (by decide)
            have hc24_1 : r24.cs[o24 + (i).toNat * 2 + 1]? = some (.int .i64 e24.2) := hc24 1 (by decide)
            obtain ⟨hwa24, hwb24⟩ := hw24
            obtain ⟨loa24, hia24⟩ := rangei64 hwa24
            obtain ⟨lob24, hib24⟩ := rangei64 hwb24
            refine KO.pv (PV.indexAddrZ un47 sz164 rfl ha24 rfl (by omega) (by omega)) rfl rfl ?_
            refine KO.loadN ag164 sz164 rfl (m22.row0 hb24 hr24) ht24 rfl rfl ?_
            have hg := k8 _ _ hx24
            refine KO.allocM m22 zt164 rfl rfl fun H25 m26 => ?_
            refine KO.storeM m26 (i := 0) rfl sz164 rfl rfl rfl (show 0 + 2 ≤ 2 by decide) (show _ = [.int .i64 e24.1, .int .i64 e24.2] from rfl) rfl fun H27 m28 => ?_
            refine KO.nil ?_
            refine KC.drawG (n := 13) (anc := [0, 0, 0, 4, 14, 0, 0, 64, 254, 510, 1022, 2047, 4095]) (hv := [4, 8, 9, 11]) (ord := [1, 2, 3, 4, 5, 6, 7, 8, 9, 0, 10, 11, 12]) (by kernel_rfl) (by kernel_rfl) (by kernel_rfl) (by kernel_rfl) (by kernel_rfl) fun H29 n30 g31 => ?_
            have m32 := m28.room n30 g31 [10] (by decide) (by decide)
            refine KD.pv 2 (PV.move rfl) rfl rfl rfl (by kernel_rfl) rfl rfl rfl ?_
            refine KD.pv 6 (PV.fieldAddr fo164_0 rfl) rfl rfl rfl (by kernel_rfl) rfl rfl rfl ?_
            refine KD.load 14 rfl (m32.row (i := 1) rfl) (by rw [read1 ag3]; exact rfl) (pastGo (k := 1) (l := [H29]) (by kernel_rfl) rfl (pastCons ⟨_, (m32.row (i := 1) rfl), (by rw [read1 ag3]; exact rfl)⟩ pastNil)) veq_int rfl (by kernel_rfl) rfl rfl rfl ?_
            refine KD.call 30 rfl rfl rfl (by kernel_rfl) rfl rfl rfl (tern_of H29 a n n _ e24.1 (m32.vlst (i := 3) rfl hxw (by first | omega | (simp only [splice, List.length_append, List.length_set, List.length_replicate, List.length_map, List.length_take, List.length_drop, List.length_cons, List.length_nil]; omega))) (wrap64 (by omega) (by omega)) (by first | omega | assumption) (by first | omega | assumption) hxs) fun v33 H33 q33 => ?_
            obtain ⟨z33, hv33, mc33, p33_0⟩ := q33
            dsimp only at hv33 mc33
            subst hv33
            have m34 := m32.seq mc33
            refine KD.pv 62 (PV.move rfl) rfl rfl rfl (by kernel_rfl) rfl rfl rfl ?_
            refine KD.pv 126 (PV.fieldAddr fo164_1 rfl) rfl rfl rfl (by kernel_rfl) rfl rfl rfl ?_
            refine KD.load 254 rfl (m34.row (i := 1) rfl) (by rw [read1 ag3]; exact rfl) (pastGo (k := 2) (l := [H33, H29]) (by kernel_rfl) rfl (pastCons ⟨_, (m34.row (i := 1) rfl), (by rw [read1 ag3]; exact rfl)⟩ (pastCons ⟨_, (m32.row (i := 1) rfl), (by rw [read1 ag3]; exact rfl)⟩ pastNil))) veq_int rfl (by kernel_rfl) rfl rfl rfl ?_
            refine KD.call 510 rfl rfl rfl (by kernel_rfl) rfl rfl rfl (tern_of H33 a n n _ e24.2 (m34.vlst (i := 3) rfl hxw (by first | omega | (simp only [splice, List.length_append, List.length_set, List.length_replicate, List.length_map, List.length_take, List.length_drop, List.length_cons, List.length_nil]; omega))) (wrap64 (by omega) (by omega)) (by first | omega | assumption) (by first | omega | assumption) hxs) fun v35 H35 q35 => ?_
            obtain ⟨z35, hv35, mc35, p35_0⟩ := q35
            dsimp only at hv35 mc35
            subst hv35
            have m36 := m34.seq mc35
            refine KD.call 1022 rfl rfl rfl (by kernel_rfl) rfl rfl rfl (tern_and H35 z33 z35 (wrap8 (by omega) (by omega)) (wrap8 (by omega) (by omega)) (by first | omega | assumption) (by first | omega | assumption)) fun v37 H37 q37 => ?_
            obtain ⟨z37, hv37, mc37, p37_0⟩ := q37
            dsimp only at hv37 mc37
            subst hv37
            have m38 := m36.seq mc37
            refine KD.pv 1023 (PV.move rfl) rfl rfl rfl (by kernel_rfl) rfl rfl rfl ?_
            refine KD.buildSliceM 2047 m38 (j := 0) rfl el68 ez5 rfl rfl (show _ = some [.int .u8 z37] from rfl) rfl (by kernel_rfl) rfl rfl rfl fun H39 m40 => ?_
            refine KD.appendC 4095 (C := (EI .u8)) m40 (j := 3) rfl el68 ez5 sb5 un68 rfl rfl (newElems_row1 (C := (EI .u8)) (y := z37) (m40.row (i := 0) rfl) rfl) rfl (by first | omega | (simp only [splice, List.length_append, List.length_set, List.length_replicate, List.length_map, List.length_take, List.length_drop, List.length_cons, List.length_nil]; omega)) rfl (by kernel_rfl) rfl rfl rfl fun a42 D43 H41 m44 => ?_
            refine KD.pv 8191 (PV.assign rfl) rfl rfl rfl (by kernel_rfl) rfl rfl rfl ?_
            refine KD.nil ⟨rfl, ?_⟩
            refine KC.region ?_
            refine KO.pv (PV.add rfl rfl (wrap64 (by omega) (by omega))) rfl rfl ?_
            refine KO.pv (PV.move rfl) rfl rfl ?_
            refine KO.nil ?_
            exact ⟨_, _, (by omega), (.cons rfl (.cons rfl (.cons rfl (.cons rfl (.cons rfl (.cons rfl (.cons rfl (.cons rfl (.cons rfl .nil))))))))), (i + 1), a42, (n + 1), (xs ++ [z37]), D43, rfl, rfl, (m44.pick [2, 3] (by decide) rfl), (by omega), (by omega), (by first | omega | (simp only [splice, List.length_append, List.length_set, List.length_replicate, List.length_map, List.length_take, List.length_drop, List.length_cons, List.length_nil]; omega)), (all_app hxs (all_one (by omega))), (all_app hxw (all_one (wfu8 (by omega) (by omega))))⟩
          · refine KC.exit ?_
            refine KC.seq ?_
            refine KC.region ?_
            refine KO.pv (PV.move rfl) rfl rfl ?_
            refine KO.pv (PV.assign rfl) rfl rfl ?_
            refine KO.pv (PV.assign rfl) rfl rfl ?_
            refine KO.nil ?_
            exact KC.ret ⟨rfl, _, (.tmp rfl (.tmp rfl .nil)), a, n, 0, xs, D, rfl, m22.pick [1] (by decide) rfl, (by first | omega | (intro h; omega) | exact hnb), (by first | omega | (intro h; omega) | exact ⟨all_nil, all_nil⟩ | exact ⟨hxs, hxw⟩), (by first | omega | (intro h; omega) | (exact fun _ => ⟨hok, by omega⟩))⟩
theorem tern_Next (H : AHeap) (ci : Int) (a_cL : Option Addr) (n_cL c_cL : Nat) (cL : List (Int × Int)) (a_cA : Option Addr) (n_cA c_cA : Nat) (cA : List (Int × Int)) (a_cB : Option Addr) (n_cB c_cB : Nat) (cB : List Int) (a_cC : Option Addr) (n_cC c_cC : Nat) (cC : List Int) (a_st : Option Addr) (n_st c_st : Nat) (st : List Int) (a_inp : Option Addr) (n_inp c_inp : Nat) (inp : List Int) (w_ci : IntKind.i64.wrap ci = ci) (h_cL : V EP H a_cL n_cL c_cL cL) (h_cA : V EP H a_cA n_cA c_cA cA) (h_cB : V (EI .i64) H a_cB n_cB c_cB cB) (h_cC : V (EI .i64) H a_cC n_cC c_cC cC) (h_st : V (EI .u8) H a_st n_st c_st st) (h_inp : V (EI .u8) H a_inp n_inp c_inp inp) : WF E0 42 [.agg #[.int .i64 ci, .slice a_cL n_cL c_cL, .slice a_cA n_cA c_cA, .slice a_cB n_cB c_cB, .slice a_cC n_cC c_cC], .slice a_st n_st c_st, .slice a_inp n_inp c_inp] H fun q => ∃ (a : Option Addr) (n : Nat) (e : Int) (xs : List Int) (D : List Nat), q.1 = .tuple #[.slice a n n, .int .i64 e] ∧ Mem [] H q.2 [R.lst 5 1 a n (cells (EI .u8) xs) D] ∧ (n ≤ 330000000) ∧ ((∀ u ∈ xs, 0 ≤ u ∧ u ≤ 2) ∧ ∀ u ∈ xs, (EI .u8).wf u) := by
  obtain ⟨lo_ci, hi_ci⟩ := rangei64 w_ci
  obtain ⟨len_cL, cap_cL, max_cL, wf_cL⟩ := h_cL.len
  obtain ⟨len_cA, cap_cA, max_cA, wf_cA⟩ := h_cA.len
  obtain ⟨len_cB, cap_cB, max_cB, wf_cB⟩ := h_cB.len
  obtain ⟨len_cC, cap_cC, max_cC, wf_cC⟩ := h_cC.len
  obtain ⟨len_st, cap_st, max_st, wf_st⟩ := h_st.len
  obtain ⟨len_inp, cap_inp, max_inp, wf_inp⟩ := h_inp.len
  have m0 : Mem [] H H [] := Mem.start
  refine WF.kg Tryz.func42 rfl rfl ?_
  refine KC.seq ?_
  refine KC.region ?_
  refine KO.boxM m0 rfl rfl (show _ = [.int .i64 ci, .slice a_cL n_cL c_cL, .slice a_cA n_cA c_cA, .slice a_cB n_cB c_cB, .slice a_cC n_cC c_cC] from rfl) rfl rfl fun H1 m2 => ?_
  refine KO.pv (PV.assign rfl) rfl rfl ?_
  refine KO.pv (PV.assign rfl) rfl rfl ?_
  refine KO.nil ?_
  refine KC.seq ?_
  refine KC.region ?_
  refine KO.loadN ag49 sz49 rfl (m2.row (i := 0) rfl) (takeN_of (p := [.int .i64 ci, .slice a_cL n_cL c_cL, .slice a_cA n_cA c_cA, .slice a_cB n_cB c_cB, .slice a_cC n_cC c_cC]) rfl rfl) rfl rfl ?_
  refine KO.pv (PV.move rfl) rfl rfl ?_
  refine KO.pv (PV.move rfl) rfl rfl ?_
  refine KO.call rfl rfl rfl rfl (tern_All H1 ci a_cL n_cL c_cL _ a_cA n_cA c_cA _ a_cB n_cB c_cB _ a_cC n_cC c_cC _ a_st n_st c_st _ a_inp n_inp c_inp _ (wrap64 (by omega) (by omega)) (V.mem m2 h_cL) (V.mem m2 h_cA) (V.mem m2 h_cB) (V.mem m2 h_cC) (V.mem m2 h_st) (V.mem m2 h_inp)) fun v3 H3 q3 => ?_
  obtain ⟨a3, n3, e3, xs3, D3, hv3, mc3, p3_0, p3_1, p3_2⟩ := q3
  dsimp only at hv3 mc3
  subst hv3
  have m4 := m2.seq mc3
  obtain ⟨pa3_1, pb3_1⟩ := id p3_1
  refine KO.pv (PV.move rfl) rfl rfl ?_
  refine KO.pv (PV.extract rfl rfl) rfl rfl ?_
  refine KO.pv (PV.extract rfl rfl) rfl rfl ?_
  refine KO.pv (PV.assign rfl) rfl rfl ?_
  refine KO.pv (PV.assign rfl) rfl rfl ?_
  refine KO.nil ?_
  refine KC.seq ?_
  refine KC.seq ?_
  refine KC.region ?_
  refine KO.pv (PV.move rfl) rfl rfl ?_
  refine KO.pv (PV.neqD rfl rfl rfl) rfl rfl ?_
  refine KO.nil ?_
  refine KC.condD rfl (fun h5 => ?_) (fun h5 => ?_)
  · refine KC.seq ?_
    refine KC.region ?_
    refine KO.pv (PV.move rfl) rfl rfl ?_
    refine KO.pv (PV.assign rfl) rfl rfl ?_
    refine KO.pv (PV.assign rfl) rfl rfl ?_
    refine KO.nil ?_
    have m6 := m4.lnil (e := 5) (sz := 1) none rfl
    exact KC.ret ⟨rfl, _, (.tmp rfl (.tmp rfl .nil)), none, 0, e3, [], [], rfl, m6.pick [0] (by decide) rfl, (by first | omega | (intro h; omega) | exact (by omega)), (by first | omega | (intro h; omega) | exact ⟨all_nil, all_nil⟩ | exact ⟨hxs, hxw⟩)⟩
  · obtain ⟨hok, hnn⟩ := p3_2 (by omega)
    obtain ⟨k1, k2, k3, k4, k5, k6, k7, k8⟩ := id hok
    obtain ⟨hsm, hwq⟩ := p3_1
    refine KC.skip ?_
    refine KC.seq ?_
    refine KC.region ?_
    refine KO.pv (PV.assign rfl) rfl rfl ?_
    refine KO.nil ?_
    refine KC.seq ?_
    refine KC.seq ?_
    refine KC.region ?_
    refine KO.pv (PV.fieldAddr fo49_1 rfl) rfl rfl ?_
    refine KO.load1 ag46 rfl (m4.row (i := 1) rfl) rfl rfl rfl ?_
    refine KO.pv (PV.len un46 rfl) rfl rfl ?_
    refine KO.pv (PV.move rfl) rfl rfl ?_
    refine KO.nil ?_
    refine KC.block ?_
    have mN := m4.lnil (e := 5) (sz := 1) none rfl
    refine KC.sub (l' := [(6, .slice none 0 0), (7, .int .i64 0), (8, .slice a3 n3 n3), (10, .slice none 0 0), (21, .bool (decide (e3 ≠ 0))), (24, .slice a_cL n_cL c_cL), (25, .int .i64 (n_cL : Int)), (26, .int .i64 0)]) (.cons rfl (.cons rfl (.cons rfl (.cons rfl (.cons rfl (.cons rfl (.cons rfl (.cons rfl .nil)))))))) ?_
    refine KC.loopN (fun k l A => ∃ (i : Int) (a : Option Addr) (n : Nat) (xs : List Int) (D : List Nat), k = ((n_cL : Int) - i).toNat ∧ l = [(6, .slice none 0 0), (7, .int .i64 0), (8, .slice a3 n3 n3), (10, .slice a n n), (21, .bool (decide (e3 ≠ 0))), (24, .slice a_cL n_cL c_cL), (25, .int .i64 (n_cL : Int)), (26, .int .i64 i)] ∧ Mem [] H A [R.row H.next 49 true [.int .i64 ci, .slice a_cL n_cL c_cL, .slice a_cA n_cA c_cA, .slice a_cB n_cB c_cB, .slice a_cC n_cC c_cC], R.lst 5 1 a3 n3 (cells (EI .u8) xs3) D3, R.lst 5 1 a n (cells (EI .u8) xs) D] ∧ (0 ≤ i ∧ i ≤ n_cL) ∧ ((n : Int) = i) ∧ (xs.length = n) ∧ (∀ u ∈ xs, 0 ≤ u ∧ u ≤ 2) ∧ (∀ u ∈ xs, (EI .u8).wf u)) ?_ (((n_cL : Int) - 0).toNat) ⟨0, none, 0, [], [], rfl, rfl, (mN.pick [2, 1, 0] (by decide) rfl), (by omega), (by omega), rfl, all_nil, all_nil⟩
    rintro k l A7 ⟨i, a, n, xs, D, rfl, rfl, m8, hi, hn, hxl, hxs, hxw⟩
    refine KC.seq ?_
    refine KC.region ?_
    refine KO.pv (PV.lssD rfl rfl rfl) rfl rfl ?_
    refine KO.nil ?_
    refine KC.seq ?_
    refine KC.condD rfl (fun h9 => ?_) (fun h9 => ?_)
    · refine KC.skip ?_
      refine KC.seq ?_
      refine KC.block ?_
      refine KC.seq ?_
      refine KC.region ?_
      obtain ⟨b10, o10, p10, r10, e10, ha10, hb10, hr10, hx10, hw10, hc10, ht10⟩ := V.at_ h_cL (z := i) (by omega) (by omega)
      have hc10_0 : r10.cs[o10 + (i).toNat * 2 + 0]? = some (.int .i64 e10.1) := hc10 0 (by decide)
      have hc10_1 : r10.cs[o10 + (i).toNat * 2 + 1]? = some (.int .i64 e10.2) := hc10 1 (by decide)
      obtain ⟨hwa10, hwb10⟩ := hw10
      obtain ⟨loa10, hia10⟩ := rangei64 hwa10
      obtain ⟨lob10, hib10⟩ := rangei64 hwb10
      refine KO.pv (PV.indexAddrZ un46 sz169 rfl ha10 rfl (by omega) (by omega)) rfl rfl ?_
      refine KO.loadN ag169 sz169 rfl (m8.row0 hb10 hr10) ht10 rfl rfl ?_
      have hg := k7 _ (List.mem_of_getElem? hx10)
      refine KO.allocM m8 zt169 rfl rfl fun H11 m12 => ?_
      refine KO.storeM m12 (i := 0) rfl sz169 rfl rfl rfl (show 0 + 2 ≤ 2 by decide) (show _ = [.int .i64 e10.1, .int .i64 e10.2] from rfl) rfl fun H13 m14 => ?_
      refine KO.nil ?_
      refine KC.region ?_
      refine KO.pv (PV.move rfl) rfl rfl ?_
      refine KO.pv (PV.move rfl) rfl rfl ?_
      refine KO.pv (PV.fieldAddr fo169_0 rfl) rfl rfl ?_
      refine KO.load1 ag3 rfl (m14.row (i := 0) rfl) rfl rfl rfl ?_
      refine KO.call rfl rfl rfl rfl (tern_of H13 a3 n3 n3 _ e10.1 (m14.vlst (i := 2) rfl hwq (by first | omega | (simp only [splice, List.length_append, List.length_set, List.length_replicate, List.length_map, List.length_take, List.length_drop, List.length_cons, List.length_nil]; omega))) (wrap64 (by omega) (by omega)) (by first | omega | assumption) (by first | omega | assumption) hsm) fun v15 H15 q15 => ?_
      obtain ⟨z15, hv15, mc15, p15_0⟩ := q15
      dsimp only at hv15 mc15
      subst hv15
      have m16 := m14.seq mc15
      refine KO.buildSliceM m16 el68 ez5 rfl rfl (show _ = some [.int .u8 z15] from rfl) rfl rfl fun H17 m18 => ?_
      refine KO.appendC (C := (EI .u8)) m18 (i := 4) rfl el68 ez5 sb5 un68 rfl rfl (newElems_row1 (C := (EI .u8)) (y := z15) (m18.row (i := 0) rfl) rfl) rfl (by first | omega | (simp only [splice, List.length_append, List.length_set, List.length_replicate, List.length_map, List.length_take, List.length_drop, List.length_cons, List.length_nil]; omega)) rfl rfl fun a20 D21 H19 m22 => ?_
      refine KO.pv (PV.assign rfl) rfl rfl ?_
      refine KO.nil ?_
      refine KC.region ?_
      refine KO.pv (PV.add rfl rfl (wrap64 (by omega) (by omega))) rfl rfl ?_
      refine KO.pv (PV.move rfl) rfl rfl ?_
      refine KO.nil ?_
      exact ⟨_, _, (by omega), (.cons rfl (.cons rfl (.cons rfl (.cons rfl (.cons rfl (.cons rfl (.cons rfl (.cons rfl .nil)))))))), (i + 1), a20, (n + 1), (xs ++ [z15]), D21, rfl, rfl, (m22.pick [2, 3, 4] (by decide) rfl), (by omega), (by omega), (by first | omega | (simp only [splice, List.length_append, List.length_set, List.length_replicate, List.length_map, List.length_take, List.length_drop, List.length_cons, List.length_nil]; omega)), (all_app hxs (all_one (by omega))), (all_app hxw (all_one (wfu8 (by omega) (by omega))))⟩
    · refine KC.exit ?_
      refine KC.seq ?_
      refine KC.region ?_
      refine KO.pv (PV.move rfl) rfl rfl ?_
      refine KO.pv (PV.assign rfl) rfl rfl ?_
      refine KO.pv (PV.assign rfl) rfl rfl ?_
      refine KO.nil ?_
      exact KC.ret ⟨rfl, _, (.tmp rfl (.tmp rfl .nil)), a, n, 0, xs, D, rfl, m8.pick [2] (by decide) rfl, (by first | omega | (intro h; omega) | exact (by omega)), (by first | omega | (intro h; omega) | exact ⟨all_nil, all_nil⟩ | exact ⟨hxs, hxw⟩)⟩
theorem tern_First (H : AHeap) (ci : Int) (a_cL : Option Addr) (n_cL c_cL : Nat) (cL : List (Int × Int)) (a_cA : Option Addr) (n_cA c_cA : Nat) (cA : List (Int × Int)) (a_cB : Option Addr) (n_cB c_cB : Nat) (cB : List Int) (a_cC : Option Addr) (n_cC c_cC : Nat) (cC : List Int) (w_ci : IntKind.i64.wrap ci = ci) (h_cL : V EP H a_cL n_cL c_cL cL) (h_cA : V EP H a_cA n_cA c_cA cA) (h_cB : V (EI .i64) H a_cB n_cB c_cB cB) (h_cC : V (EI .i64) H a_cC n_cC c_cC cC) : WF E0 45 [.agg #[.int .i64 ci, .slice a_cL n_cL c_cL, .slice a_cA n_cA c_cA, .slice a_cB n_cB c_cB, .slice a_cC n_cC c_cC]] H fun q => ∃ (a : Option Addr) (n : Nat) (e : Int) (xs : List Int) (D : List Nat), q.1 = .tuple #[.slice a n n, .int .i64 e] ∧ Mem [] H q.2 [R.lst 5 1 a n (cells (EI .u8) xs) D] ∧ (n ≤ 330000000) ∧ ((∀ u ∈ xs, 0 ≤ u ∧ u ≤ 2) ∧ ∀ u ∈ xs, (EI .u8).wf u) := by
  obtain ⟨lo_ci, hi_ci⟩ := rangei64 w_ci
  obtain ⟨len_cL, cap_cL, max_cL, wf_cL⟩ := h_cL.len
  obtain ⟨len_cA, cap_cA, max_cA, wf_cA⟩ := h_cA.len
  obtain ⟨len_cB, cap_cB, max_cB, wf_cB⟩ := h_cB.len
  obtain ⟨len_cC, cap_cC, max_cC, wf_cC⟩ := h_cC.len
  have m0 : Mem [] H H [] := Mem.start
  refine WF.kg Tryz.func45 rfl rfl ?_
  refine KC.seq ?_
  refine KC.region ?_
  refine KO.boxM m0 rfl rfl (show _ = [.int .i64 ci, .slice a_cL n_cL c_cL, .slice a_cA n_cA c_cA, .slice a_cB n_cB c_cB, .slice a_cC n_cC c_cC] from rfl) rfl rfl fun H1 m2 => ?_
  refine KO.pv (PV.assign rfl) rfl rfl ?_
  refine KO.pv (PV.assign rfl) rfl rfl ?_
  refine KO.nil ?_
  refine KC.seq ?_
  refine KC.seq ?_
  refine KC.region ?_
  refine KO.loadN ag49 sz49 rfl (m2.row (i := 0) rfl) (takeN_of (p := [.int .i64 ci, .slice a_cL n_cL c_cL, .slice a_cA n_cA c_cA, .slice a_cB n_cB c_cB, .slice a_cC n_cC c_cC]) rfl rfl) rfl rfl ?_
  refine KO.call rfl rfl rfl rfl (gates_Check H1 ci a_cL n_cL c_cL _ a_cA n_cA c_cA _ a_cB n_cB c_cB _ a_cC n_cC c_cC _ (wrap64 (by omega) (by omega)) (V.mem m2 h_cL) (V.mem m2 h_cA) (V.mem m2 h_cB) (V.mem m2 h_cC)) fun v3 H3 q3 => ?_
  obtain ⟨e3, hv3, mc3, p3_0, p3_1⟩ := q3
  dsimp only at hv3 mc3
  subst hv3
  have m4 := m2.seq mc3
  refine KO.pv (PV.assign rfl) rfl rfl ?_
  refine KO.nil ?_
  refine KC.seq ?_
  refine KC.region ?_
  refine KO.pv (PV.move rfl) rfl rfl ?_
  refine KO.pv (PV.neqD rfl rfl rfl) rfl rfl ?_
  refine KO.nil ?_
  refine KC.condD rfl (fun h5 => ?_) (fun h5 => ?_)
  · refine KC.seq ?_
    refine KC.region ?_
    refine KO.pv (PV.move rfl) rfl rfl ?_
    refine KO.pv (PV.assign rfl) rfl rfl ?_
    refine KO.pv (PV.assign rfl) rfl rfl ?_
    refine KO.nil ?_
    have m6 := m4.lnil (e := 5) (sz := 1) none rfl
    exact KC.ret ⟨rfl, _, (.tmp rfl (.tmp rfl .nil)), none, 0, e3, [], [], rfl, m6.pick [0] (by decide) rfl, (by first | omega | (intro h; omega)), (by first | omega | (intro h; omega) | exact ⟨all_nil, all_nil⟩ | exact ⟨hxs, hxw⟩)⟩
  · have hok := p3_0 (by omega)
    obtain ⟨k1, k2, k3, k4, k5, k6, k7, k8⟩ := id hok
    refine KC.skip ?_
    refine KC.seq ?_
    refine KC.region ?_
    refine KO.pv (PV.assign rfl) rfl rfl ?_
    refine KO.nil ?_
    refine KC.seq ?_
    refine KC.seq ?_
    refine KC.region ?_
    refine KO.pv (PV.fieldAddr fo49_1 rfl) rfl rfl ?_
    refine KO.load1 ag46 rfl (m4.row (i := 0) rfl) rfl rfl rfl ?_
    refine KO.pv (PV.len un46 rfl) rfl rfl ?_
    refine KO.pv (PV.move rfl) rfl rfl ?_
    refine KO.nil ?_
    refine KC.block ?_
    have mN := m4.lnil (e := 5) (sz := 1) none rfl
    refine KC.sub (l' := [(2, .slice none 0 0), (3, .int .i64 0), (5, .slice none 0 0), (11, .bool (decide (e3 ≠ 0))), (14, .slice a_cL n_cL c_cL), (15, .int .i64 (n_cL : Int)), (16, .int .i64 0)]) (.cons rfl (.cons rfl (.cons rfl (.cons rfl (.cons rfl (.cons rfl (.cons rfl .nil))))))) ?_
    refine KC.loopN (fun k l A => ∃ (i : Int) (a : Option Addr) (n : Nat) (xs : List Int) (D : List Nat), k = ((n_cL : Int) - i).toNat ∧ l = [(2, .slice none 0 0), (3, .int .i64 0), (5, .slice a n n), (11, .bool (decide (e3 ≠ 0))), (14, .slice a_cL n_cL c_cL), (15, .int .i64 (n_cL : Int)), (16, .int .i64 i)] ∧ Mem [] H A [R.row H.next 49 true [.int .i64 ci, .slice a_cL n_cL c_cL, .slice a_cA n_cA c_cA, .slice a_cB n_cB c_cB, .slice a_cC n_cC c_cC], R.lst 5 1 a n (cells (EI .u8) xs) D] ∧ (0 ≤ i ∧ i ≤ n_cL) ∧ ((n : Int) = i) ∧ (xs.length = n) ∧ (∀ u ∈ xs, 0 ≤ u ∧ u ≤ 2) ∧ (∀ u ∈ xs, (EI .u8).wf u)) ?_ (((n_cL : Int) - 0).toNat) ⟨0, none, 0, [], [], rfl, rfl, (mN.pick [1, 0] (by decide) rfl), (by omega), (by omega), rfl, all_nil, all_nil⟩
    rintro k l A7 ⟨i, a, n, xs, D, rfl, rfl, m8, hi, hn, hxl, hxs, hxw⟩
    refine KC.seq ?_
    refine KC.region ?_
    refine KO.pv (PV.lssD rfl rfl rfl) rfl rfl ?_
    refine KO.nil ?_
    refine KC.seq ?_
    refine KC.condD rfl (fun h9 => ?_) (fun h9 => ?_)
    · refine KC.skip ?_
      refine KC.seq ?_
      refine KC.block ?_
      refine KC.seq ?_
      refine KC.region ?_
      obtain ⟨b10, o10, p10, r10, e10, ha10, hb10, hr10, hx10, hw10, hc10, ht10⟩ := V.at_ h_cL (z := i) (by omega) (by omega)
      have hc10_0 : r10.cs[o10 + (i).toNat * 2 + 0]? = some (.int .i64 e10.1) := hc10 0 (by decide)
      have hc10_1 : r10.cs[o10 + (i).toNat * 2 + 1]? = some (.int .i64 e10.2) := hc10 1 (by decide)
      obtain ⟨hwa10, hwb10⟩ := hw10
      obtain ⟨loa10, hia10⟩ := rangei64 hwa10
      obtain ⟨lob10, hib10⟩ := rangei64 hwb10
      refine KO.pv (PV.indexAddrZ un46 sz169 rfl ha10 rfl (by omega) (by omega)) rfl rfl ?_
      refine KO.loadN ag169 sz169 rfl (m8.row0 hb10 hr10) ht10 rfl rfl ?_
      refine KO.allocM m8 zt169 rfl rfl fun H11 m12 => ?_
      refine KO.storeM m12 (i := 0) rfl sz169 rfl rfl rfl (show 0 + 2 ≤ 2 by decide) (show _ = [.int .i64 e10.1, .int .i64 e10.2] from rfl) rfl fun H13 m14 => ?_
      refine KO.nil ?_
      refine KC.seq ?_
      refine KC.region ?_
      refine KO.pv (PV.fieldAddr fo169_1 rfl) rfl rfl ?_
      refine KO.load1 ag3 rfl (m14.row (i := 0) rfl) rfl rfl rfl ?_
      refine KO.nil ?_
      refine KC.block ?_
      refine KC.seq ?_
      refine KC.region ?_
      refine KO.pv (PV.eqlD rfl rfl rfl) rfl rfl ?_
      refine KO.pv (PV.assign rfl) rfl rfl ?_
      refine KO.nil ?_
      refine KC.condD rfl (fun h15 => ?_) (fun h15 => ?_)
      · refine KC.region ?_
        refine KO.pv (PV.move rfl) rfl rfl ?_
        refine KO.buildSliceM m14 el68 ez5 rfl rfl (show _ = some [.int .u8 0] from rfl) rfl rfl fun H16 m17 => ?_
        refine KO.appendC (C := (EI .u8)) m17 (i := 3) rfl el68 ez5 sb5 un68 rfl rfl (newElems_row1 (C := (EI .u8)) (y := 0) (m17.row (i := 0) rfl) rfl) rfl (by first | omega | (simp only [splice, List.length_append, List.length_set, List.length_replicate, List.length_map, List.length_take, List.length_drop, List.length_cons, List.length_nil]; omega)) rfl rfl fun a19 D20 H18 m21 => ?_
        refine KO.pv (PV.assign rfl) rfl rfl ?_
        refine KO.nil ?_
        refine KC.region ?_
        refine KO.pv (PV.add rfl rfl (wrap64 (by omega) (by omega))) rfl rfl ?_
        refine KO.pv (PV.move rfl) rfl rfl ?_
        refine KO.nil ?_
        exact ⟨_, _, (by omega), (.cons rfl (.cons rfl (.cons rfl (.cons rfl (.cons rfl (.cons rfl (.cons rfl .nil))))))), (i + 1), a19, (n + 1), (xs ++ [0]), D20, rfl, rfl, (m21.pick [2, 3] (by decide) rfl), (by omega), (by omega), (by first | omega | (simp only [splice, List.length_append, List.length_set, List.length_replicate, List.length_map, List.length_take, List.length_drop, List.length_cons, List.length_nil]; omega)), (all_app hxs (all_one (by omega))), (all_app hxw (all_one (wfu8 (by omega) (by omega))))⟩
      · refine KC.seq ?_
        refine KC.region ?_
        refine KO.pv (PV.eqlD rfl rfl rfl) rfl rfl ?_
        refine KO.pv (PV.assign rfl) rfl rfl ?_
        refine KO.nil ?_
        refine KC.condD rfl (fun h22 => ?_) (fun h22 => ?_)
        · refine KC.region ?_
          refine KO.pv (PV.move rfl) rfl rfl ?_
          refine KO.buildSliceM m14 el68 ez5 rfl rfl (show _ = some [.int .u8 1] from rfl) rfl rfl fun H23 m24 => ?_
          refine KO.appendC (C := (EI .u8)) m24 (i := 3) rfl el68 ez5 sb5 un68 rfl rfl (newElems_row1 (C := (EI .u8)) (y := 1) (m24.row (i := 0) rfl) rfl) rfl (by first | omega | (simp only [splice, List.length_append, List.length_set, List.length_replicate, List.length_map, List.length_take, List.length_drop, List.length_cons, List.length_nil]; omega)) rfl rfl fun a26 D27 H25 m28 => ?_
          refine KO.pv (PV.assign rfl) rfl rfl ?_
          refine KO.nil ?_
          refine KC.region ?_
          refine KO.pv (PV.add rfl rfl (wrap64 (by omega) (by omega))) rfl rfl ?_
          refine KO.pv (PV.move rfl) rfl rfl ?_
          refine KO.nil ?_
          exact ⟨_, _, (by omega), (.cons rfl (.cons rfl (.cons rfl (.cons rfl (.cons rfl (.cons rfl (.cons rfl .nil))))))), (i + 1), a26, (n + 1), (xs ++ [1]), D27, rfl, rfl, (m28.pick [2, 3] (by decide) rfl), (by omega), (by omega), (by first | omega | (simp only [splice, List.length_append, List.length_set, List.length_replicate, List.length_map, List.length_take, List.length_drop, List.length_cons, List.length_nil]; omega)), (all_app hxs (all_one (by omega))), (all_app hxw (all_one (wfu8 (by omega) (by omega))))⟩
        · refine KC.region ?_
          refine KO.pv (PV.move rfl) rfl rfl ?_
          refine KO.buildSliceM m14 el68 ez5 rfl rfl (show _ = some [.int .u8 2] from rfl) rfl rfl fun H29 m30 => ?_
          refine KO.appendC (C := (EI .u8)) m30 (i := 3) rfl el68 ez5 sb5 un68 rfl rfl (newElems_row1 (C := (EI .u8)) (y := 2) (m30.row (i := 0) rfl) rfl) rfl (by first | omega | (simp only [splice, List.length_append, List.length_set, List.length_replicate, List.length_map, List.length_take, List.length_drop, List.length_cons, List.length_nil]; omega)) rfl rfl fun a32 D33 H31 m34 => ?_
          refine KO.pv (PV.assign rfl) rfl rfl ?_
          refine KO.nil ?_
          refine KC.region ?_
          refine KO.pv (PV.add rfl rfl (wrap64 (by omega) (by omega))) rfl rfl ?_
          refine KO.pv (PV.move rfl) rfl rfl ?_
          refine KO.nil ?_
          exact ⟨_, _, (by omega), (.cons rfl (.cons rfl (.cons rfl (.cons rfl (.cons rfl (.cons rfl (.cons rfl .nil))))))), (i + 1), a32, (n + 1), (xs ++ [2]), D33, rfl, rfl, (m34.pick [2, 3] (by decide) rfl), (by omega), (by omega), (by first | omega | (simp only [splice, List.length_append, List.length_set, List.length_replicate, List.length_map, List.length_take, List.length_drop, List.length_cons, List.length_nil]; omega)), (all_app hxs (all_one (by omega))), (all_app hxw (all_one (wfu8 (by omega) (by omega))))⟩
    · refine KC.exit ?_
      refine KC.seq ?_
      refine KC.region ?_
      refine KO.pv (PV.move rfl) rfl rfl ?_
      refine KO.pv (PV.assign rfl) rfl rfl ?_
      refine KO.pv (PV.assign rfl) rfl rfl ?_
      refine KO.nil ?_
      exact KC.ret ⟨rfl, _, (.tmp rfl (.tmp rfl .nil)), a, n, 0, xs, D, rfl, m8.pick [1] (by decide) rfl, (by first | omega | (intro h; omega)), (by first | omega | (intro h; omega) | exact ⟨all_nil, all_nil⟩ | exact ⟨hxs, hxw⟩)⟩
theorem tern_Covers (H : AHeap) (a_x : Option Addr) (n_x c_x : Nat) (x : List Int) (a_y : Option Addr) (n_y c_y : Nat) (y : List Int) (h_x : V (EI .u8) H a_x n_x c_x x) (h_y : V (EI .u8) H a_y n_y c_y y) : WF E0 48 [.slice a_x n_x c_x, .slice a_y n_y c_y] H fun q => ∃ (o : Bool) (e : Int), q.1 = .tuple #[.bool o, .int .i64 e] ∧ Mem [] H q.2 [] := by
  obtain ⟨len_x, cap_x, max_x, wf_x⟩ := h_x.len
  obtain ⟨len_y, cap_y, max_y, wf_y⟩ := h_y.len
  have m0 : Mem [] H H [] := Mem.start
  refine WF.kg Tryz.func48 rfl rfl ?_
  refine KC.seq ?_
  refine KC.region ?_
  refine KO.pv (PV.assign rfl) rfl rfl ?_
  refine KO.pv (PV.assign rfl) rfl rfl ?_
  refine KO.nil ?_
  refine KC.seq ?_
  refine KC.seq ?_
  refine KC.region ?_
  refine KO.pv (PV.move rfl) rfl rfl ?_
  refine KO.call rfl rfl rfl rfl (tern_check H a_x n_x c_x _ (V.mem m0 h_x)) fun v1 H1 q1 => ?_
  obtain ⟨e1, hv1, mc1, p1_0, p1_1⟩ := q1
  dsimp only at hv1 mc1
  subst hv1
  have m2 := m0.seq mc1
  refine KO.pv (PV.move rfl) rfl rfl ?_
  refine KO.call rfl rfl rfl rfl (tern_check H1 a_y n_y c_y _ (V.mem m2 h_y)) fun v3 H3 q3 => ?_
  obtain ⟨e3, hv3, mc3, p3_0, p3_1⟩ := q3
  dsimp only at hv3 mc3
  subst hv3
  have m4 := m2.seq mc3
  obtain ⟨x5, hx5, dx5⟩ := maxD e1 e3
  refine KO.pv (PV.maxE rfl rfl hx5) rfl rfl ?_
  refine KO.pv (PV.assign rfl) rfl rfl ?_
  refine KO.nil ?_
  refine KC.seq ?_
  refine KC.region ?_
  refine KO.pv (PV.move rfl) rfl rfl ?_
  refine KO.pv (PV.neqD rfl rfl rfl) rfl rfl ?_
  refine KO.nil ?_
  refine KC.condD rfl (fun h6 => ?_) (fun h6 => ?_)
  · refine KC.seq ?_
    refine KC.region ?_
    refine KO.pv (PV.move rfl) rfl rfl ?_
    refine KO.pv (PV.assign rfl) rfl rfl ?_
    refine KO.pv (PV.assign rfl) rfl rfl ?_
    refine KO.nil ?_
    exact KC.ret ⟨rfl, _, (.tmp rfl (.tmp rfl .nil)), false, x5, rfl, m4.pick [] (by decide) rfl⟩
  · refine KC.skip ?_
    refine KC.seq ?_
    refine KC.seq ?_
    refine KC.region ?_
    refine KO.pv (PV.move rfl) rfl rfl ?_
    refine KO.pv (PV.len un68 rfl) rfl rfl ?_
    refine KO.pv (PV.move rfl) rfl rfl ?_
    refine KO.pv (PV.len un68 rfl) rfl rfl ?_
    refine KO.pv (PV.neqD rfl rfl rfl) rfl rfl ?_
    refine KO.nil ?_
    refine KC.condD rfl (fun h7 => ?_) (fun h7 => ?_)
    · refine KC.seq ?_
      refine KC.region ?_
      refine KO.pv (PV.assign rfl) rfl rfl ?_
      refine KO.pv (PV.assign rfl) rfl rfl ?_
      refine KO.nil ?_
      exact KC.ret ⟨rfl, _, (.tmp rfl (.tmp rfl .nil)), false, 2, rfl, m4.pick [] (by decide) rfl⟩
    · refine KC.skip ?_
      refine KC.seq ?_
      refine KC.seq ?_
      refine KC.region ?_
      refine KO.pv (PV.move rfl) rfl rfl ?_
      refine KO.pv (PV.len un68 rfl) rfl rfl ?_
      refine KO.pv (PV.move rfl) rfl rfl ?_
      refine KO.nil ?_
      refine KC.block ?_
      refine KC.sub (l' := [(1, .slice a_y n_y c_y), (4, .bool false), (5, .int .i64 0), (15, .bool (decide (x5 ≠ 0))), (21, .bool (decide ((n_x : Int) ≠ (n_y : Int)))), (22, .slice a_x n_x c_x), (23, .int .i64 (n_x : Int)), (24, .int .i64 0)]) (.cons rfl (.cons rfl (.cons rfl (.cons rfl (.cons rfl (.cons rfl (.cons rfl (.cons rfl .nil)))))))) ?_
      refine KC.loopN (fun k l A => ∃ (i : Int), k = ((n_x : Int) - i).toNat ∧ l = [(1, .slice a_y n_y c_y), (4, .bool false), (5, .int .i64 0), (15, .bool (decide (x5 ≠ 0))), (21, .bool (decide ((n_x : Int) ≠ (n_y : Int)))), (22, .slice a_x n_x c_x), (23, .int .i64 (n_x : Int)), (24, .int .i64 i)] ∧ Mem [] H A [] ∧ (0 ≤ i ∧ i ≤ n_x)) ?_ (((n_x : Int) - 0).toNat) ⟨0, rfl, rfl, (m4.pick [] (by decide) rfl), (by omega)⟩
      rintro k l A8 ⟨i, rfl, rfl, m9, hi⟩
      refine KC.seq ?_
      refine KC.region ?_
      refine KO.pv (PV.lssD rfl rfl rfl) rfl rfl ?_
      refine KO.nil ?_
      refine KC.seq ?_
      refine KC.condD rfl (fun h10 => ?_) (fun h10 => ?_)
      · refine KC.skip ?_
        refine KC.seq ?_
        refine KC.block ?_
        refine KC.seq ?_
        refine KC.region ?_
        refine KO.pv (PV.move rfl) rfl rfl ?_
        obtain ⟨b11, o11, p11, r11, e11, ha11, hb11, hr11, hx11, hw11, hc11, ht11⟩ := V.at_ h_x (z := i) (by omega) (by omega)
        have hc11_0 : r11.cs[o11 + (i).toNat * 1 + 0]? = some (.int .u8 e11) := hc11 0 (by decide)
        have hw11 : IntKind.u8.wrap e11 = e11 := hw11
        obtain ⟨lo11, hi11⟩ := rangeu8 hw11
        refine KO.pv (PV.indexAddrZ un68 sz5 rfl ha11 rfl (by omega) (by omega)) rfl rfl ?_
        refine KO.load1 ag5 rfl (m9.row0 hb11 hr11) hc11_0 rfl rfl ?_
        refine KO.pv (PV.assign rfl) rfl rfl ?_
        refine KO.pv (PV.assign rfl) rfl rfl ?_
        refine KO.nil ?_
        refine KC.seq ?_
        refine KC.region ?_
        refine KO.pv (PV.move rfl) rfl rfl ?_
        by_cases h12 : e11 ≠ 2
        · refine KO.pv (PV.neqD rfl rfl (decide_eq_true h12)) rfl rfl ?_
          refine KO.pv (PV.move rfl) rfl rfl ?_
          refine KO.pv (PV.move rfl) rfl rfl ?_
          refine KO.pv (PV.move rfl) rfl rfl ?_
          refine KO.pv (PV.move rfl) rfl rfl ?_
          obtain ⟨b13, o13, p13, r13, e13, ha13, hb13, hr13, hx13, hw13, hc13, ht13⟩ := V.at_ h_y (z := i) (by omega) (by omega)
          have hc13_0 : r13.cs[o13 + (i).toNat * 1 + 0]? = some (.int .u8 e13) := hc13 0 (by decide)
          have hw13 : IntKind.u8.wrap e13 = e13 := hw13
          obtain ⟨lo13, hi13⟩ := rangeu8 hw13
          refine KO.pv (PV.indexAddrZ un68 sz5 rfl ha13 rfl (by omega) (by omega)) rfl rfl ?_
          refine KO.load1 ag5 rfl (m9.row0 hb13 hr13) hc13_0 rfl rfl ?_
          refine KO.pv (PV.neqD rfl rfl rfl) rfl rfl ?_
          refine KO.pv (PV.pickT rfl rfl rfl) rfl rfl ?_
          refine KO.nil ?_
          refine KC.condD rfl (fun h14 => ?_) (fun h14 => ?_)
          · refine KC.seq ?_
            refine KC.region ?_
            refine KO.pv (PV.assign rfl) rfl rfl ?_
            refine KO.pv (PV.assign rfl) rfl rfl ?_
            refine KO.nil ?_
            exact KC.ret ⟨rfl, _, (.tmp rfl (.tmp rfl .nil)), false, 0, rfl, m9.pick [] (by decide) rfl⟩
          · refine KC.skip ?_
            refine KC.region ?_
            refine KO.pv (PV.add rfl rfl (wrap64 (by omega) (by omega))) rfl rfl ?_
            refine KO.pv (PV.move rfl) rfl rfl ?_
            refine KO.nil ?_
            exact ⟨_, _, (by omega), (.cons rfl (.cons rfl (.cons rfl (.cons rfl (.cons rfl (.cons rfl (.cons rfl (.cons rfl .nil)))))))), (i + 1), rfl, rfl, (m9.pick [] (by decide) rfl), (by omega)⟩
        · refine KO.pv (PV.neqD rfl rfl (decide_eq_false h12)) rfl rfl ?_
          refine KO.pv (PV.move rfl) rfl rfl ?_
          refine KO.no rfl rfl rfl ?_
          refine KO.no rfl rfl rfl ?_
          refine KO.no rfl rfl rfl ?_
          refine KO.no rfl rfl rfl ?_
          refine KO.no rfl rfl rfl ?_
          refine KO.no rfl rfl rfl ?_
          refine KO.pv (PV.pickF rfl rfl rfl) rfl rfl ?_
          refine KO.nil ?_
          refine KC.condF rfl ?_
          refine KC.skip ?_
          refine KC.region ?_
          refine KO.pv (PV.add rfl rfl (wrap64 (by omega) (by omega))) rfl rfl ?_
          refine KO.pv (PV.move rfl) rfl rfl ?_
          refine KO.nil ?_
          exact ⟨_, _, (by omega), (.cons rfl (.cons rfl (.cons rfl (.cons rfl (.cons rfl (.cons rfl (.cons rfl (.cons rfl .nil)))))))), (i + 1), rfl, rfl, (m9.pick [] (by decide) rfl), (by omega)⟩
      · refine KC.exit ?_
        refine KC.seq ?_
        refine KC.region ?_
        refine KO.pv (PV.assign rfl) rfl rfl ?_
        refine KO.pv (PV.assign rfl) rfl rfl ?_
        refine KO.nil ?_
        exact KC.ret ⟨rfl, _, (.tmp rfl (.tmp rfl .nil)), true, 0, rfl, m9.pick [] (by decide) rfl⟩
abbrev ShTernary : Sh := .fld 0 (.num .u8) (.fld 1 (.num .u8) (.fld 2 (.fld 0 (.num .i64) (.fld 1 (.list 2 (.fld 0 (.num .i64) (.fld 1 (.num .i64) .nil))) (.fld 2 (.list 2 (.fld 0 (.num .i64) (.fld 1 (.num .i64) .nil))) (.fld 3 (.list 1 (.num .i64)) (.fld 4 (.list 1 (.num .i64)) .nil))))) (.fld 7 (.list 1 (.num .u8)) (.fld 8 (.list 1 (.num .u8)) (.fld 9 (.list 1 (.num .u8)) (.fld 10 (.list 1 (.num .u8)) .nil))))))
theorem arg_Ternary {H : AHeap} {bx : Nat} {ns : List Int} {ss : List ByteArray} {D : List Nat} (h : Own H ⟨true, true, false⟩ ShTernary bx ns ss D) (hl : ns.length ≤ 300000000) :
    ∃ (r : Row) (yu0 : Int) (yu1 : Int) (yu2 : Int) (ya3 : Option Addr) (yn3 yc3 : Nat) (yl3 : List (Int × Int)) (ya4 : Option Addr) (yn4 yc4 : Nat) (yl4 : List (Int × Int)) (ya5 : Option Addr) (yn5 yc5 : Nat) (yl5 : List Int) (ya6 : Option Addr) (yn6 yc6 : Nat) (yl6 : List Int) (ya7 : Option Addr) (yn7 yc7 : Nat) (yl7 : List Int) (ya8 : Option Addr) (yn8 yc8 : Nat) (yl8 : List Int) (ya9 : Option Addr) (yn9 yc9 : Nat) (yl9 : List Int) (ya10 : Option Addr) (yn10 yc10 : Nat) (yl10 : List Int), H.row bx = some r ∧ r.cs[0]? = some (.int .u8 yu0) ∧ IntKind.u8.wrap yu0 = yu0 ∧ r.cs[1]? = some (.int .u8 yu1) ∧ IntKind.u8.wrap yu1 = yu1 ∧ r.cs[2]? = some (.int .i64 yu2) ∧ IntKind.i64.wrap yu2 = yu2 ∧ r.cs[3]? = some (.slice ya3 yn3 yc3) ∧ V EP H ya3 yn3 yc3 yl3 ∧ exactBase ya3 = true ∧ yn3 ≤ 300000000 ∧ r.cs[4]? = some (.slice ya4 yn4 yc4) ∧ V EP H ya4 yn4 yc4 yl4 ∧ exactBase ya4 = true ∧ yn4 ≤ 300000000 ∧ r.cs[5]? = some (.slice ya5 yn5 yc5) ∧ V (EI .i64) H ya5 yn5 yc5 yl5 ∧ exactBase ya5 = true ∧ yn5 ≤ 300000000 ∧ r.cs[6]? = some (.slice ya6 yn6 yc6) ∧ V (EI .i64) H ya6 yn6 yc6 yl6 ∧ exactBase ya6 = true ∧ yn6 ≤ 300000000 ∧ r.cs[7]? = some (.slice ya7 yn7 yc7) ∧ V (EI .u8) H ya7 yn7 yc7 yl7 ∧ exactBase ya7 = true ∧ yn7 ≤ 300000000 ∧ r.cs[8]? = some (.slice ya8 yn8 yc8) ∧ V (EI .u8) H ya8 yn8 yc8 yl8 ∧ exactBase ya8 = true ∧ yn8 ≤ 300000000 ∧ r.cs[9]? = some (.slice ya9 yn9 yc9) ∧ V (EI .u8) H ya9 yn9 yc9 yl9 ∧ exactBase ya9 = true ∧ yn9 ≤ 300000000 ∧ r.cs[10]? = some (.slice ya10 yn10 yc10) ∧ V (EI .u8) H ya10 yn10 yc10 yl10 ∧ exactBase ya10 = true ∧ yn10 ≤ 300000000 := by
  obtain ⟨r, hr, hw, hR⟩ := h.ex
  have hD := h.lD
  obtain ⟨n0, s0, D0, m0, t0, B0, r0, w0, rfl, rfl, rfl⟩ := hR
  obtain ⟨n1, s1, D1, m1, t1, B1, r1, w1, rfl, rfl, rfl⟩ := w0
  obtain ⟨n2, s2, D2, m2, t2, B2, r2, w2, rfl, rfl, rfl⟩ := w1
  obtain ⟨n3, s3, D3, m3, t3, B3, r3, w3, rfl, rfl, rfl⟩ := w2
  obtain ⟨n4, s4, D4, m4, t4, B4, r4, w4, rfl, rfl, rfl⟩ := w3
  obtain ⟨n5, s5, D5, m5, t5, B5, r5, w5, rfl, rfl, rfl⟩ := w4
  obtain ⟨n6, s6, D6, m6, t6, B6, r6, w6, rfl, rfl, rfl⟩ := w5
  obtain ⟨rfl, rfl, rfl⟩ := w6
  obtain ⟨yu0, k0, z0, -⟩ := r0
  obtain ⟨yu1, k1, z1, -⟩ := r1
  obtain ⟨n7, s7, D7, m7, t7, B7, r7, w7, rfl, rfl, rfl⟩ := r2
  obtain ⟨n8, s8, D8, m8, t8, B8, r8, w8, rfl, rfl, rfl⟩ := w7
  obtain ⟨n9, s9, D9, m9, t9, B9, r9, w9, rfl, rfl, rfl⟩ := w8
  obtain ⟨n10, s10, D10, m10, t10, B10, r10, w10, rfl, rfl, rfl⟩ := w9
  obtain ⟨n11, s11, D11, m11, t11, B11, r11, w11, rfl, rfl, rfl⟩ := w10
  obtain ⟨rfl, rfl, rfl⟩ := w11
  obtain ⟨yu2, k7, z7, -⟩ := r7
  obtain ⟨ya3, yn3, yc3, yl3, k8, v8, e8, g8⟩ := rd_list rdP r8 (fun j hj => hD j (by simp only [List.mem_append, hj, true_or, or_true]))
  obtain ⟨ya4, yn4, yc4, yl4, k9, v9, e9, g9⟩ := rd_list rdP r9 (fun j hj => hD j (by simp only [List.mem_append, hj, true_or, or_true]))
  obtain ⟨ya5, yn5, yc5, yl5, k10, v10, e10, g10⟩ := rd_list (rdI .i64) r10 (fun j hj => hD j (by simp only [List.mem_append, hj, true_or, or_true]))
  obtain ⟨ya6, yn6, yc6, yl6, k11, v11, e11, g11⟩ := rd_list (rdI .i64) r11 (fun j hj => hD j (by simp only [List.mem_append, hj, true_or, or_true]))
  obtain ⟨ya7, yn7, yc7, yl7, k3, v3, e3, g3⟩ := rd_list (rdI .u8) r3 (fun j hj => hD j (by simp only [List.mem_append, hj, true_or, or_true]))
  obtain ⟨ya8, yn8, yc8, yl8, k4, v4, e4, g4⟩ := rd_list (rdI .u8) r4 (fun j hj => hD j (by simp only [List.mem_append, hj, true_or, or_true]))
  obtain ⟨ya9, yn9, yc9, yl9, k5, v5, e5, g5⟩ := rd_list (rdI .u8) r5 (fun j hj => hD j (by simp only [List.mem_append, hj, true_or, or_true]))
  obtain ⟨ya10, yn10, yc10, yl10, k6, v6, e6, g6⟩ := rd_list (rdI .u8) r6 (fun j hj => hD j (by simp only [List.mem_append, hj, true_or, or_true]))
  exact ⟨r, yu0, yu1, yu2, ya3, yn3, yc3, yl3, ya4, yn4, yc4, yl4, ya5, yn5, yc5, yl5, ya6, yn6, yc6, yl6, ya7, yn7, yc7, yl7, ya8, yn8, yc8, yl8, ya9, yn9, yc9, yl9, ya10, yn10, yc10, yl10, hr, k0, z0, k1, z1, k7, z7, k8, v8, e8, (by simp only [List.length_append] at hl; omega), k9, v9, e9, (by simp only [List.length_append] at hl; omega), k10, v10, e10, (by simp only [List.length_append] at hl; omega), k11, v11, e11, (by simp only [List.length_append] at hl; omega), k3, v3, e3, (by simp only [List.length_append] at hl; omega), k4, v4, e4, (by simp only [List.length_append] at hl; omega), k5, v5, e5, (by simp only [List.length_append] at hl; omega), k6, v6, e6, (by simp only [List.length_append] at hl; omega)⟩
theorem call_37 : CallOK' E0 3 9 42 37 ShTernary := by
  intro H bx ns ss D hO hl1 _
  obtain ⟨r, yu0, yu1, yu2, ya3, yn3, yc3, yl3, ya4, yn4, yc4, yl4, ya5, yn5, yc5, yl5, ya6, yn6, yc6, yl6, ya7, yn7, yc7, yl7, ya8, yn8, yc8, yl8, ya9, yn9, yc9, yl9, ya10, yn10, yc10, yl10, hr, x0, w_u0, x1, w_u1, x2, w_u2, x3, h_l3, ex_l3, b_l3, x4, h_l4, ex_l4, b_l4, x5, h_l5, ex_l5, b_l5, x6, h_l6, ex_l6, b_l6, x7, h_l7, ex_l7, b_l7, x8, h_l8, ex_l8, b_l8, x9, h_l9, ex_l9, b_l9, x10, h_l10, ex_l10, b_l10⟩ := arg_Ternary hO hl1
  obtain ⟨lo_u0, hi_u0⟩ := rangeu8 w_u0
  obtain ⟨lo_u1, hi_u1⟩ := rangeu8 w_u1
  obtain ⟨lo_u2, hi_u2⟩ := rangei64 w_u2
  obtain ⟨len_l3, cap_l3, max_l3, wf_l3⟩ := h_l3.len
  obtain ⟨len_l4, cap_l4, max_l4, wf_l4⟩ := h_l4.len
  obtain ⟨len_l5, cap_l5, max_l5, wf_l5⟩ := h_l5.len
  obtain ⟨len_l6, cap_l6, max_l6, wf_l6⟩ := h_l6.len
  obtain ⟨len_l7, cap_l7, max_l7, wf_l7⟩ := h_l7.len
  obtain ⟨len_l8, cap_l8, max_l8, wf_l8⟩ := h_l8.len
  obtain ⟨len_l9, cap_l9, max_l9, wf_l9⟩ := h_l9.len
  obtain ⟨len_l10, cap_l10, max_l10, wf_l10⟩ := h_l10.len
  have m0 : Mem [] H H [] := Mem.start
  refine WF.kg Tryz.func37 rfl rfl ?_
  refine KC.seq ?_
  refine KC.region ?_
  refine KO.pv (PV.assign rfl) rfl rfl ?_
  refine KO.nil ?_
  refine KC.seq ?_
  refine KC.drawG (n := 19) (anc := [0, 1, 3, 7, 0, 16, 48, 112, 0, 256, 768, 1792, 4095, 8191, 16383, 16383, 0, 98303, 262143]) (hv := [12, 17]) (ord := [0, 1, 2, 3, 4, 5, 6, 7, 8, 9, 10, 11, 12, 13, 14, 16, 17, 15, 18]) (by kernel_rfl) (by kernel_rfl) (by kernel_rfl) (by kernel_rfl) (by kernel_rfl) fun H1 n2 g3 => ?_
  have m4 := m0.room n2 g3 [16] (by decide) (by decide)
  refine KD.pv 1 (PV.move rfl) rfl rfl rfl (by kernel_rfl) rfl rfl rfl ?_
  refine KD.pv 3 (PV.nilCheck rfl) rfl rfl rfl (by kernel_rfl) rfl rfl rfl ?_
  refine KD.pv 7 (PV.fieldAddr fo70_2 rfl) rfl rfl rfl (by kernel_rfl) rfl rfl rfl ?_
  refine KD.load 15 rfl (m4.row0 hO.lb hr) (readN ag49 sz49 (takeN_cons x2 (takeN_cons x3 (takeN_cons x4 (takeN_cons x5 (takeN_cons x6 takeN_nil)))))) (pastGo (k := 1) (l := [H1]) (by kernel_rfl) rfl (pastCons ⟨_, (m4.row0 hO.lb hr), (readN ag49 sz49 (takeN_cons x2 (takeN_cons x3 (takeN_cons x4 (takeN_cons x5 (takeN_cons x6 takeN_nil))))))⟩ pastNil)) (veq_agg (veqCons veqI (veqCons veqS (veqCons veqS (veqCons veqS (veqCons veqS veqNil)))))) rfl (by kernel_rfl) rfl rfl rfl ?_
  refine KD.pv 31 (PV.move rfl) rfl rfl rfl (by kernel_rfl) rfl rfl rfl ?_
  refine KD.pv 63 (PV.nilCheck rfl) rfl rfl rfl (by kernel_rfl) rfl rfl rfl ?_
  refine KD.pv 127 (PV.fieldAddr fo70_3 rfl) rfl rfl rfl (by kernel_rfl) rfl rfl rfl ?_
  refine KD.load 255 rfl (m4.row0 hO.lb hr) (by rw [read1 ag68]; exact x7) (pastGo (k := 1) (l := [H1]) (by kernel_rfl) rfl (pastCons ⟨_, (m4.row0 hO.lb hr), (by rw [read1 ag68]; exact x7)⟩ pastNil)) veq_sl rfl (by kernel_rfl) rfl rfl rfl ?_
  refine KD.pv 511 (PV.move rfl) rfl rfl rfl (by kernel_rfl) rfl rfl rfl ?_
  refine KD.pv 1023 (PV.nilCheck rfl) rfl rfl rfl (by kernel_rfl) rfl rfl rfl ?_
  refine KD.pv 2047 (PV.fieldAddr fo70_4 rfl) rfl rfl rfl (by kernel_rfl) rfl rfl rfl ?_
  refine KD.load 4095 rfl (m4.row0 hO.lb hr) (by rw [read1 ag68]; exact x8) (pastGo (k := 1) (l := [H1]) (by kernel_rfl) rfl (pastCons ⟨_, (m4.row0 hO.lb hr), (by rw [read1 ag68]; exact x8)⟩ pastNil)) veq_sl rfl (by kernel_rfl) rfl rfl rfl ?_
  refine KD.call 8191 rfl rfl rfl (by kernel_rfl) rfl rfl rfl (tern_All H1 yu2 ya3 yn3 yc3 _ ya4 yn4 yc4 _ ya5 yn5 yc5 _ ya6 yn6 yc6 _ ya7 yn7 yc7 _ ya8 yn8 yc8 _ (wrap64 (by omega) (by omega)) (V.mem m4 h_l3) (V.mem m4 h_l4) (V.mem m4 h_l5) (V.mem m4 h_l6) (V.mem m4 h_l7) (V.mem m4 h_l8)) fun v5 H5 q5 => ?_
  obtain ⟨a5, n5, e5, xs5, D5, hv5, mc5, p5_0, p5_1, p5_2⟩ := q5
  dsimp only at hv5 mc5
  subst hv5
  have m6 := m4.seq mc5
  obtain ⟨pa5_1, pb5_1⟩ := id p5_1
  refine KD.pv 16383 (PV.move rfl) rfl rfl rfl (by kernel_rfl) rfl rfl rfl ?_
  refine KD.pv 32767 (PV.extract rfl rfl) rfl rfl rfl (by kernel_rfl) rfl rfl rfl ?_
  refine KD.allocM 98303 m6 (j := 1) rfl zt68 rfl (by kernel_rfl) rfl rfl rfl fun H7 m8 => ?_
  refine KD.storeM 229375 m8 (j := 1) rfl sz68 rfl rfl rfl (show 0 + 1 ≤ 1 by decide) (show _ = [.slice a5 n5 n5] from rfl) rfl (by kernel_rfl) rfl rfl fun H9 m10 => ?_
  refine KD.pv 262143 (PV.extract rfl rfl) rfl rfl rfl (by kernel_rfl) rfl rfl rfl ?_
  refine KD.pv 524287 (PV.assign rfl) rfl rfl rfl (by kernel_rfl) rfl rfl rfl ?_
  refine KD.nil ⟨rfl, ?_⟩
  refine KC.seq ?_
  refine KC.region ?_
  refine KO.pv (PV.makeFunc rfl rfl) rfl rfl ?_
  refine KO.buildSliceM m10 el32 ez42 rfl rfl (show _ = some [.func (.func 39) #[] #[.pointer (some ⟨(H.next + 16), 0, none⟩)]] from rfl) rfl rfl fun H11 m12 => ?_
  refine KO.pv (PV.assign rfl) rfl rfl ?_
  refine KO.nil ?_
  have m13 := m12.ownLst (C := (EI .u8)) (i := 1) rfl (by assumption) (by first | omega | (simp only [splice, List.length_append, List.length_set, List.length_replicate, List.length_map, List.length_take, List.length_drop, List.length_cons, List.length_nil]; omega))
  obtain ⟨nr14, rd14, ln14⟩ := OwnV.rd (rdI .u8) (m13.res (i := 1) rfl) (cs := [.slice a5 n5 n5]) (o := 0) rfl
  exact KC.ret ⟨rfl, _, (.tmp rfl .nil), call_one (m13.pick [0, 2, 1] (by decide) rfl) rfl (see_39 9) rd14 (by simp [R.own, pickL]) (by omega) (by simp)⟩
theorem call_41 : CallOK' E0 3 9 42 41 ShTernary := by
  intro H bx ns ss D hO hl1 _
  obtain ⟨r, yu0, yu1, yu2, ya3, yn3, yc3, yl3, ya4, yn4, yc4, yl4, ya5, yn5, yc5, yl5, ya6, yn6, yc6, yl6, ya7, yn7, yc7, yl7, ya8, yn8, yc8, yl8, ya9, yn9, yc9, yl9, ya10, yn10, yc10, yl10, hr, x0, w_u0, x1, w_u1, x2, w_u2, x3, h_l3, ex_l3, b_l3, x4, h_l4, ex_l4, b_l4, x5, h_l5, ex_l5, b_l5, x6, h_l6, ex_l6, b_l6, x7, h_l7, ex_l7, b_l7, x8, h_l8, ex_l8, b_l8, x9, h_l9, ex_l9, b_l9, x10, h_l10, ex_l10, b_l10⟩ := arg_Ternary hO hl1
  obtain ⟨lo_u0, hi_u0⟩ := rangeu8 w_u0
  obtain ⟨lo_u1, hi_u1⟩ := rangeu8 w_u1
  obtain ⟨lo_u2, hi_u2⟩ := rangei64 w_u2
  obtain ⟨len_l3, cap_l3, max_l3, wf_l3⟩ := h_l3.len
  obtain ⟨len_l4, cap_l4, max_l4, wf_l4⟩ := h_l4.len
  obtain ⟨len_l5, cap_l5, max_l5, wf_l5⟩ := h_l5.len
  obtain ⟨len_l6, cap_l6, max_l6, wf_l6⟩ := h_l6.len
  obtain ⟨len_l7, cap_l7, max_l7, wf_l7⟩ := h_l7.len
  obtain ⟨len_l8, cap_l8, max_l8, wf_l8⟩ := h_l8.len
  obtain ⟨len_l9, cap_l9, max_l9, wf_l9⟩ := h_l9.len
  obtain ⟨len_l10, cap_l10, max_l10, wf_l10⟩ := h_l10.len
  have m0 : Mem [] H H [] := Mem.start
  refine WF.kg Tryz.func41 rfl rfl ?_
  refine KC.seq ?_
  refine KC.region ?_
  refine KO.pv (PV.assign rfl) rfl rfl ?_
  refine KO.nil ?_
  refine KC.seq ?_
  refine KC.drawG (n := 19) (anc := [0, 1, 3, 7, 0, 16, 48, 112, 0, 256, 768, 1792, 4095, 8191, 16383, 16383, 0, 98303, 262143]) (hv := [12, 17]) (ord := [0, 1, 2, 3, 4, 5, 6, 7, 8, 9, 10, 11, 12, 13, 14, 16, 17, 15, 18]) (by kernel_rfl) (by kernel_rfl) (by kernel_rfl) (by kernel_rfl) (by kernel_rfl) fun H1 n2 g3 => ?_
  have m4 := m0.room n2 g3 [16] (by decide) (by decide)
  refine KD.pv 1 (PV.move rfl) rfl rfl rfl (by kernel_rfl) rfl rfl rfl ?_
  refine KD.pv 3 (PV.nilCheck rfl) rfl rfl rfl (by kernel_rfl) rfl rfl rfl ?_
  refine KD.pv 7 (PV.fieldAddr fo70_2 rfl) rfl rfl rfl (by kernel_rfl) rfl rfl rfl ?_
  refine KD.load 15 rfl (m4.row0 hO.lb hr) (readN ag49 sz49 (takeN_cons x2 (takeN_cons x3 (takeN_cons x4 (takeN_cons x5 (takeN_cons x6 takeN_nil)))))) (pastGo (k := 1) (l := [H1]) (by kernel_rfl) rfl (pastCons ⟨_, (m4.row0 hO.lb hr), (readN ag49 sz49 (takeN_cons x2 (takeN_cons x3 (takeN_cons x4 (takeN_cons x5 (takeN_cons x6 takeN_nil))))))⟩ pastNil)) (veq_agg (veqCons veqI (veqCons veqS (veqCons veqS (veqCons veqS (veqCons veqS veqNil)))))) rfl (by kernel_rfl) rfl rfl rfl ?_
  refine KD.pv 31 (PV.move rfl) rfl rfl rfl (by kernel_rfl) rfl rfl rfl ?_
  refine KD.pv 63 (PV.nilCheck rfl) rfl rfl rfl (by kernel_rfl) rfl rfl rfl ?_
  refine KD.pv 127 (PV.fieldAddr fo70_3 rfl) rfl rfl rfl (by kernel_rfl) rfl rfl rfl ?_
  refine KD.load 255 rfl (m4.row0 hO.lb hr) (by rw [read1 ag68]; exact x7) (pastGo (k := 1) (l := [H1]) (by kernel_rfl) rfl (pastCons ⟨_, (m4.row0 hO.lb hr), (by rw [read1 ag68]; exact x7)⟩ pastNil)) veq_sl rfl (by kernel_rfl) rfl rfl rfl ?_
  refine KD.pv 511 (PV.move rfl) rfl rfl rfl (by kernel_rfl) rfl rfl rfl ?_
  refine KD.pv 1023 (PV.nilCheck rfl) rfl rfl rfl (by kernel_rfl) rfl rfl rfl ?_
  refine KD.pv 2047 (PV.fieldAddr fo70_4 rfl) rfl rfl rfl (by kernel_rfl) rfl rfl rfl ?_
  refine KD.load 4095 rfl (m4.row0 hO.lb hr) (by rw [read1 ag68]; exact x8) (pastGo (k := 1) (l := [H1]) (by kernel_rfl) rfl (pastCons ⟨_, (m4.row0 hO.lb hr), (by rw [read1 ag68]; exact x8)⟩ pastNil)) veq_sl rfl (by kernel_rfl) rfl rfl rfl ?_
  refine KD.call 8191 rfl rfl rfl (by kernel_rfl) rfl rfl rfl (tern_Next H1 yu2 ya3 yn3 yc3 _ ya4 yn4 yc4 _ ya5 yn5 yc5 _ ya6 yn6 yc6 _ ya7 yn7 yc7 _ ya8 yn8 yc8 _ (wrap64 (by omega) (by omega)) (V.mem m4 h_l3) (V.mem m4 h_l4) (V.mem m4 h_l5) (V.mem m4 h_l6) (V.mem m4 h_l7) (V.mem m4 h_l8)) fun v5 H5 q5 => ?_
  obtain ⟨a5, n5, e5, xs5, D5, hv5, mc5, p5_0, p5_1⟩ := q5
  dsimp only at hv5 mc5
  subst hv5
  have m6 := m4.seq mc5
  obtain ⟨pa5_1, pb5_1⟩ := id p5_1
  refine KD.pv 16383 (PV.move rfl) rfl rfl rfl (by kernel_rfl) rfl rfl rfl ?_
  refine KD.pv 32767 (PV.extract rfl rfl) rfl rfl rfl (by kernel_rfl) rfl rfl rfl ?_
  refine KD.allocM 98303 m6 (j := 1) rfl zt68 rfl (by kernel_rfl) rfl rfl rfl fun H7 m8 => ?_
  refine KD.storeM 229375 m8 (j := 1) rfl sz68 rfl rfl rfl (show 0 + 1 ≤ 1 by decide) (show _ = [.slice a5 n5 n5] from rfl) rfl (by kernel_rfl) rfl rfl fun H9 m10 => ?_
  refine KD.pv 262143 (PV.extract rfl rfl) rfl rfl rfl (by kernel_rfl) rfl rfl rfl ?_
  refine KD.pv 524287 (PV.assign rfl) rfl rfl rfl (by kernel_rfl) rfl rfl rfl ?_
  refine KD.nil ⟨rfl, ?_⟩
  refine KC.seq ?_
  refine KC.region ?_
  refine KO.pv (PV.makeFunc rfl rfl) rfl rfl ?_
  refine KO.buildSliceM m10 el32 ez42 rfl rfl (show _ = some [.func (.func 43) #[] #[.pointer (some ⟨(H.next + 16), 0, none⟩)]] from rfl) rfl rfl fun H11 m12 => ?_
  refine KO.pv (PV.assign rfl) rfl rfl ?_
  refine KO.nil ?_
  have m13 := m12.ownLst (C := (EI .u8)) (i := 1) rfl (by assumption) (by first | omega | (simp only [splice, List.length_append, List.length_set, List.length_replicate, List.length_map, List.length_take, List.length_drop, List.length_cons, List.length_nil]; omega))
  obtain ⟨nr14, rd14, ln14⟩ := OwnV.rd (rdI .u8) (m13.res (i := 1) rfl) (cs := [.slice a5 n5 n5]) (o := 0) rfl
  exact KC.ret ⟨rfl, _, (.tmp rfl .nil), call_one (m13.pick [0, 2, 1] (by decide) rfl) rfl (see_43 9) rd14 (by simp [R.own, pickL]) (by omega) (by simp)⟩
theorem call_44 : CallOK' E0 3 9 42 44 ShTernary := by
  intro H bx ns ss D hO hl1 _
  obtain ⟨r, yu0, yu1, yu2, ya3, yn3, yc3, yl3, ya4, yn4, yc4, yl4, ya5, yn5, yc5, yl5, ya6, yn6, yc6, yl6, ya7, yn7, yc7, yl7, ya8, yn8, yc8, yl8, ya9, yn9, yc9, yl9, ya10, yn10, yc10, yl10, hr, x0, w_u0, x1, w_u1, x2, w_u2, x3, h_l3, ex_l3, b_l3, x4, h_l4, ex_l4, b_l4, x5, h_l5, ex_l5, b_l5, x6, h_l6, ex_l6, b_l6, x7, h_l7, ex_l7, b_l7, x8, h_l8, ex_l8, b_l8, x9, h_l9, ex_l9, b_l9, x10, h_l10, ex_l10, b_l10⟩ := arg_Ternary hO hl1
  obtain ⟨lo_u0, hi_u0⟩ := rangeu8 w_u0
  obtain ⟨lo_u1, hi_u1⟩ := rangeu8 w_u1
  obtain ⟨lo_u2, hi_u2⟩ := rangei64 w_u2
  obtain ⟨len_l3, cap_l3, max_l3, wf_l3⟩ := h_l3.len
  obtain ⟨len_l4, cap_l4, max_l4, wf_l4⟩ := h_l4.len
  obtain ⟨len_l5, cap_l5, max_l5, wf_l5⟩ := h_l5.len
  obtain ⟨len_l6, cap_l6, max_l6, wf_l6⟩ := h_l6.len
  obtain ⟨len_l7, cap_l7, max_l7, wf_l7⟩ := h_l7.len
  obtain ⟨len_l8, cap_l8, max_l8, wf_l8⟩ := h_l8.len
  obtain ⟨len_l9, cap_l9, max_l9, wf_l9⟩ := h_l9.len
  obtain ⟨len_l10, cap_l10, max_l10, wf_l10⟩ := h_l10.len
  have m0 : Mem [] H H [] := Mem.start
  refine WF.kg Tryz.func44 rfl rfl ?_
  refine KC.seq ?_
  refine KC.region ?_
  refine KO.pv (PV.assign rfl) rfl rfl ?_
  refine KO.nil ?_
  refine KC.seq ?_
  refine KC.region ?_
  refine KO.pv (PV.move rfl) rfl rfl ?_
  refine KO.pv (PV.nilCheck rfl) rfl rfl ?_
  refine KO.pv (PV.fieldAddr fo70_2 rfl) rfl rfl ?_
  refine KO.loadN ag49 sz49 rfl (m0.row0 hO.lb hr) (takeN_cons x2 (takeN_cons x3 (takeN_cons x4 (takeN_cons x5 (takeN_cons x6 takeN_nil))))) rfl rfl ?_
  refine KO.call rfl rfl rfl rfl (tern_First H yu2 ya3 yn3 yc3 _ ya4 yn4 yc4 _ ya5 yn5 yc5 _ ya6 yn6 yc6 _ (wrap64 (by omega) (by omega)) (V.mem m0 h_l3) (V.mem m0 h_l4) (V.mem m0 h_l5) (V.mem m0 h_l6)) fun v1 H1 q1 => ?_
  obtain ⟨a1, n1, e1, xs1, D1, hv1, mc1, p1_0, p1_1⟩ := q1
  dsimp only at hv1 mc1
  subst hv1
  have m2 := m0.seq mc1
  obtain ⟨pa1_1, pb1_1⟩ := id p1_1
  refine KO.pv (PV.move rfl) rfl rfl ?_
  refine KO.pv (PV.extract rfl rfl) rfl rfl ?_
  refine KO.pv (PV.extract rfl rfl) rfl rfl ?_
  refine KO.allocM m2 zt68 rfl rfl fun H3 m4 => ?_
  refine KO.storeM m4 (i := 0) rfl sz68 rfl rfl rfl (show 0 + 1 ≤ 1 by decide) (show _ = [.slice a1 n1 n1] from rfl) rfl fun H5 m6 => ?_
  refine KO.pv (PV.assign rfl) rfl rfl ?_
  refine KO.nil ?_
  refine KC.seq ?_
  refine KC.region ?_
  refine KO.pv (PV.makeFunc rfl rfl) rfl rfl ?_
  refine KO.buildSliceM m6 el32 ez42 rfl rfl (show _ = some [.func (.func 46) #[] #[.pointer (some ⟨H1.next, 0, none⟩)]] from rfl) rfl rfl fun H7 m8 => ?_
  refine KO.pv (PV.assign rfl) rfl rfl ?_
  refine KO.nil ?_
  have m9 := m8.ownLst (C := (EI .u8)) (i := 2) rfl (by assumption) (by first | omega | (simp only [splice, List.length_append, List.length_set, List.length_replicate, List.length_map, List.length_take, List.length_drop, List.length_cons, List.length_nil]; omega))
  obtain ⟨nr10, rd10, ln10⟩ := OwnV.rd (rdI .u8) (m9.res (i := 2) rfl) (cs := [.slice a1 n1 n1]) (o := 0) rfl
  exact KC.ret ⟨rfl, _, (.tmp rfl .nil), call_one (m9.pick [0, 1, 2] (by decide) rfl) rfl (see_46 9) rd10 (by simp [R.own, pickL]) (by omega) (by simp)⟩
theorem call_47 : CallOK' E0 3 9 42 47 ShTernary := by
  intro H bx ns ss D hO hl1 _
  obtain ⟨r, yu0, yu1, yu2, ya3, yn3, yc3, yl3, ya4, yn4, yc4, yl4, ya5, yn5, yc5, yl5, ya6, yn6, yc6, yl6, ya7, yn7, yc7, yl7, ya8, yn8, yc8, yl8, ya9, yn9, yc9, yl9, ya10, yn10, yc10, yl10, hr, x0, w_u0, x1, w_u1, x2, w_u2, x3, h_l3, ex_l3, b_l3, x4, h_l4, ex_l4, b_l4, x5, h_l5, ex_l5, b_l5, x6, h_l6, ex_l6, b_l6, x7, h_l7, ex_l7, b_l7, x8, h_l8, ex_l8, b_l8, x9, h_l9, ex_l9, b_l9, x10, h_l10, ex_l10, b_l10⟩ := arg_Ternary hO hl1
  obtain ⟨lo_u0, hi_u0⟩ := rangeu8 w_u0
  obtain ⟨lo_u1, hi_u1⟩ := rangeu8 w_u1
  obtain ⟨lo_u2, hi_u2⟩ := rangei64 w_u2
  obtain ⟨len_l3, cap_l3, max_l3, wf_l3⟩ := h_l3.len
  obtain ⟨len_l4, cap_l4, max_l4, wf_l4⟩ := h_l4.len
  obtain ⟨len_l5, cap_l5, max_l5, wf_l5⟩ := h_l5.len
  obtain ⟨len_l6, cap_l6, max_l6, wf_l6⟩ := h_l6.len
  obtain ⟨len_l7, cap_l7, max_l7, wf_l7⟩ := h_l7.len
  obtain ⟨len_l8, cap_l8, max_l8, wf_l8⟩ := h_l8.len
  obtain ⟨len_l9, cap_l9, max_l9, wf_l9⟩ := h_l9.len
  obtain ⟨len_l10, cap_l10, max_l10, wf_l10⟩ := h_l10.len
  have m0 : Mem [] H H [] := Mem.start
  refine WF.kg Tryz.func47 rfl rfl ?_
  refine KC.seq ?_
  refine KC.region ?_
  refine KO.pv (PV.assign rfl) rfl rfl ?_
  refine KO.nil ?_
  refine KC.seq ?_
  refine KC.drawG (n := 9) (anc := [0, 1, 3, 7, 0, 16, 48, 112, 255]) (hv := [8]) (ord := [0, 1, 2, 3, 4, 5, 6, 7, 8]) (by kernel_rfl) (by kernel_rfl) (by kernel_rfl) (by kernel_rfl) (by kernel_rfl) fun H1 n2 g3 => ?_
  have m4 := m0.room n2 g3 [] (by decide) (by decide)
  refine KD.pv 1 (PV.move rfl) rfl rfl rfl (by kernel_rfl) rfl rfl rfl ?_
  refine KD.pv 3 (PV.nilCheck rfl) rfl rfl rfl (by kernel_rfl) rfl rfl rfl ?_
  refine KD.pv 7 (PV.fieldAddr fo70_5 rfl) rfl rfl rfl (by kernel_rfl) rfl rfl rfl ?_
  refine KD.load 15 rfl (m4.row0 hO.lb hr) (by rw [read1 ag68]; exact x9) (pastGo (k := 1) (l := [H1]) (by kernel_rfl) rfl (pastCons ⟨_, (m4.row0 hO.lb hr), (by rw [read1 ag68]; exact x9)⟩ pastNil)) veq_sl rfl (by kernel_rfl) rfl rfl rfl ?_
  refine KD.pv 31 (PV.move rfl) rfl rfl rfl (by kernel_rfl) rfl rfl rfl ?_
  refine KD.pv 63 (PV.nilCheck rfl) rfl rfl rfl (by kernel_rfl) rfl rfl rfl ?_
  refine KD.pv 127 (PV.fieldAddr fo70_6 rfl) rfl rfl rfl (by kernel_rfl) rfl rfl rfl ?_
  refine KD.load 255 rfl (m4.row0 hO.lb hr) (by rw [read1 ag68]; exact x10) (pastGo (k := 1) (l := [H1]) (by kernel_rfl) rfl (pastCons ⟨_, (m4.row0 hO.lb hr), (by rw [read1 ag68]; exact x10)⟩ pastNil)) veq_sl rfl (by kernel_rfl) rfl rfl rfl ?_
  refine KD.call 511 rfl rfl rfl (by kernel_rfl) rfl rfl rfl (tern_Covers H1 ya9 yn9 yc9 _ ya10 yn10 yc10 _ (V.mem m4 h_l9) (V.mem m4 h_l10)) fun v5 H5 q5 => ?_
  obtain ⟨o5, e5, hv5, mc5⟩ := q5
  dsimp only at hv5 mc5
  subst hv5
  have m6 := m4.seq mc5
  refine KD.nil ⟨rfl, ?_⟩
  refine KC.seq ?_
  refine KC.region ?_
  refine KO.pv (PV.assign rfl) rfl rfl ?_
  refine KO.nil ?_
  exact KC.ret ⟨rfl, _, (.tmp rfl .nil), call_none m6⟩
end Go.Eng

namespace Go.Eng
open Go Go.Proofs
theorem top_5 (w : Bool × Bool) (hwS : Sh.bools (.fld 0 (.num .u8) (.fld 1 (.num .u8) (.fld 2 (.fld 0 (.num .i64) (.fld 1 (.list 2 (.fld 0 (.num .i64) (.fld 1 (.num .i64) .nil))) (.fld 2 (.list 2 (.fld 0 (.num .i64) (.fld 1 (.num .i64) .nil))) (.fld 3 (.list 1 (.num .i64)) (.fld 4 (.list 1 (.num .i64)) .nil))))) (.fld 7 (.list 1 (.num .u8)) (.fld 8 (.list 1 (.num .u8)) (.fld 9 (.list 1 (.num .u8)) (.fld 10 (.list 1 (.num .u8)) .nil))))))) = true → w.1 = true) (H : AHeap) (cs : List Value) (ns : List Int) (ss : List ByteArray) (D : List Nat) (hcl : cs.length = 11) (hone : cs.all oneC = true) (hR : Rd H ⟨false, w.1, w.2⟩ (.fld 0 (.num .u8) (.fld 1 (.num .u8) (.fld 2 (.fld 0 (.num .i64) (.fld 1 (.list 2 (.fld 0 (.num .i64) (.fld 1 (.num .i64) .nil))) (.fld 2 (.list 2 (.fld 0 (.num .i64) (.fld 1 (.num .i64) .nil))) (.fld 3 (.list 1 (.num .i64)) (.fld 4 (.list 1 (.num .i64)) .nil))))) (.fld 7 (.list 1 (.num .u8)) (.fld 8 (.list 1 (.num .u8)) (.fld 9 (.list 1 (.num .u8)) (.fld 10 (.list 1 (.num .u8)) .nil))))))) cs 0 ns ss D) (hD : ∀ j ∈ D, j < H.next) (l1 : ns.length ≤ 10000000) (l2 : ss.length ≤ 10000000) :
    WF E0 5 [.agg cs.toArray] H fun q => q.1 = .bool true := by
  have hcalls : ∀ f ∈ ([37, 41, 44, 47] : List FuncId), CallOK' E0 3 9 42 f (.fld 0 (.num .u8) (.fld 1 (.num .u8) (.fld 2 (.fld 0 (.num .i64) (.fld 1 (.list 2 (.fld 0 (.num .i64) (.fld 1 (.num .i64) .nil))) (.fld 2 (.list 2 (.fld 0 (.num .i64) (.fld 1 (.num .i64) .nil))) (.fld 3 (.list 1 (.num .i64)) (.fld 4 (.list 1 (.num .i64)) .nil))))) (.fld 7 (.list 1 (.num .u8)) (.fld 8 (.list 1 (.num .u8)) (.fld 9 (.list 1 (.num .u8)) (.fld 10 (.list 1 (.num .u8)) .nil))))))) ∧ E0.ext f = none := by
    intro f hf
    simp only [List.mem_cons, List.not_mem_nil, or_false] at hf
    rcases hf with rfl | rfl | rfl | rfl
    · exact ⟨call_37, rfl⟩
    · exact ⟨call_41, rfl⟩
    · exact ⟨call_44, rfl⟩
    · exact ⟨call_47, rfl⟩
  refine WF.k Tryz.func5 rfl rfl ?_
  refine KC.seq (KC.region ?_)
  refine KO.box (rfl) ((boxAgg hone)) rfl rfl fun G0 u0 => ?_
  refine KO.pv (PV.assign rfl) rfl rfl ?_
  refine KO.nil ?_
  rw [show cellsV (.agg cs.toArray) = cs by simp [cellsV]] at u0
  have hX : G0.row H.next = some ⟨70, true, true, cs⟩ := by rw [u0.row, if_pos rfl]
  have hn0 := u0.next
  refine KC.seq (KC.region ?_)
  refine KO.loadN ag70 sz70 rfl (hX) ((takeN_of (p := cs) (by rw [List.drop_zero, ← hcl, List.take_length]) hcl)) rfl rfl ?_
  refine KO.buildSlice el82 ez79 rfl rfl (rfl) rfl rfl fun G1 u1 => ?_
  refine KO.call rfl rfl rfl rfl (apart_34 (own := 35) (see := 36) (calls := [37, 41, 44, 47]) own_35 (see_36 9) hcalls rfl rfl (by decide) G1 cs ns ss D hcl hone w hwS (hR.frame fun j hj => by have := hD j hj; rw [u1.row, if_neg (by omega), u0.row, if_neg (by omega)]) (fun j hj => by have := hD j hj; rw [u1.next]; omega) l1 l2 G0.next (by rw [u1.row, if_pos rfl]; rfl) (by rw [u1.next]; omega)) fun v2 G2 q2 => ?_
  dsimp only at q2
  subst q2
  refine KO.pv (PV.move rfl) rfl rfl ?_
  refine KO.call rfl rfl rfl rfl (WF.sum (Q := fun q => q.1 = .bool true) rfl rfl) fun v3 G3 q3 => ?_
  dsimp only at q3
  subst q3
  refine KO.pv (PV.pickT rfl rfl rfl) rfl rfl ?_
  refine KO.pv (PV.assign rfl) rfl rfl ?_
  refine KO.nil ?_
  exact KC.ret ⟨rfl, _, rfl, rfl⟩

end Go.Eng
