/- Functions of the program and of the library keep their contracts. Conditions: none beyond each theorem's own. -/
import Derived.Test.YtjmmbonjfaifnaaGreatDoorB3
import Derived.KernelRfl
set_option linter.all false
namespace Go.Eng
open Go Go.Proofs
theorem ag3_B4 : isAggT E0.P 3 = some false := by kernel_rfl
theorem sz3_B4 : sizeT E0.P 3 = some 1 := by kernel_rfl
theorem ag22_B4 : isAggT E0.P 22 = some false := by kernel_rfl
theorem el22_B4 : elemT E0.P 22 = some 3 := by kernel_rfl
theorem ez3_B4 : elemZ E0.P 3 = some (1, [.int .i64 0]) := by kernel_rfl
theorem sb3_B4 : smallBytes E0.P 3 = true := by kernel_rfl
theorem un22_B4 : E0.P.underlying 22 = some (.slice 3) := by kernel_rfl
theorem sz22_B4 : sizeT E0.P 22 = some 1 := by kernel_rfl
theorem un25_B4 : E0.P.underlying 25 = some (.slice 22) := by kernel_rfl
theorem sz24_B4 : sizeT E0.P 24 = some 3 := by kernel_rfl
theorem zt24_B4 : zeroT E0.P 24 = some [.int .i64 0, .slice none 0 0, .slice none 0 0] := by kernel_rfl
theorem bl24_0i64_1s_B4 (v0 : Int) (v1a : Option Addr) (v1n v1c : Nat) : buildA E0.P 24 [(0, .int .i64 v0), (1, .slice v1a v1n v1c)] = some (.agg #[.int .i64 v0, .slice v1a v1n v1c, .slice none 0 0]) := by kernel_rfl
theorem le_check (H : AHeap) (v : Int) (a_l : Option Addr) (n_l c_l : Nat) (v_l : List (Option Addr × Nat × Nat)) (l : List (List Int)) (a_d : Option Addr) (n_d c_d : Nat) (d : List Int) (w_v : IntKind.i64.wrap v = v) (h_l : V ES H a_l n_l c_l v_l) (i_l : VV (EI .i64) H v_l l) (h_d : V (EI .i64) H a_d n_d c_d d) : WF E0 91 [.int .i64 v, .slice a_l n_l c_l, .slice a_d n_d c_d] H fun q => ∃ (e : Int), q.1 = .int .i64 e ∧ Mem [] H q.2 [] ∧ (e = 0 → AsgOK v d [] ∧ n_l ≤ 20000) ∧ (0 ≤ e ∧ e ≤ 100) := by
  obtain ⟨lo_v, hi_v⟩ := rangei64 w_v
  obtain ⟨len_l, cap_l, max_l, wf_l⟩ := h_l.len
  have len2_l := i_l.1
  have len3_l : l.length = n_l := by omega
  obtain ⟨len_d, cap_d, max_d, wf_d⟩ := h_d.len
  have m0 : Mem [] H H [] := Mem.start
  refine WF.kg Tryz.func91 rfl rfl ?_
  refine KC.seq ?_
  refine KC.region ?_
  refine KO.pv (PV.assign rfl) rfl rfl ?_
  refine KO.nil ?_
  refine KC.seq ?_
  refine KC.seq ?_
  refine KC.region ?_
  refine KO.pv (PV.move rfl) rfl rfl ?_
  by_cases h1 : v < 0
  · refine KO.pv (PV.lssD rfl rfl (decide_eq_true h1)) rfl rfl ?_
    refine KO.pv (PV.move rfl) rfl rfl ?_
    refine KO.no rfl rfl rfl ?_
    refine KO.no rfl rfl rfl ?_
    refine KO.pv (PV.pickT rfl rfl rfl) rfl rfl ?_
    refine KO.nil ?_
    refine KC.condT rfl ?_
    refine KC.seq ?_
    refine KC.region ?_
    refine KO.pv (PV.assign rfl) rfl rfl ?_
    refine KO.nil ?_
    exact KC.ret ⟨rfl, _, (.tmp rfl .nil), 2, rfl, m0.pick [] (by decide) rfl, (by first | omega | (intro h; omega) | (simp only [List.length_nil, true_and, and_true, or_true, true_or] <;> omega) | (exact fun _ => ⟨by assumption, by omega⟩)), (by first | omega | (intro h; omega) | (simp only [List.length_nil, true_and, and_true, or_true, true_or] <;> omega))⟩
  · refine KO.pv (PV.lssD rfl rfl (decide_eq_false h1)) rfl rfl ?_
    refine KO.pv (PV.move rfl) rfl rfl ?_
    refine KO.pv (PV.move rfl) rfl rfl ?_
    refine KO.pv (PV.gtrD rfl rfl rfl) rfl rfl ?_
    refine KO.pv (PV.pickF rfl rfl rfl) rfl rfl ?_
    refine KO.nil ?_
    refine KC.condD rfl (fun h2 => ?_) (fun h2 => ?_)
    · refine KC.seq ?_
      refine KC.region ?_
      refine KO.pv (PV.assign rfl) rfl rfl ?_
      refine KO.nil ?_
      exact KC.ret ⟨rfl, _, (.tmp rfl .nil), 2, rfl, m0.pick [] (by decide) rfl, (by first | omega | (intro h; omega) | (simp only [List.length_nil, true_and, and_true, or_true, true_or] <;> omega) | (exact fun _ => ⟨by assumption, by omega⟩)), (by first | omega | (intro h; omega) | (simp only [List.length_nil, true_and, and_true, or_true, true_or] <;> omega))⟩
    · refine KC.skip ?_
      refine KC.seq ?_
      refine KC.seq ?_
      refine KC.region ?_
      refine KO.pv (PV.move rfl) rfl rfl ?_
      refine KO.pv (PV.move rfl) rfl rfl ?_
      refine KO.pv (PV.build rfl (bl24_0i64_1s_B4 _ _ _ _)) rfl rfl ?_
      refine KO.call rfl rfl rfl rfl (asg_Check H v a_d n_d c_d _ none 0 0 [] (wrap64 (by omega) (by omega)) (V.mem m0 h_d) (V.nil (fun _ h => by cases h))) fun v3 H3 q3 => ?_
      obtain ⟨e3, hv3, mc3, p3_0, p3_1⟩ := q3
      dsimp only at hv3 mc3
      subst hv3
      have m4 := m0.seq mc3
      refine KO.pv (PV.neqD rfl rfl rfl) rfl rfl ?_
      refine KO.nil ?_
      refine KC.condD rfl (fun h5 => ?_) (fun h5 => ?_)
      · refine KC.seq ?_
        refine KC.region ?_
        refine KO.pv (PV.assign rfl) rfl rfl ?_
        refine KO.nil ?_
        exact KC.ret ⟨rfl, _, (.tmp rfl .nil), 8, rfl, m4.pick [] (by decide) rfl, (by first | omega | (intro h; omega) | (simp only [List.length_nil, true_and, and_true, or_true, true_or] <;> omega) | (exact fun _ => ⟨by assumption, by omega⟩)), (by first | omega | (intro h; omega) | (simp only [List.length_nil, true_and, and_true, or_true, true_or] <;> omega))⟩
      · have p3_0t := p3_0 (by omega)
        obtain ⟨p3_0_v0, p3_0_v1, p3_0_t, p3_0_td, p3_0_s, p3_0_n, p3_0_m⟩ := id p3_0t
        refine KC.skip ?_
        refine KC.seq ?_
        refine KC.seq ?_
        refine KC.region ?_
        refine KO.pv (PV.move rfl) rfl rfl ?_
        refine KO.pv (PV.len un25_B4 rfl) rfl rfl ?_
        refine KO.pv (PV.gtrD rfl rfl rfl) rfl rfl ?_
        refine KO.nil ?_
        refine KC.condD rfl (fun h6 => ?_) (fun h6 => ?_)
        · refine KC.seq ?_
          refine KC.region ?_
          refine KO.pv (PV.assign rfl) rfl rfl ?_
          refine KO.nil ?_
          exact KC.ret ⟨rfl, _, (.tmp rfl .nil), 4, rfl, m4.pick [] (by decide) rfl, (by first | omega | (intro h; omega) | (simp only [List.length_nil, true_and, and_true, or_true, true_or] <;> omega) | (exact fun _ => ⟨by assumption, by omega⟩)), (by first | omega | (intro h; omega) | (simp only [List.length_nil, true_and, and_true, or_true, true_or] <;> omega))⟩
        · refine KC.skip ?_
          refine KC.seq ?_
          refine KC.seq ?_
          refine KC.region ?_
          refine KO.pv (PV.move rfl) rfl rfl ?_
          refine KO.pv (PV.len un25_B4 rfl) rfl rfl ?_
          refine KO.pv (PV.move rfl) rfl rfl ?_
          refine KO.nil ?_
          refine KC.block ?_
          refine KC.sub (l' := [(0, .int .i64 v), (23, .slice a_l n_l c_l), (24, .int .i64 (n_l : Int)), (25, .int .i64 0)]) (.cons rfl (.cons rfl (.cons rfl (.cons rfl .nil)))) ?_
          refine KC.loopN (fun kq lq A => ∃ (x25 : Int), kq = ((n_l : Int) - x25).toNat ∧ lq = [(0, .int .i64 v), (23, .slice a_l n_l c_l), (24, .int .i64 (n_l : Int)), (25, .int .i64 x25)] ∧ Mem [] H A [] ∧ (0 ≤ x25 ∧ x25 ≤ (n_l : Int))) ?_ (((n_l : Int) - 0).toNat) ⟨0, rfl, rfl, (m4.pick [] (by decide) rfl), (by first | omega | assumption | (constructor <;> omega))⟩
          rintro kq lq A7 ⟨x25, rfl, rfl, m8, hr8⟩
          refine KC.seq ?_
          refine KC.region ?_
          refine KO.pv (PV.lssD rfl rfl rfl) rfl rfl ?_
          refine KO.nil ?_
          refine KC.seq ?_
          refine KC.condD rfl (fun h9 => ?_) (fun h9 => ?_)
          · refine KC.skip ?_
            refine KC.seq ?_
            refine KC.block ?_
            refine KC.seq ?_
            refine KC.region ?_
            obtain ⟨b10, o10, p10, r10, e10, ha10, hb10, hr10, hx10, hw10, hc10, ht10⟩ := V.at_ h_l (z := x25) (by omega) (by omega)
            have hc10_0 : r10.cs[o10 + (x25).toNat * 1 + 0]? = some (.slice e10.1 e10.2.1 e10.2.2) := hc10 0 (by decide)
            obtain ⟨xs10, hxs10, hV10⟩ := VV.at_ i_l hx10
            obtain ⟨len10, cap10, max10, wf10⟩ := hV10.len
            refine KO.pv (PV.indexAddrZ un25_B4 sz22_B4 rfl ha10 rfl (by omega) (by omega)) rfl rfl ?_
            refine KO.load1 ag22_B4 rfl (m8.row0 hb10 hr10) hc10_0 rfl rfl ?_
            refine KO.pv (PV.assign rfl) rfl rfl ?_
            refine KO.nil ?_
            refine KC.seq ?_
            refine KC.region ?_
            refine KO.pv (PV.move rfl) rfl rfl ?_
            refine KO.pv (PV.move rfl) rfl rfl ?_
            refine KO.call rfl rfl rfl rfl (cl_Check A7 v e10.1 e10.2.1 e10.2.2 _ (wrap64 (by omega) (by omega)) (V.mem m8 hV10)) fun v11 H11 q11 => ?_
            obtain ⟨e11, hv11, mc11, p11_0, p11_1⟩ := q11
            dsimp only at hv11 mc11
            subst hv11
            have m12 := m8.seq mc11
            refine KO.pv (PV.neqD rfl rfl rfl) rfl rfl ?_
            refine KO.nil ?_
            refine KC.condD rfl (fun h13 => ?_) (fun h13 => ?_)
            · refine KC.seq ?_
              refine KC.region ?_
              refine KO.pv (PV.assign rfl) rfl rfl ?_
              refine KO.nil ?_
              exact KC.ret ⟨rfl, _, (.tmp rfl .nil), 8, rfl, m12.pick [] (by decide) rfl, (by first | omega | (intro h; omega) | (simp only [List.length_nil, true_and, and_true, or_true, true_or] <;> omega) | (exact fun _ => ⟨by assumption, by omega⟩)), (by first | omega | (intro h; omega) | (simp only [List.length_nil, true_and, and_true, or_true, true_or] <;> omega))⟩
            · have p11_0t := p11_0 (by omega)
              obtain ⟨p11_0_v0, p11_0_v1, p11_0_l, p11_0_lt, p11_0_n⟩ := id p11_0t
              refine KC.skip ?_
              refine KC.region ?_
              refine KO.pv (PV.add rfl rfl (wrap64 (by omega) (by omega))) rfl rfl ?_
              refine KO.pv (PV.move rfl) rfl rfl ?_
              refine KO.nil ?_
              exact ⟨_, _, (by omega), (.cons rfl (.cons rfl (.cons rfl (.cons rfl .nil)))), (x25 + 1), rfl, rfl, (m12.pick [] (by decide) rfl), (by first | omega | assumption | (constructor <;> omega))⟩
          · refine KC.exit ?_
            refine KC.seq ?_
            refine KC.region ?_
            refine KO.pv (PV.assign rfl) rfl rfl ?_
            refine KO.nil ?_
            exact KC.ret ⟨rfl, _, (.tmp rfl .nil), 0, rfl, m8.pick [] (by decide) rfl, (by first | omega | (intro h; omega) | (simp only [List.length_nil, true_and, and_true, or_true, true_or] <;> omega) | (exact fun _ => ⟨by assumption, by omega⟩)), (by first | omega | (intro h; omega) | (simp only [List.length_nil, true_and, and_true, or_true, true_or] <;> omega))⟩
theorem le_conflict (H : AHeap) (v : Int) (a_l : Option Addr) (n_l c_l : Nat) (v_l : List (Option Addr × Nat × Nat)) (l : List (List Int)) (a_d : Option Addr) (n_d c_d : Nat) (d : List Int) (w_v : IntKind.i64.wrap v = v) (h_l : V ES H a_l n_l c_l v_l) (i_l : VV (EI .i64) H v_l l) (h_d : V (EI .i64) H a_d n_d c_d d) : WF E0 92 [.int .i64 v, .slice a_l n_l c_l, .slice a_d n_d c_d] H fun q => ∃ (o : Bool), q.1 = .bool o ∧ Mem [] H q.2 [] := by
  obtain ⟨lo_v, hi_v⟩ := rangei64 w_v
  obtain ⟨len_l, cap_l, max_l, wf_l⟩ := h_l.len
  have len2_l := i_l.1
  have len3_l : l.length = n_l := by omega
  obtain ⟨len_d, cap_d, max_d, wf_d⟩ := h_d.len
  have m0 : Mem [] H H [] := Mem.start
  refine WF.kg Tryz.func92 rfl rfl ?_
  refine KC.seq ?_
  refine KC.region ?_
  refine KO.pv (PV.assign rfl) rfl rfl ?_
  refine KO.nil ?_
  refine KC.seq ?_
  refine KC.region ?_
  refine KO.pv (PV.move rfl) rfl rfl ?_
  refine KO.pv (PV.move rfl) rfl rfl ?_
  refine KO.pv (PV.build rfl (bl24_0i64_1s_B4 _ _ _ _)) rfl rfl ?_
  refine KO.pv (PV.move rfl) rfl rfl ?_
  refine KO.call rfl rfl rfl rfl (unit_Run H v a_d n_d c_d _ none 0 0 [] a_l n_l c_l _ _ (wrap64 (by omega) (by omega)) (V.mem m0 h_d) (V.nil (fun _ h => by cases h)) (V.mem m0 h_l) (VV.mem m0 i_l)) fun v1 H1 q1 => ?_
  obtain ⟨rv1, a11, n11, x11, D11, a21, n21, x21, D21, ix1, e1, hv1, mc1, p1_0, p1_1, p1_2, p1_3⟩ := q1
  dsimp only at hv1 mc1
  subst hv1
  have m2 := m0.seq mc1
  refine KO.pv (PV.move rfl) rfl rfl ?_
  refine KO.pv (PV.extract rfl rfl) rfl rfl ?_
  refine KO.pv (PV.extract rfl rfl) rfl rfl ?_
  refine KO.pv (PV.extract rfl rfl) rfl rfl ?_
  refine KO.allocM m2 zt24_B4 rfl rfl fun H3 m4 => ?_
  refine KO.storeM m4 (i := 0) rfl sz24_B4 rfl rfl rfl (show 0 + 3 ≤ 3 by decide) (show _ = [.int .i64 rv1, .slice a11 n11 n11, .slice a21 n21 n21] from rfl) rfl fun H5 m6 => ?_
  refine KO.pv (PV.assign rfl) rfl rfl ?_
  refine KO.pv (PV.assign rfl) rfl rfl ?_
  refine KO.nil ?_
  refine KC.seq ?_
  refine KC.region ?_
  refine KO.pv (PV.move rfl) rfl rfl ?_
  by_cases h7 : e1 = 0
  · refine KO.pv (PV.eqlD rfl rfl (decide_eq_true h7)) rfl rfl ?_
    refine KO.pv (PV.move rfl) rfl rfl ?_
    refine KO.pv (PV.move rfl) rfl rfl ?_
    refine KO.pv (PV.geqD rfl rfl rfl) rfl rfl ?_
    refine KO.pv (PV.pickT rfl rfl rfl) rfl rfl ?_
    refine KO.pv (PV.assign rfl) rfl rfl ?_
    refine KO.nil ?_
    exact KC.ret ⟨rfl, _, (.tmp rfl .nil), (decide (0 ≤ ix1)), rfl, m6.pick [] (by decide) rfl⟩
  · refine KO.pv (PV.eqlD rfl rfl (decide_eq_false h7)) rfl rfl ?_
    refine KO.pv (PV.move rfl) rfl rfl ?_
    refine KO.no rfl rfl rfl ?_
    refine KO.no rfl rfl rfl ?_
    refine KO.pv (PV.pickF rfl rfl rfl) rfl rfl ?_
    refine KO.pv (PV.assign rfl) rfl rfl ?_
    refine KO.nil ?_
    exact KC.ret ⟨rfl, _, (.tmp rfl .nil), false, rfl, m6.pick [] (by decide) rfl⟩
theorem le_Conflict (H : AHeap) (v : Int) (a_l : Option Addr) (n_l c_l : Nat) (v_l : List (Option Addr × Nat × Nat)) (l : List (List Int)) (a_d : Option Addr) (n_d c_d : Nat) (d : List Int) (w_v : IntKind.i64.wrap v = v) (h_l : V ES H a_l n_l c_l v_l) (i_l : VV (EI .i64) H v_l l) (h_d : V (EI .i64) H a_d n_d c_d d) : WF E0 38 [.int .i64 v, .slice a_l n_l c_l, .slice a_d n_d c_d] H fun q => ∃ (o : Bool) (e : Int), q.1 = .tuple #[.bool o, .int .i64 e] ∧ Mem [] H q.2 [] := by
  obtain ⟨lo_v, hi_v⟩ := rangei64 w_v
  obtain ⟨len_l, cap_l, max_l, wf_l⟩ := h_l.len
  have len2_l := i_l.1
  have len3_l : l.length = n_l := by omega
  obtain ⟨len_d, cap_d, max_d, wf_d⟩ := h_d.len
  have m0 : Mem [] H H [] := Mem.start
  refine WF.kg Tryz.func38 rfl rfl ?_
  refine KC.seq ?_
  refine KC.region ?_
  refine KO.pv (PV.assign rfl) rfl rfl ?_
  refine KO.pv (PV.assign rfl) rfl rfl ?_
  refine KO.nil ?_
  refine KC.seq ?_
  refine KC.seq ?_
  refine KC.region ?_
  refine KO.pv (PV.move rfl) rfl rfl ?_
  refine KO.pv (PV.move rfl) rfl rfl ?_
  refine KO.pv (PV.move rfl) rfl rfl ?_
  refine KO.call rfl rfl rfl rfl (le_check H v a_l n_l c_l _ _ a_d n_d c_d _ (wrap64 (by omega) (by omega)) (V.mem m0 h_l) (VV.mem m0 i_l) (V.mem m0 h_d)) fun v1 H1 q1 => ?_
  obtain ⟨e1, hv1, mc1, p1_0, p1_1⟩ := q1
  dsimp only at hv1 mc1
  subst hv1
  have m2 := m0.seq mc1
  refine KO.pv (PV.assign rfl) rfl rfl ?_
  refine KO.nil ?_
  refine KC.seq ?_
  refine KC.region ?_
  refine KO.pv (PV.move rfl) rfl rfl ?_
  refine KO.pv (PV.neqD rfl rfl rfl) rfl rfl ?_
  refine KO.nil ?_
  refine KC.condD rfl (fun h3 => ?_) (fun h3 => ?_)
  · refine KC.seq ?_
    refine KC.region ?_
    refine KO.pv (PV.move rfl) rfl rfl ?_
    refine KO.pv (PV.assign rfl) rfl rfl ?_
    refine KO.pv (PV.assign rfl) rfl rfl ?_
    refine KO.nil ?_
    exact KC.ret ⟨rfl, _, (.tmp rfl (.tmp rfl .nil)), false, e1, rfl, m2.pick [] (by decide) rfl⟩
  · have p1_0t := p1_0 (by omega)
    obtain ⟨p1_0s, p1_0u⟩ := id p1_0t
    obtain ⟨p1_0_v0, p1_0_v1, p1_0_t, p1_0_td, p1_0_s, p1_0_n, p1_0_m⟩ := id p1_0s
    refine KC.skip ?_
    refine KC.seq ?_
    refine KC.region ?_
    refine KO.pv (PV.move rfl) rfl rfl ?_
    refine KO.pv (PV.move rfl) rfl rfl ?_
    refine KO.pv (PV.move rfl) rfl rfl ?_
    refine KO.call rfl rfl rfl rfl (le_conflict H1 v a_l n_l c_l _ _ a_d n_d c_d _ (wrap64 (by omega) (by omega)) (V.mem m2 h_l) (VV.mem m2 i_l) (V.mem m2 h_d)) fun v4 H4 q4 => ?_
    obtain ⟨o4, hv4, mc4⟩ := q4
    dsimp only at hv4 mc4
    subst hv4
    have m5 := m2.seq mc4
    refine KO.pv (PV.assign rfl) rfl rfl ?_
    refine KO.pv (PV.assign rfl) rfl rfl ?_
    refine KO.nil ?_
    exact KC.ret ⟨rfl, _, (.tmp rfl (.tmp rfl .nil)), o4, 0, rfl, m5.pick [] (by decide) rfl⟩
theorem le_Clause (H : AHeap) (v : Int) (a_l : Option Addr) (n_l c_l : Nat) (v_l : List (Option Addr × Nat × Nat)) (l : List (List Int)) (a_d : Option Addr) (n_d c_d : Nat) (d : List Int) (w_v : IntKind.i64.wrap v = v) (h_l : V ES H a_l n_l c_l v_l) (i_l : VV (EI .i64) H v_l l) (h_d : V (EI .i64) H a_d n_d c_d d) : WF E0 40 [.int .i64 v, .slice a_l n_l c_l, .slice a_d n_d c_d] H fun q => ∃ (a : Option Addr) (n : Nat) (e : Int) (ys : List Int) (D : List Nat), q.1 = .tuple #[.slice a n n, .int .i64 e] ∧ Mem [] H q.2 [R.lst 3 1 a n (cells (EI .i64) ys) D] ∧ (ys.length = n ∧ n ≤ 20000) ∧ (∀ u ∈ ys, (EI .i64).wf u) := by
  obtain ⟨lo_v, hi_v⟩ := rangei64 w_v
  obtain ⟨len_l, cap_l, max_l, wf_l⟩ := h_l.len
  have len2_l := i_l.1
  have len3_l : l.length = n_l := by omega
  obtain ⟨len_d, cap_d, max_d, wf_d⟩ := h_d.len
  have m0 : Mem [] H H [] := Mem.start
  refine WF.kg Tryz.func40 rfl rfl ?_
  refine KC.seq ?_
  refine KC.region ?_
  refine KO.pv (PV.assign rfl) rfl rfl ?_
  refine KO.pv (PV.assign rfl) rfl rfl ?_
  refine KO.nil ?_
  refine KC.seq ?_
  refine KC.seq ?_
  refine KC.region ?_
  refine KO.pv (PV.move rfl) rfl rfl ?_
  refine KO.pv (PV.move rfl) rfl rfl ?_
  refine KO.pv (PV.move rfl) rfl rfl ?_
  refine KO.call rfl rfl rfl rfl (le_check H v a_l n_l c_l _ _ a_d n_d c_d _ (wrap64 (by omega) (by omega)) (V.mem m0 h_l) (VV.mem m0 i_l) (V.mem m0 h_d)) fun v1 H1 q1 => ?_
  obtain ⟨e1, hv1, mc1, p1_0, p1_1⟩ := q1
  dsimp only at hv1 mc1
  subst hv1
  have m2 := m0.seq mc1
  refine KO.pv (PV.assign rfl) rfl rfl ?_
  refine KO.nil ?_
  refine KC.seq ?_
  refine KC.region ?_
  refine KO.pv (PV.move rfl) rfl rfl ?_
  refine KO.pv (PV.neqD rfl rfl rfl) rfl rfl ?_
  refine KO.nil ?_
  refine KC.condD rfl (fun h3 => ?_) (fun h3 => ?_)
  · refine KC.seq ?_
    refine KC.region ?_
    refine KO.pv (PV.move rfl) rfl rfl ?_
    refine KO.pv (PV.assign rfl) rfl rfl ?_
    refine KO.pv (PV.assign rfl) rfl rfl ?_
    refine KO.nil ?_
    have m4 := m2.lnilC (EI .i64) (e := 3) none rfl
    exact KC.ret ⟨rfl, _, (.tmp rfl (.tmp rfl .nil)), none, 0, e1, [], [], rfl, m4.pick [0] (by decide) rfl, (by first | omega | (intro h; omega) | (simp only [List.length_nil, true_and, and_true, or_true, true_or] <;> omega) | (exact ⟨by simp, by omega⟩)), (by first | omega | (intro h; omega) | (simp only [List.length_nil, true_and, and_true, or_true, true_or] <;> omega) | exact all_nil)⟩
  · have p1_0t := p1_0 (by omega)
    obtain ⟨p1_0s, p1_0u⟩ := id p1_0t
    obtain ⟨p1_0_v0, p1_0_v1, p1_0_t, p1_0_td, p1_0_s, p1_0_n, p1_0_m⟩ := id p1_0s
    refine KC.skip ?_
    refine KC.seq ?_
    refine KC.seq ?_
    refine KC.region ?_
    refine KO.pv (PV.move rfl) rfl rfl ?_
    refine KO.pv (PV.move rfl) rfl rfl ?_
    refine KO.pv (PV.move rfl) rfl rfl ?_
    refine KO.call rfl rfl rfl rfl (le_conflict H1 v a_l n_l c_l _ _ a_d n_d c_d _ (wrap64 (by omega) (by omega)) (V.mem m2 h_l) (VV.mem m2 i_l) (V.mem m2 h_d)) fun v5 H5 q5 => ?_
    obtain ⟨o5, hv5, mc5⟩ := q5
    dsimp only at hv5 mc5
    subst hv5
    have m6 := m2.seq mc5
    rcases Bool.eq_false_or_eq_true o5 with h7 | h7
    · subst h7
      refine KO.pv (PV.notB rfl rfl) rfl rfl ?_
      refine KO.nil ?_
      refine KC.condF rfl ?_
      refine KC.skip ?_
      refine KC.seq ?_
      refine KC.region ?_
      refine KO.pv (PV.move rfl) rfl rfl ?_
      refine KO.call rfl rfl rfl rfl (Clone_int H5 a_d n_d c_d _ (V.mem m6 h_d) (by first | omega | assumption)) fun v8 H8 q8 => ?_
      obtain ⟨a8, n8, xs8, D8, hv8, mc8, p8_0, p8_1, p8_2, p8_3⟩ := q8
      dsimp only at hv8 mc8
      subst hv8
      have m9 := m6.seq mc8
      refine KO.pv (PV.assign rfl) rfl rfl ?_
      have m10 := m9.ownLst (C := (EI .i64)) (i := 0) rfl (by assumption) (by first | omega | (simp only [splice, List.length_append, List.length_set, List.length_replicate, List.length_map, List.length_take, List.length_drop, List.length_cons, List.length_nil] <;> omega))
      have hcl := p8_0
      have hd : ∀ (j k : Nat) x y, j < k → d[j]? = some x → d[k]? = some y → x ≠ y := fun j k x y hjk hx hy he => p1_0_td j k x y hjk hx hy (by rw [he])
      refine KO.nil ?_
      refine KC.seq ?_
      refine KC.seq ?_
      refine KC.region ?_
      refine KO.pv (PV.move rfl) rfl rfl ?_
      refine KO.pv (PV.len un22_B4 rfl) rfl rfl ?_
      refine KO.pv (PV.move rfl) rfl rfl ?_
      refine KO.nil ?_
      refine KC.block ?_
      refine KC.sub (l' := [(0, .int .i64 v), (1, .slice a_l n_l c_l), (9, .slice a8 n8 n8), (31, .slice a_d n_d c_d), (32, .int .i64 (n_d : Int)), (33, .int .i64 0)]) (.cons rfl (.cons rfl (.cons rfl (.cons rfl (.cons rfl (.cons rfl .nil)))))) ?_
      refine KC.loopN (fun kq lq A => ∃ (a9 : Option Addr) (n9 : Nat) (c9 : Nat) (l9 : List Int) (D9 : List Nat) (x33 : Int), kq = ((n_d : Int) - x33).toNat ∧ lq = [(0, .int .i64 v), (1, .slice a_l n_l c_l), (9, .slice a9 n9 c9), (31, .slice a_d n_d c_d), (32, .int .i64 (n_d : Int)), (33, .int .i64 x33)] ∧ Mem [] H A [R.own (EI .i64) a9 n9 c9 l9 D9] ∧ (0 ≤ x33 ∧ x33 ≤ (n_d : Int)) ∧ (l9.length = n9) ∧ (∀ u ∈ l9, (EI .i64).wf u) ∧ (∀ u ∈ l9, 2 ≤ u ∧ u / 2 ≤ v) ∧ (n9 ≤ n_d) ∧ (∀ (j : Nat) x, x33 ≤ j → d[j]? = some x → x ∈ l9)) ?_ (((n_d : Int) - 0).toNat) ⟨a8, n8, n8, xs8, D8, 0, rfl, rfl, (m10.pick [0] (by decide) rfl), (by first | omega | assumption | (constructor <;> omega)), (by first | omega | (simp only [splice, List.length_append, List.length_set, List.length_replicate, List.length_map, List.length_take, List.length_drop, List.length_cons, List.length_nil] <;> omega)), (by assumption), (fun u hu => by rw [hcl] at hu; exact p1_0_t u hu), (by first | omega | (simp only [splice, List.length_append, List.length_set, List.length_replicate, List.length_map, List.length_take, List.length_drop, List.length_cons, List.length_nil] <;> omega)), (fun j x _ hx => by rw [hcl]; exact List.mem_of_getElem? hx)⟩
      rintro kq lq A11 ⟨a9, n9, c9, l9, D9, x33, rfl, rfl, m12, hr8, hl_l9, hw_l9, hsn, hn9, hst⟩
      obtain ⟨-, hoc_l9, hob_l9, -⟩ := m12.ownLen (C := (EI .i64)) (i := 0) rfl
      refine KC.seq ?_
      refine KC.region ?_
      refine KO.pv (PV.lssD rfl rfl rfl) rfl rfl ?_
      refine KO.nil ?_
      refine KC.seq ?_
      refine KC.condD rfl (fun h13 => ?_) (fun h13 => ?_)
      · refine KC.skip ?_
        refine KC.seq ?_
        refine KC.block ?_
        refine KC.seq ?_
        refine KC.region ?_
        obtain ⟨b14, o14, p14, r14, e14, ha14, hb14, hr14, hx14, hw14, hc14, ht14⟩ := V.at_ h_d (z := x33) (by omega) (by omega)
        have hc14_0 : r14.cs[o14 + (x33).toNat * 1 + 0]? = some (.int .i64 e14) := hc14 0 (by decide)
        have hw14 : IntKind.i64.wrap e14 = e14 := hw14
        obtain ⟨lo14, hi14⟩ := rangei64 hw14
        have gp1_0_t_14 := p1_0_t _ (List.mem_of_getElem? hx14)
        refine KO.pv (PV.indexAddrZ un22_B4 sz3_B4 rfl ha14 rfl (by omega) (by omega)) rfl rfl ?_
        refine KO.load1 ag3_B4 rfl (m12.row0 hb14 hr14) hc14_0 rfl rfl ?_
        refine KO.pv (PV.assign rfl) rfl rfl ?_
        refine KO.nil ?_
        refine KC.seq ?_
        refine KC.region ?_
        refine KO.pv (PV.move rfl) rfl rfl ?_
        refine KO.pv (PV.move rfl) rfl rfl ?_
        refine KO.call rfl rfl rfl rfl (Index_int A11 a9 n9 c9 _ e14 (m12.vown (i := 0) rfl) (wrap64 (by omega) (by omega))) fun v15 H15 q15 => ?_
        obtain ⟨z15, hv15, mc15, p15_0, p15_1, p15_2⟩ := q15
        dsimp only at hv15 mc15
        subst hv15
        have m16 := m12.seq mc15
        refine KO.pv (PV.assign rfl) rfl rfl ?_
        refine KO.nil ?_
        refine KC.seq ?_
        refine KC.region ?_
        refine KO.pv (PV.move rfl) rfl rfl ?_
        refine KO.call rfl rfl rfl rfl (Clone_int H15 a9 n9 c9 _ (m16.vown (i := 0) rfl) (by first | omega | assumption)) fun v17 H17 q17 => ?_
        obtain ⟨a17, n17, xs17, D17, hv17, mc17, p17_0, p17_1, p17_2, p17_3⟩ := q17
        dsimp only at hv17 mc17
        subst hv17
        have m18 := m16.seq mc17
        refine KO.pv (PV.move rfl) rfl rfl ?_
        refine KO.pv (PV.move rfl) rfl rfl ?_
        have hz := Int.not_lt.1 fun h => p15_2 h (hst x33.toNat _ (by omega) hx14)
        refine KO.pv (PV.add rfl rfl (wrap64 (by omega) (by omega))) rfl rfl ?_
        refine KO.call rfl rfl rfl rfl (Delete_int H17 a17 n17 _ _ z15 (z15 + 1) (m18.res (i := 0) rfl) (m18.lt (i := 0) rfl) (by assumption) (wrap64 (by omega) (by omega)) (wrap64 (by omega) (by omega)) (by first | omega | assumption) (by first | omega | assumption)) fun v19 H19 q19 => ?_
        obtain ⟨k19, ys19, hv19, mc19, p19_0, p19_1, p19_2, p19_3⟩ := q19
        dsimp only at hv19 mc19
        subst hv19
        have m20 := m18.seqR (i := 0) rfl mc19
        have hdn19 : ∀ u ∈ ys19, 2 ≤ u ∧ u / 2 ≤ v := fun u hu => by have h2 := p19_1 u hu; rw [p17_0] at h2; exact hsn u h2
        refine KO.pv (PV.assign rfl) rfl rfl ?_
        refine KO.nil ?_
        refine KC.seq ?_
        refine KC.region ?_
        refine KO.pv (PV.move rfl) rfl rfl ?_
        refine KO.pv (PV.move rfl) rfl rfl ?_
        refine KO.pv (PV.move rfl) rfl rfl ?_
        refine KO.call rfl rfl rfl rfl (le_conflict H19 v a_l n_l c_l _ _ a17 k19 n17 _ (wrap64 (by omega) (by omega)) (V.mem m20 h_l) (VV.mem m20 i_l) (m20.vown (i := 0) rfl)) fun v21 H21 q21 => ?_
        obtain ⟨o21, hv21, mc21⟩ := q21
        dsimp only at hv21 mc21
        subst hv21
        have m22 := m20.seq mc21
        refine KO.nil ?_
        refine KC.cond rfl (fun h23 => ?_) (fun h23 => ?_)
        · subst h23
          refine KC.region ?_
          refine KO.pv (PV.move rfl) rfl rfl ?_
          refine KO.pv (PV.assign rfl) rfl rfl ?_
          refine KO.nil ?_
          refine KC.region ?_
          refine KO.pv (PV.add rfl rfl (wrap64 (by omega) (by omega))) rfl rfl ?_
          refine KO.pv (PV.move rfl) rfl rfl ?_
          refine KO.nil ?_
          exact ⟨_, _, (by omega), (.cons rfl (.cons rfl (.cons rfl (.cons rfl (.cons rfl (.cons rfl .nil)))))), a17, k19, n17, ys19, D17, (x33 + 1), rfl, rfl, (m22.pick [0] (by decide) rfl), (by first | omega | assumption | (constructor <;> omega)), (by first | omega | (simp only [splice, List.length_append, List.length_set, List.length_replicate, List.length_map, List.length_take, List.length_drop, List.length_cons, List.length_nil] <;> omega)), p19_2, hdn19, (by first | omega | (simp only [splice, List.length_append, List.length_set, List.length_replicate, List.length_map, List.length_take, List.length_drop, List.length_cons, List.length_nil] <;> omega)), (fun j x hj hx => p19_3 rfl x (by rw [p17_0]; exact hst j x (by omega) hx) (by rw [p17_0, p15_1 hz]; exact fun hh => hd x33.toNat j _ _ (by omega) hx14 hx (Option.some.inj hh)))⟩
        · subst h23
          refine KC.skip ?_
          refine KC.region ?_
          refine KO.pv (PV.add rfl rfl (wrap64 (by omega) (by omega))) rfl rfl ?_
          refine KO.pv (PV.move rfl) rfl rfl ?_
          refine KO.nil ?_
          exact ⟨_, _, (by omega), (.cons rfl (.cons rfl (.cons rfl (.cons rfl (.cons rfl (.cons rfl .nil)))))), a9, n9, c9, l9, D9, (x33 + 1), rfl, rfl, (m22.pick [1] (by decide) rfl), (by first | omega | assumption | (constructor <;> omega)), (by first | omega | (simp only [splice, List.length_append, List.length_set, List.length_replicate, List.length_map, List.length_take, List.length_drop, List.length_cons, List.length_nil] <;> omega)), hw_l9, hsn, (by first | omega | (simp only [splice, List.length_append, List.length_set, List.length_replicate, List.length_map, List.length_take, List.length_drop, List.length_cons, List.length_nil] <;> omega)), (fun j x hj hx => hst j x (by omega) hx)⟩
      · refine KC.exit ?_
        refine KC.seq ?_
        refine KC.region ?_
        refine KO.pv (PV.assign rfl) rfl rfl ?_
        refine KO.nil ?_
        refine KC.seq ?_
        refine KC.seq ?_
        refine KC.region ?_
        refine KO.pv (PV.move rfl) rfl rfl ?_
        refine KO.pv (PV.len un22_B4 rfl) rfl rfl ?_
        refine KO.pv (PV.move rfl) rfl rfl ?_
        refine KO.nil ?_
        refine KC.block ?_
        refine KC.sub (l' := [(14, .slice none 0 0), (52, .slice a9 n9 c9), (53, .int .i64 (n9 : Int)), (54, .int .i64 0)]) (.cons rfl (.cons rfl (.cons rfl (.cons rfl .nil)))) ?_
        have m24 := m12.lnilC (EI .i64) (e := 3) none rfl
        refine KC.loopN (fun kq lq A => ∃ (a14 : Option Addr) (n14 : Nat) (l14 : List Int) (D14 : List Nat) (x54 : Int), kq = ((n9 : Int) - x54).toNat ∧ lq = [(14, .slice a14 n14 n14), (52, .slice a9 n9 c9), (53, .int .i64 (n9 : Int)), (54, .int .i64 x54)] ∧ Mem [] H A [R.lst 3 1 a14 n14 (cells (EI .i64) l14) D14, R.own (EI .i64) a9 n9 c9 l9 D9] ∧ (0 ≤ x54 ∧ x54 ≤ (n9 : Int)) ∧ (l14.length = n14) ∧ (∀ u ∈ l14, (EI .i64).wf u) ∧ ((n14 : Int) = x54)) ?_ (((n9 : Int) - 0).toNat) ⟨none, 0, [], [], 0, rfl, rfl, (m24.pick [0, 1] (by decide) rfl), (by first | omega | assumption | (constructor <;> omega)), (by first | omega | (simp only [splice, List.length_append, List.length_set, List.length_replicate, List.length_map, List.length_take, List.length_drop, List.length_cons, List.length_nil] <;> omega)), (fun _ h => absurd h List.not_mem_nil), (by first | omega | (simp only [splice, List.length_append, List.length_set, List.length_replicate, List.length_map, List.length_take, List.length_drop, List.length_cons, List.length_nil] <;> omega))⟩
        rintro kq lq A25 ⟨a14, n14, l14, D14, x54, rfl, rfl, m26, hr17, hl_l14, hw_l14, hn14⟩
        refine KC.seq ?_
        refine KC.region ?_
        refine KO.pv (PV.lssD rfl rfl rfl) rfl rfl ?_
        refine KO.nil ?_
        refine KC.seq ?_
        refine KC.condD rfl (fun h27 => ?_) (fun h27 => ?_)
        · refine KC.skip ?_
          refine KC.seq ?_
          refine KC.block ?_
          refine KC.seq ?_
          refine KC.region ?_
          obtain ⟨b28, o28, p28, r28, e28, ha28, hb28, hr28, hx28, hw28, hc28, ht28⟩ := V.at_ (m26.vown (i := 1) rfl) (z := x54) (by omega) (by omega)
          have hc28_0 : r28.cs[o28 + (x54).toNat * 1 + 0]? = some (.int .i64 e28) := hc28 0 (by decide)
          have hw28 : IntKind.i64.wrap e28 = e28 := hw28
          obtain ⟨lo28, hi28⟩ := rangei64 hw28
          have hsn28 := hsn _ (List.mem_of_getElem? hx28)
          refine KO.pv (PV.indexAddrZ un22_B4 sz3_B4 rfl ha28 rfl (by omega) (by omega)) rfl rfl ?_
          refine KO.load1 ag3_B4 rfl hr28 hc28_0 rfl rfl ?_
          refine KO.pv (PV.assign rfl) rfl rfl ?_
          refine KO.nil ?_
          refine KC.region ?_
          refine KO.pv (PV.move rfl) rfl rfl ?_
          refine KO.pv (PV.move rfl) rfl rfl ?_
          obtain ⟨x29, dx29, rx29, zx29, qx29⟩ := xor1 (e28) (by omega) (by omega)
          refine KO.pv (PV.xor1 rfl rfl qx29) rfl rfl ?_
          refine KO.buildSliceM m26 el22_B4 ez3_B4 rfl rfl (show _ = some [.int .i64 x29] from rfl) rfl rfl fun H30 m31 => ?_
          refine KO.appendC (C := (EI .i64)) m31 (i := 1) rfl el22_B4 ez3_B4 sb3_B4 un22_B4 rfl rfl (newElems_row1 (C := (EI .i64)) (y := x29) (m31.row (i := 0) rfl) rfl) rfl (by first | omega | (simp only [splice, List.length_append, List.length_set, List.length_replicate, List.length_map, List.length_take, List.length_drop, List.length_cons, List.length_nil] <;> omega)) rfl rfl fun a33 D34 H32 m35 => ?_
          refine KO.pv (PV.assign rfl) rfl rfl ?_
          refine KO.nil ?_
          refine KC.region ?_
          refine KO.pv (PV.add rfl rfl (wrap64 (by omega) (by omega))) rfl rfl ?_
          refine KO.pv (PV.move rfl) rfl rfl ?_
          refine KO.nil ?_
          exact ⟨_, _, (by omega), (.cons rfl (.cons rfl (.cons rfl (.cons rfl .nil)))), a33, (n14 + 1), (l14 ++ [x29]), D34, (x54 + 1), rfl, rfl, (m35.pick [1, 2] (by decide) rfl), (by first | omega | assumption | (constructor <;> omega)), (by first | omega | (simp only [splice, List.length_append, List.length_set, List.length_replicate, List.length_map, List.length_take, List.length_drop, List.length_cons, List.length_nil] <;> omega)), (all_app hw_l14 (all_one (wf64 (by omega) (by omega)))), (by first | omega | (simp only [splice, List.length_append, List.length_set, List.length_replicate, List.length_map, List.length_take, List.length_drop, List.length_cons, List.length_nil] <;> omega))⟩
        · refine KC.exit ?_
          refine KC.seq ?_
          refine KC.region ?_
          refine KO.pv (PV.move rfl) rfl rfl ?_
          refine KO.call rfl rfl rfl rfl (Sort_int A25 a14 n14 _ _ (m26.res (i := 0) rfl) (m26.lt (i := 0) rfl) hw_l14 (by first | omega | assumption)) fun v36 H36 q36 => ?_
          obtain ⟨ys36, hv36, mc36, p36_0, p36_1, p36_2, p36_3⟩ := q36
          dsimp only at hv36 mc36
          subst hv36
          have m37 := m26.seqR (i := 0) rfl mc36
          refine KO.nil ?_
          refine KC.seq ?_
          refine KC.region ?_
          refine KO.pv (PV.move rfl) rfl rfl ?_
          refine KO.pv (PV.assign rfl) rfl rfl ?_
          refine KO.pv (PV.assign rfl) rfl rfl ?_
          refine KO.nil ?_
          exact KC.ret ⟨rfl, _, (.tmp rfl (.tmp rfl .nil)), a14, n14, 0, ys36, D14, rfl, m37.pick [0] (by decide) rfl, (by first | omega | (intro h; omega) | (simp only [List.length_nil, true_and, and_true, or_true, true_or] <;> omega) | (exact ⟨by simp, by omega⟩)), (by first | omega | (intro h; omega) | (simp only [List.length_nil, true_and, and_true, or_true, true_or] <;> omega) | exact all_nil)⟩
    · subst h7
      refine KO.pv (PV.notB rfl rfl) rfl rfl ?_
      refine KO.nil ?_
      refine KC.condT rfl ?_
      refine KC.seq ?_
      refine KC.region ?_
      refine KO.pv (PV.assign rfl) rfl rfl ?_
      refine KO.pv (PV.assign rfl) rfl rfl ?_
      refine KO.nil ?_
      have m38 := m6.lnilC (EI .i64) (e := 3) none rfl
      exact KC.ret ⟨rfl, _, (.tmp rfl (.tmp rfl .nil)), none, 0, 6, [], [], rfl, m38.pick [0] (by decide) rfl, (by first | omega | (intro h; omega) | (simp only [List.length_nil, true_and, and_true, or_true, true_or] <;> omega) | (exact ⟨by simp, by omega⟩)), (by first | omega | (intro h; omega) | (simp only [List.length_nil, true_and, and_true, or_true, true_or] <;> omega) | exact all_nil)⟩
end Go.Eng
