/- Functions of the program and of the library keep their contracts. Conditions: none beyond each theorem's own. -/
import Derived.Test.YtjmmbonjfaifnaaGreatDoorUnrollB5
import Derived.Test.YtjmmbonjfaifnaaGreatDoorUnrollB3
import Derived.KernelRfl
set_option linter.all false
namespace Go.Eng
open Go Go.Proofs
theorem ag3_B8 : isAggT E0.P 3 = some false := by kernel_rfl
theorem sz3_B8 : sizeT E0.P 3 = some 1 := by kernel_rfl
theorem ag22_B8 : isAggT E0.P 22 = some false := by kernel_rfl
theorem un22_B8 : E0.P.underlying 22 = some (.slice 3) := by kernel_rfl
theorem sz22_B8 : sizeT E0.P 22 = some 1 := by kernel_rfl
theorem un25_B8 : E0.P.underlying 25 = some (.slice 22) := by kernel_rfl
theorem ag25_B8 : isAggT E0.P 25 = some false := by kernel_rfl
theorem fo82_0_B8 : foff E0.P 82 0 = some 0 := by kernel_rfl
theorem fo82_2_B8 : foff E0.P 82 2 = some 2 := by kernel_rfl
theorem fo82_1_B8 : foff E0.P 82 1 = some 1 := by kernel_rfl
theorem ts_Check (H : AHeap) (xv : Int) (a_xL : Option Addr) (n_xL c_xL : Nat) (v_xL : List (Option Addr × Nat × Nat)) (xL : List (List Int)) (a_xC : Option Addr) (n_xC c_xC : Nat) (v_xC : List (Option Addr × Nat × Nat)) (xC : List (List Int)) (w_xv : IntKind.i64.wrap xv = xv) (h_xL : V ES H a_xL n_xL c_xL v_xL) (i_xL : VV (EI .i64) H v_xL xL) (h_xC : V ES H a_xC n_xC c_xC v_xC) (i_xC : VV (EI .i64) H v_xC xC) : WF E0 50 [.agg #[.int .i64 xv, .slice a_xL n_xL c_xL, .slice a_xC n_xC c_xC]] H fun q => ∃ (e : Int), q.1 = .int .i64 e ∧ Mem [] H q.2 [] ∧ (0 ≤ e ∧ e ≤ 100) ∧ (e = 0 → (∀ c ∈ xL, ∀ u ∈ c, -1 ≤ u ∧ u ≤ 2 * xv + 1) ∧ 0 ≤ xv ∧ xv ≤ 4000) := by
  obtain ⟨lo_xv, hi_xv⟩ := rangei64 w_xv
  obtain ⟨len_xL, cap_xL, max_xL, wf_xL⟩ := h_xL.len
  have len2_xL := i_xL.1
  have len3_xL : xL.length = n_xL := by omega
  obtain ⟨len_xC, cap_xC, max_xC, wf_xC⟩ := h_xC.len
  have len2_xC := i_xC.1
  have len3_xC : xC.length = n_xC := by omega
  have m0 : Mem [] H H [] := Mem.start
  refine WF.kg Tryz.func50 rfl rfl ?_
  refine KC.seq ?_
  refine KC.region ?_
  refine KO.boxM m0 rfl rfl (show _ = [.int .i64 xv, .slice a_xL n_xL c_xL, .slice a_xC n_xC c_xC] from rfl) rfl rfl fun H1 m2 => ?_
  refine KO.pv (PV.assign rfl) rfl rfl ?_
  refine KO.nil ?_
  refine KC.seq ?_
  refine KC.seq ?_
  refine KC.region ?_
  refine KO.pv (PV.fieldAddr fo82_2_B8 rfl) rfl rfl ?_
  refine KO.load1 ag25_B8 rfl (m2.row (i := 0) rfl) rfl rfl rfl ?_
  refine KO.pv (PV.len un25_B8 rfl) rfl rfl ?_
  refine KO.pv (PV.gtrD rfl rfl rfl) rfl rfl ?_
  refine KO.nil ?_
  refine KC.condD rfl (fun h3 => ?_) (fun h3 => ?_)
  · refine KC.seq ?_
    refine KC.region ?_
    refine KO.pv (PV.assign rfl) rfl rfl ?_
    refine KO.nil ?_
    exact KC.ret ⟨rfl, _, (.tmp rfl .nil), 4, rfl, m2.pick [] (by decide) rfl, (by first | omega | (intro h; omega) | (simp only [List.length_nil, true_and, and_true, or_true, true_or] <;> omega)), (by first | omega | (intro h; omega) | (simp only [List.length_nil, true_and, and_true, or_true, true_or] <;> omega) | (exact fun _ => ⟨hkl, by omega, by omega⟩))⟩
  · refine KC.skip ?_
    refine KC.seq ?_
    refine KC.seq ?_
    refine KC.region ?_
    refine KO.pv (PV.fieldAddr fo82_0_B8 rfl) rfl rfl ?_
    refine KO.load1 ag3_B8 rfl (m2.row (i := 0) rfl) rfl rfl rfl ?_
    by_cases h4 : xv < 0
    · refine KO.pv (PV.lssD rfl rfl (decide_eq_true h4)) rfl rfl ?_
      refine KO.pv (PV.move rfl) rfl rfl ?_
      refine KO.no rfl rfl rfl ?_
      refine KO.no rfl rfl rfl ?_
      refine KO.no rfl rfl rfl ?_
      refine KO.pv (PV.pickT rfl rfl rfl) rfl rfl ?_
      refine KO.nil ?_
      refine KC.condT rfl ?_
      refine KC.seq ?_
      refine KC.region ?_
      refine KO.pv (PV.assign rfl) rfl rfl ?_
      refine KO.nil ?_
      exact KC.ret ⟨rfl, _, (.tmp rfl .nil), 8, rfl, m2.pick [] (by decide) rfl, (by first | omega | (intro h; omega) | (simp only [List.length_nil, true_and, and_true, or_true, true_or] <;> omega)), (by first | omega | (intro h; omega) | (simp only [List.length_nil, true_and, and_true, or_true, true_or] <;> omega) | (exact fun _ => ⟨hkl, by omega, by omega⟩))⟩
    · refine KO.pv (PV.lssD rfl rfl (decide_eq_false h4)) rfl rfl ?_
      refine KO.pv (PV.move rfl) rfl rfl ?_
      refine KO.pv (PV.fieldAddr fo82_0_B8 rfl) rfl rfl ?_
      refine KO.load1 ag3_B8 rfl (m2.row (i := 0) rfl) rfl rfl rfl ?_
      refine KO.pv (PV.gtrD rfl rfl rfl) rfl rfl ?_
      refine KO.pv (PV.pickF rfl rfl rfl) rfl rfl ?_
      refine KO.nil ?_
      refine KC.condD rfl (fun h5 => ?_) (fun h5 => ?_)
      · refine KC.seq ?_
        refine KC.region ?_
        refine KO.pv (PV.assign rfl) rfl rfl ?_
        refine KO.nil ?_
        exact KC.ret ⟨rfl, _, (.tmp rfl .nil), 8, rfl, m2.pick [] (by decide) rfl, (by first | omega | (intro h; omega) | (simp only [List.length_nil, true_and, and_true, or_true, true_or] <;> omega)), (by first | omega | (intro h; omega) | (simp only [List.length_nil, true_and, and_true, or_true, true_or] <;> omega) | (exact fun _ => ⟨hkl, by omega, by omega⟩))⟩
      · refine KC.skip ?_
        refine KC.seq ?_
        refine KC.seq ?_
        refine KC.region ?_
        refine KO.pv (PV.fieldAddr fo82_1_B8 rfl) rfl rfl ?_
        refine KO.load1 ag25_B8 rfl (m2.row (i := 0) rfl) rfl rfl rfl ?_
        refine KO.pv (PV.len un25_B8 rfl) rfl rfl ?_
        refine KO.pv (PV.move rfl) rfl rfl ?_
        refine KO.nil ?_
        refine KC.block ?_
        refine KC.sub (l' := [(1, .pointer (some ⟨H.next, 0, none⟩)), (22, .slice a_xL n_xL c_xL), (23, .int .i64 (n_xL : Int)), (24, .int .i64 0)]) (.cons rfl (.cons rfl (.cons rfl (.cons rfl .nil)))) ?_
        refine KC.loopN (fun kq lq A => ∃ (x24 : Int), kq = ((n_xL : Int) - x24).toNat ∧ lq = [(1, .pointer (some ⟨H.next, 0, none⟩)), (22, .slice a_xL n_xL c_xL), (23, .int .i64 (n_xL : Int)), (24, .int .i64 x24)] ∧ Mem [] H A [R.row H.next 82 true [.int .i64 xv, .slice a_xL n_xL c_xL, .slice a_xC n_xC c_xC]] ∧ (0 ≤ x24 ∧ x24 ≤ (n_xL : Int)) ∧ (Ahead xL x24 fun _ c => ∀ u ∈ c, -1 ≤ u ∧ u ≤ 2 * xv + 1)) ?_ (((n_xL : Int) - 0).toNat) ⟨0, rfl, rfl, (m2.pick [0] (by decide) rfl), (by first | omega | assumption | (constructor <;> omega)), Ahead.zero⟩
        rintro kq lq A6 ⟨x24, rfl, rfl, m7, hr6, hrows⟩
        refine KC.seq ?_
        refine KC.region ?_
        refine KO.pv (PV.lssD rfl rfl rfl) rfl rfl ?_
        refine KO.nil ?_
        refine KC.seq ?_
        refine KC.condD rfl (fun h8 => ?_) (fun h8 => ?_)
        · refine KC.skip ?_
          refine KC.seq ?_
          refine KC.block ?_
          refine KC.seq ?_
          refine KC.region ?_
          obtain ⟨b9, o9, p9, r9, e9, ha9, hb9, hr9, hx9, hw9, hc9, ht9⟩ := V.at_ h_xL (z := x24) (by omega) (by omega)
          have hc9_0 : r9.cs[o9 + (x24).toNat * 1 + 0]? = some (.slice e9.1 e9.2.1 e9.2.2) := hc9 0 (by decide)
          obtain ⟨xs9, hxs9, hV9⟩ := VV.at_ i_xL hx9
          obtain ⟨len9, cap9, max9, wf9⟩ := hV9.len
          refine KO.pv (PV.indexAddrZ un25_B8 sz22_B8 rfl ha9 rfl (by omega) (by omega)) rfl rfl ?_
          refine KO.load1 ag22_B8 rfl (m7.row0 hb9 hr9) hc9_0 rfl rfl ?_
          refine KO.pv (PV.assign rfl) rfl rfl ?_
          refine KO.nil ?_
          refine KC.seq ?_
          refine KC.seq ?_
          refine KC.region ?_
          refine KO.pv (PV.move rfl) rfl rfl ?_
          refine KO.pv (PV.len un22_B8 rfl) rfl rfl ?_
          by_cases h10 : (e9.2.1 : Int) = 0
          · refine KO.pv (PV.eqlD rfl rfl (decide_eq_true h10)) rfl rfl ?_
            refine KO.pv (PV.move rfl) rfl rfl ?_
            refine KO.no rfl rfl rfl ?_
            refine KO.no rfl rfl rfl ?_
            refine KO.no rfl rfl rfl ?_
            refine KO.no rfl rfl rfl ?_
            refine KO.no rfl rfl rfl ?_
            refine KO.no rfl rfl rfl ?_
            refine KO.no rfl rfl rfl ?_
            refine KO.no rfl rfl rfl ?_
            refine KO.pv (PV.pickT rfl rfl rfl) rfl rfl ?_
            refine KO.pv (PV.move rfl) rfl rfl ?_
            refine KO.no rfl rfl rfl ?_
            refine KO.no rfl rfl rfl ?_
            refine KO.no rfl rfl rfl ?_
            refine KO.no rfl rfl rfl ?_
            refine KO.pv (PV.pickT rfl rfl rfl) rfl rfl ?_
            refine KO.nil ?_
            refine KC.condT rfl ?_
            refine KC.seq ?_
            refine KC.region ?_
            refine KO.pv (PV.assign rfl) rfl rfl ?_
            refine KO.nil ?_
            exact KC.ret ⟨rfl, _, (.tmp rfl .nil), 8, rfl, m7.pick [] (by decide) rfl, (by first | omega | (intro h; omega) | (simp only [List.length_nil, true_and, and_true, or_true, true_or] <;> omega)), (by first | omega | (intro h; omega) | (simp only [List.length_nil, true_and, and_true, or_true, true_or] <;> omega) | (exact fun _ => ⟨hkl, by omega, by omega⟩))⟩
          · refine KO.pv (PV.eqlD rfl rfl (decide_eq_false h10)) rfl rfl ?_
            refine KO.pv (PV.move rfl) rfl rfl ?_
            refine KO.pv (PV.move rfl) rfl rfl ?_
            refine KO.pv (PV.len un22_B8 rfl) rfl rfl ?_
            refine KO.pv (PV.fieldAddr fo82_1_B8 rfl) rfl rfl ?_
            refine KO.load1 ag25_B8 rfl (m7.row (i := 0) rfl) rfl rfl rfl ?_
            obtain ⟨b11, o11, p11, r11, e11, ha11, hb11, hr11, hx11, hw11, hc11, ht11⟩ := V.at_ h_xL (z := (0 : Int)) (by omega) (by omega)
            have hc11_0 : r11.cs[o11 + ((0 : Int)).toNat * 1 + 0]? = some (.slice e11.1 e11.2.1 e11.2.2) := hc11 0 (by decide)
            obtain ⟨xs11, hxs11, hV11⟩ := VV.at_ i_xL hx11
            obtain ⟨len11, cap11, max11, wf11⟩ := hV11.len
            refine KO.pv (PV.indexAddrZ un25_B8 sz22_B8 rfl ha11 rfl (by omega) (by omega)) rfl rfl ?_
            refine KO.load1 ag22_B8 rfl (m7.row0 hb11 hr11) hc11_0 rfl rfl ?_
            refine KO.pv (PV.len un22_B8 rfl) rfl rfl ?_
            by_cases h12 : (e9.2.1 : Int) ≠ (e11.2.1 : Int)
            · refine KO.pv (PV.neqD rfl rfl (decide_eq_true h12)) rfl rfl ?_
              refine KO.pv (PV.pickF rfl rfl rfl) rfl rfl ?_
              refine KO.pv (PV.move rfl) rfl rfl ?_
              refine KO.no rfl rfl rfl ?_
              refine KO.no rfl rfl rfl ?_
              refine KO.no rfl rfl rfl ?_
              refine KO.no rfl rfl rfl ?_
              refine KO.pv (PV.pickT rfl rfl rfl) rfl rfl ?_
              refine KO.nil ?_
              refine KC.condT rfl ?_
              refine KC.seq ?_
              refine KC.region ?_
              refine KO.pv (PV.assign rfl) rfl rfl ?_
              refine KO.nil ?_
              exact KC.ret ⟨rfl, _, (.tmp rfl .nil), 8, rfl, m7.pick [] (by decide) rfl, (by first | omega | (intro h; omega) | (simp only [List.length_nil, true_and, and_true, or_true, true_or] <;> omega)), (by first | omega | (intro h; omega) | (simp only [List.length_nil, true_and, and_true, or_true, true_or] <;> omega) | (exact fun _ => ⟨hkl, by omega, by omega⟩))⟩
            · refine KO.pv (PV.neqD rfl rfl (decide_eq_false h12)) rfl rfl ?_
              refine KO.pv (PV.pickF rfl rfl rfl) rfl rfl ?_
              refine KO.pv (PV.move rfl) rfl rfl ?_
              refine KO.pv (PV.move rfl) rfl rfl ?_
              obtain ⟨b13, o13, p13, r13, e13, ha13, hb13, hr13, hx13, hw13, hc13, ht13⟩ := V.at_ hV9 (z := (0 : Int)) (by omega) (by omega)
              have hc13_0 : r13.cs[o13 + ((0 : Int)).toNat * 1 + 0]? = some (.int .i64 e13) := hc13 0 (by decide)
              have hw13 : IntKind.i64.wrap e13 = e13 := hw13
              obtain ⟨lo13, hi13⟩ := rangei64 hw13
              refine KO.pv (PV.indexAddrZ un22_B8 sz3_B8 rfl ha13 rfl (by omega) (by omega)) rfl rfl ?_
              refine KO.load1 ag3_B8 rfl (m7.row0 hb13 hr13) hc13_0 rfl rfl ?_
              refine KO.pv (PV.neqD rfl rfl rfl) rfl rfl ?_
              refine KO.pv (PV.pickF rfl rfl rfl) rfl rfl ?_
              refine KO.nil ?_
              refine KC.condD rfl (fun h14 => ?_) (fun h14 => ?_)
              · refine KC.seq ?_
                refine KC.region ?_
                refine KO.pv (PV.assign rfl) rfl rfl ?_
                refine KO.nil ?_
                exact KC.ret ⟨rfl, _, (.tmp rfl .nil), 8, rfl, m7.pick [] (by decide) rfl, (by first | omega | (intro h; omega) | (simp only [List.length_nil, true_and, and_true, or_true, true_or] <;> omega)), (by first | omega | (intro h; omega) | (simp only [List.length_nil, true_and, and_true, or_true, true_or] <;> omega) | (exact fun _ => ⟨hkl, by omega, by omega⟩))⟩
              · refine KC.skip ?_
                refine KC.seq ?_
                refine KC.region ?_
                refine KO.pv (PV.move rfl) rfl rfl ?_
                refine KO.pv (PV.len un22_B8 rfl) rfl rfl ?_
                refine KO.pv (PV.move rfl) rfl rfl ?_
                refine KO.nil ?_
                refine KC.block ?_
                refine KC.sub (l' := [(1, .pointer (some ⟨H.next, 0, none⟩)), (22, .slice a_xL n_xL c_xL), (23, .int .i64 (n_xL : Int)), (24, .int .i64 x24), (32, .slice e9.1 e9.2.1 e9.2.2), (33, .int .i64 (e9.2.1 : Int)), (34, .pointer (some ⟨H.next, 1, none⟩)), (35, .slice a_xL n_xL c_xL), (36, .pointer (some ⟨b11, o11 + ((0 : Int)).toNat * 1, none⟩)), (37, .slice e11.1 e11.2.1 e11.2.2), (38, .int .i64 (e11.2.1 : Int)), (39, .bool false), (42, .slice e9.1 e9.2.1 e9.2.2), (43, .pointer (some ⟨b13, o13 + ((0 : Int)).toNat * 1, none⟩)), (44, .int .i64 e13), (45, .bool (decide (e13 ≠ 0))), (47, .slice e9.1 e9.2.1 e9.2.2), (48, .int .i64 (e9.2.1 : Int)), (49, .int .i64 0)]) (.cons rfl (.cons rfl (.cons rfl (.cons rfl (.cons rfl (.cons rfl (.cons rfl (.cons rfl (.cons rfl (.cons rfl (.cons rfl (.cons rfl (.cons rfl (.cons rfl (.cons rfl (.cons rfl (.cons rfl (.cons rfl (.cons rfl .nil))))))))))))))))))) ?_
                refine KC.loopN (fun kq lq A => ∃ (x49 : Int), kq = ((e9.2.1 : Int) - x49).toNat ∧ lq = [(1, .pointer (some ⟨H.next, 0, none⟩)), (22, .slice a_xL n_xL c_xL), (23, .int .i64 (n_xL : Int)), (24, .int .i64 x24), (32, .slice e9.1 e9.2.1 e9.2.2), (33, .int .i64 (e9.2.1 : Int)), (34, .pointer (some ⟨H.next, 1, none⟩)), (35, .slice a_xL n_xL c_xL), (36, .pointer (some ⟨b11, o11 + ((0 : Int)).toNat * 1, none⟩)), (37, .slice e11.1 e11.2.1 e11.2.2), (38, .int .i64 (e11.2.1 : Int)), (39, .bool false), (42, .slice e9.1 e9.2.1 e9.2.2), (43, .pointer (some ⟨b13, o13 + ((0 : Int)).toNat * 1, none⟩)), (44, .int .i64 e13), (45, .bool (decide (e13 ≠ 0))), (47, .slice e9.1 e9.2.1 e9.2.2), (48, .int .i64 (e9.2.1 : Int)), (49, .int .i64 x49)] ∧ Mem [] H A [R.row H.next 82 true [.int .i64 xv, .slice a_xL n_xL c_xL, .slice a_xC n_xC c_xC]] ∧ (0 ≤ x49 ∧ x49 ≤ (e9.2.1 : Int)) ∧ (Ahead xs9 x49 fun _ u => -1 ≤ u ∧ u ≤ 2 * xv + 1)) ?_ (((e9.2.1 : Int) - 0).toNat) ⟨0, rfl, rfl, (m7.pick [0] (by decide) rfl), (by first | omega | assumption | (constructor <;> omega)), Ahead.zero⟩
                rintro kq lq A15 ⟨x49, rfl, rfl, m16, hr11, hrow⟩
                refine KC.seq ?_
                refine KC.region ?_
                refine KO.pv (PV.lssD rfl rfl rfl) rfl rfl ?_
                refine KO.nil ?_
                refine KC.seq ?_
                refine KC.condD rfl (fun h17 => ?_) (fun h17 => ?_)
                · refine KC.skip ?_
                  refine KC.seq ?_
                  refine KC.block ?_
                  refine KC.seq ?_
                  refine KC.region ?_
                  obtain ⟨b18, o18, p18, r18, e18, ha18, hb18, hr18, hx18, hw18, hc18, ht18⟩ := V.at_ hV9 (z := x49) (by omega) (by omega)
                  have hc18_0 : r18.cs[o18 + (x49).toNat * 1 + 0]? = some (.int .i64 e18) := hc18 0 (by decide)
                  have hw18 : IntKind.i64.wrap e18 = e18 := hw18
                  obtain ⟨lo18, hi18⟩ := rangei64 hw18
                  refine KO.pv (PV.indexAddrZ un22_B8 sz3_B8 rfl ha18 rfl (by omega) (by omega)) rfl rfl ?_
                  refine KO.load1 ag3_B8 rfl (m16.row0 hb18 hr18) hc18_0 rfl rfl ?_
                  refine KO.pv (PV.assign rfl) rfl rfl ?_
                  refine KO.nil ?_
                  refine KC.seq ?_
                  refine KC.region ?_
                  refine KO.pv (PV.move rfl) rfl rfl ?_
                  by_cases h19 : e18 < (-1)
                  · refine KO.pv (PV.lssD rfl rfl (decide_eq_true h19)) rfl rfl ?_
                    refine KO.pv (PV.move rfl) rfl rfl ?_
                    refine KO.no rfl rfl rfl ?_
                    refine KO.no rfl rfl rfl ?_
                    refine KO.no rfl rfl rfl ?_
                    refine KO.no rfl rfl rfl ?_
                    refine KO.no rfl rfl rfl ?_
                    refine KO.no rfl rfl rfl ?_
                    refine KO.pv (PV.pickT rfl rfl rfl) rfl rfl ?_
                    refine KO.nil ?_
                    refine KC.condT rfl ?_
                    refine KC.seq ?_
                    refine KC.region ?_
                    refine KO.pv (PV.assign rfl) rfl rfl ?_
                    refine KO.nil ?_
                    exact KC.ret ⟨rfl, _, (.tmp rfl .nil), 8, rfl, m16.pick [] (by decide) rfl, (by first | omega | (intro h; omega) | (simp only [List.length_nil, true_and, and_true, or_true, true_or] <;> omega)), (by first | omega | (intro h; omega) | (simp only [List.length_nil, true_and, and_true, or_true, true_or] <;> omega) | (exact fun _ => ⟨hkl, by omega, by omega⟩))⟩
                  · refine KO.pv (PV.lssD rfl rfl (decide_eq_false h19)) rfl rfl ?_
                    refine KO.pv (PV.move rfl) rfl rfl ?_
                    refine KO.pv (PV.move rfl) rfl rfl ?_
                    refine KO.pv (PV.fieldAddr fo82_0_B8 rfl) rfl rfl ?_
                    refine KO.load1 ag3_B8 rfl (m16.row (i := 0) rfl) rfl rfl rfl ?_
                    refine KO.pv (PV.mul rfl rfl (wrap64 (by omega) (by omega))) rfl rfl ?_
                    refine KO.pv (PV.add rfl rfl (wrap64 (by omega) (by omega))) rfl rfl ?_
                    refine KO.pv (PV.gtrD rfl rfl rfl) rfl rfl ?_
                    refine KO.pv (PV.pickF rfl rfl rfl) rfl rfl ?_
                    refine KO.nil ?_
                    refine KC.condD rfl (fun h20 => ?_) (fun h20 => ?_)
                    · refine KC.seq ?_
                      refine KC.region ?_
                      refine KO.pv (PV.assign rfl) rfl rfl ?_
                      refine KO.nil ?_
                      exact KC.ret ⟨rfl, _, (.tmp rfl .nil), 8, rfl, m16.pick [] (by decide) rfl, (by first | omega | (intro h; omega) | (simp only [List.length_nil, true_and, and_true, or_true, true_or] <;> omega)), (by first | omega | (intro h; omega) | (simp only [List.length_nil, true_and, and_true, or_true, true_or] <;> omega) | (exact fun _ => ⟨hkl, by omega, by omega⟩))⟩
                    · refine KC.skip ?_
                      refine KC.region ?_
                      refine KO.pv (PV.add rfl rfl (wrap64 (by omega) (by omega))) rfl rfl ?_
                      refine KO.pv (PV.move rfl) rfl rfl ?_
                      refine KO.nil ?_
                      exact ⟨_, _, (by omega), (.cons rfl (.cons rfl (.cons rfl (.cons rfl (.cons rfl (.cons rfl (.cons rfl (.cons rfl (.cons rfl (.cons rfl (.cons rfl (.cons rfl (.cons rfl (.cons rfl (.cons rfl (.cons rfl (.cons rfl (.cons rfl (.cons rfl .nil))))))))))))))))))), (x49 + 1), rfl, rfl, (m16.pick [0] (by decide) rfl), (by first | omega | assumption | (constructor <;> omega)), (hrow.step (by assumption) (by omega) (by constructor <;> omega))⟩
                · refine KC.exit ?_
                  have hkr := hrow.mem len9 (by omega)
                  refine KC.region ?_
                  refine KO.pv (PV.add rfl rfl (wrap64 (by omega) (by omega))) rfl rfl ?_
                  refine KO.pv (PV.move rfl) rfl rfl ?_
                  refine KO.nil ?_
                  exact ⟨_, _, (by omega), (.cons rfl (.cons rfl (.cons rfl (.cons rfl .nil)))), (x24 + 1), rfl, rfl, (m16.pick [0] (by decide) rfl), (by first | omega | assumption | (constructor <;> omega)), (hrows.step hxs9 (by omega) hkr)⟩
        · refine KC.exit ?_
          have hkl := hrows.mem len3_xL (by omega)
          refine KC.seq ?_
          refine KC.seq ?_
          refine KC.region ?_
          refine KO.pv (PV.fieldAddr fo82_2_B8 rfl) rfl rfl ?_
          refine KO.load1 ag25_B8 rfl (m7.row (i := 0) rfl) rfl rfl rfl ?_
          refine KO.pv (PV.len un25_B8 rfl) rfl rfl ?_
          refine KO.pv (PV.move rfl) rfl rfl ?_
          refine KO.nil ?_
          refine KC.block ?_
          refine KC.sub (l' := [(1, .pointer (some ⟨H.next, 0, none⟩)), (66, .slice a_xC n_xC c_xC), (67, .int .i64 (n_xC : Int)), (68, .int .i64 0)]) (.cons rfl (.cons rfl (.cons rfl (.cons rfl .nil)))) ?_
          refine KC.loopN (fun kq lq A => ∃ (x68 : Int), kq = ((n_xC : Int) - x68).toNat ∧ lq = [(1, .pointer (some ⟨H.next, 0, none⟩)), (66, .slice a_xC n_xC c_xC), (67, .int .i64 (n_xC : Int)), (68, .int .i64 x68)] ∧ Mem [] H A [R.row H.next 82 true [.int .i64 xv, .slice a_xL n_xL c_xL, .slice a_xC n_xC c_xC]] ∧ (0 ≤ x68 ∧ x68 ≤ (n_xC : Int))) ?_ (((n_xC : Int) - 0).toNat) ⟨0, rfl, rfl, (m7.pick [0] (by decide) rfl), (by first | omega | assumption | (constructor <;> omega))⟩
          rintro kq lq A21 ⟨x68, rfl, rfl, m22, hr18⟩
          refine KC.seq ?_
          refine KC.region ?_
          refine KO.pv (PV.lssD rfl rfl rfl) rfl rfl ?_
          refine KO.nil ?_
          refine KC.seq ?_
          refine KC.condD rfl (fun h23 => ?_) (fun h23 => ?_)
          · refine KC.skip ?_
            refine KC.seq ?_
            refine KC.block ?_
            refine KC.seq ?_
            refine KC.region ?_
            obtain ⟨b24, o24, p24, r24, e24, ha24, hb24, hr24, hx24, hw24, hc24, ht24⟩ := V.at_ h_xC (z := x68) (by omega) (by omega)
            have hc24_0 : r24.cs[o24 + (x68).toNat * 1 + 0]? = some (.slice e24.1 e24.2.1 e24.2.2) := hc24 0 (by decide)
            obtain ⟨xs24, hxs24, hV24⟩ := VV.at_ i_xC hx24
            obtain ⟨len24, cap24, max24, wf24⟩ := hV24.len
            refine KO.pv (PV.indexAddrZ un25_B8 sz22_B8 rfl ha24 rfl (by omega) (by omega)) rfl rfl ?_
            refine KO.load1 ag22_B8 rfl (m22.row0 hb24 hr24) hc24_0 rfl rfl ?_
            refine KO.pv (PV.assign rfl) rfl rfl ?_
            refine KO.nil ?_
            refine KC.seq ?_
            refine KC.region ?_
            refine KO.pv (PV.fieldAddr fo82_0_B8 rfl) rfl rfl ?_
            refine KO.load1 ag3_B8 rfl (m22.row (i := 0) rfl) rfl rfl rfl ?_
            refine KO.pv (PV.move rfl) rfl rfl ?_
            refine KO.call rfl rfl rfl rfl (cl_Check A21 xv e24.1 e24.2.1 e24.2.2 _ (wrap64 (by omega) (by omega)) (V.mem m22 hV24)) fun v25 H25 q25 => ?_
            obtain ⟨e25, hv25, mc25, p25_0, p25_1⟩ := q25
            dsimp only at hv25 mc25
            subst hv25
            have m26 := m22.seq mc25
            refine KO.pv (PV.neqD rfl rfl rfl) rfl rfl ?_
            refine KO.nil ?_
            refine KC.condD rfl (fun h27 => ?_) (fun h27 => ?_)
            · refine KC.seq ?_
              refine KC.region ?_
              refine KO.pv (PV.assign rfl) rfl rfl ?_
              refine KO.nil ?_
              exact KC.ret ⟨rfl, _, (.tmp rfl .nil), 8, rfl, m26.pick [] (by decide) rfl, (by first | omega | (intro h; omega) | (simp only [List.length_nil, true_and, and_true, or_true, true_or] <;> omega)), (by first | omega | (intro h; omega) | (simp only [List.length_nil, true_and, and_true, or_true, true_or] <;> omega) | (exact fun _ => ⟨hkl, by omega, by omega⟩))⟩
            · have p25_0t := p25_0 (by omega)
              obtain ⟨p25_0_v0, p25_0_v1, p25_0_l, p25_0_lt, p25_0_n⟩ := id p25_0t
              refine KC.skip ?_
              refine KC.region ?_
              refine KO.pv (PV.add rfl rfl (wrap64 (by omega) (by omega))) rfl rfl ?_
              refine KO.pv (PV.move rfl) rfl rfl ?_
              refine KO.nil ?_
              exact ⟨_, _, (by omega), (.cons rfl (.cons rfl (.cons rfl (.cons rfl .nil)))), (x68 + 1), rfl, rfl, (m26.pick [0] (by decide) rfl), (by first | omega | assumption | (constructor <;> omega))⟩
          · refine KC.exit ?_
            refine KC.seq ?_
            refine KC.region ?_
            refine KO.pv (PV.assign rfl) rfl rfl ?_
            refine KO.nil ?_
            exact KC.ret ⟨rfl, _, (.tmp rfl .nil), 0, rfl, m22.pick [] (by decide) rfl, (by first | omega | (intro h; omega) | (simp only [List.length_nil, true_and, and_true, or_true, true_or] <;> omega)), (by first | omega | (intro h; omega) | (simp only [List.length_nil, true_and, and_true, or_true, true_or] <;> omega) | (exact fun _ => ⟨hkl, by omega, by omega⟩))⟩
end Go.Eng
