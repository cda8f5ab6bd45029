/- Functions of the program and of the library keep their contracts. Conditions: none beyond each theorem's own. -/
import Derived.Test.YthofopbfjpidhaaGreatDoorTracesB6
import Derived.KernelRfl
set_option linter.all false
namespace Go.Eng
open Go Go.Proofs
theorem ag4_B10 : isAggT E0.P 4 = some false := by kernel_rfl
theorem ag3_B10 : isAggT E0.P 3 = some false := by kernel_rfl
theorem sz3_B10 : sizeT E0.P 3 = some 1 := by kernel_rfl
theorem un4_B10 : E0.P.underlying 4 = some TypeDesc.bool := by kernel_rfl
theorem sz4_B10 : sizeT E0.P 4 = some 1 := by kernel_rfl
theorem el89_B10 : elemT E0.P 89 = some 4 := by kernel_rfl
theorem ez4_B10 : elemZ E0.P 4 = some (1, [.bool false]) := by kernel_rfl
theorem sb4_B10 : smallBytes E0.P 4 = true := by kernel_rfl
theorem un89_B10 : E0.P.underlying 89 = some (.slice 4) := by kernel_rfl
theorem fo26_0_B10 : foff E0.P 26 0 = some 0 := by kernel_rfl
theorem fo26_1_B10 : foff E0.P 26 1 = some 1 := by kernel_rfl
theorem ag22_B10 : isAggT E0.P 22 = some false := by kernel_rfl
theorem un22_B10 : E0.P.underlying 22 = some (.slice 147) := by kernel_rfl
theorem sz147_B10 : sizeT E0.P 147 = some 2 := by kernel_rfl
theorem ag147_B10 : isAggT E0.P 147 = some true := by kernel_rfl
theorem fo147_1_B10 : foff E0.P 147 1 = some 1 := by kernel_rfl
theorem ag26_B10 : isAggT E0.P 26 = some true := by kernel_rfl
theorem sz26_B10 : sizeT E0.P 26 = some 5 := by kernel_rfl
theorem zt147_B10 : zeroT E0.P 147 = some [.int .i64 0, .int .i64 0] := by kernel_rfl
theorem un109_B10 : E0.P.underlying 109 = some (.slice 89) := by kernel_rfl
theorem sz89_B10 : sizeT E0.P 89 = some 1 := by kernel_rfl
theorem ag89_B10 : isAggT E0.P 89 = some false := by kernel_rfl
theorem fo111_1_B10 : foff E0.P 111 1 = some 1 := by kernel_rfl
theorem ag109_B10 : isAggT E0.P 109 = some false := by kernel_rfl
theorem fo111_0_B10 : foff E0.P 111 0 = some 0 := by kernel_rfl
theorem el109_B10 : elemT E0.P 109 = some 89 := by kernel_rfl
theorem ez89_B10 : elemZ E0.P 89 = some (1, [.slice none 0 0]) := by kernel_rfl
theorem sb89_B10 : smallBytes E0.P 89 = true := by kernel_rfl
theorem sz109_B10 : sizeT E0.P 109 = some 1 := by kernel_rfl
theorem ag111_B10 : isAggT E0.P 111 = some true := by kernel_rfl
theorem sz111_B10 : sizeT E0.P 111 = some 2 := by kernel_rfl
theorem zt109_B10 : zeroT E0.P 109 = some [.slice none 0 0] := by kernel_rfl
theorem zt3_B10 : zeroT E0.P 3 = some [.int .i64 0] := by kernel_rfl
theorem zt111_B10 : zeroT E0.P 111 = some [.slice none 0 0, .slice none 0 0] := by kernel_rfl
theorem bl111__B10  : buildA E0.P 111 [] = some (.agg #[.slice none 0 0, .slice none 0 0]) := by kernel_rfl
theorem bl111_0s_B10 (v0a : Option Addr) (v0n v0c : Nat) : buildA E0.P 111 [(0, .slice v0a v0n v0c)] = some (.agg #[.slice v0a v0n v0c, .slice none 0 0]) := by kernel_rfl
theorem tr_starts (H : AHeap) (ci : Int) (a_cL : Option Addr) (n_cL c_cL : Nat) (cL : List (Int × Int)) (a_cA : Option Addr) (n_cA c_cA : Nat) (cA : List (Int × Int)) (a_cB : Option Addr) (n_cB c_cB : Nat) (cB : List Int) (a_cC : Option Addr) (n_cC c_cC : Nat) (cC : List Int) (a_st : Option Addr) (n_st c_st : Nat) (st : List Bool) (w_ci : IntKind.i64.wrap ci = ci) (h_cL : V EP H a_cL n_cL c_cL cL) (h_cA : V EP H a_cA n_cA c_cA cA) (h_cB : V (EI .i64) H a_cB n_cB c_cB cB) (h_cC : V (EI .i64) H a_cC n_cC c_cC cC) (h_st : V EB H a_st n_st c_st st) (hn : n_cL ≤ n_st) : WF E0 150 [.agg #[.int .i64 ci, .slice a_cL n_cL c_cL, .slice a_cA n_cA c_cA, .slice a_cB n_cB c_cB, .slice a_cC n_cC c_cC], .slice a_st n_st c_st] H fun q => ∃ (o : Bool), q.1 = .bool o ∧ Mem [] H q.2 [] := by
  obtain ⟨lo_ci, hi_ci⟩ := rangei64 w_ci
  obtain ⟨len_cL, cap_cL, max_cL, wf_cL⟩ := h_cL.len
  obtain ⟨len_cA, cap_cA, max_cA, wf_cA⟩ := h_cA.len
  obtain ⟨len_cB, cap_cB, max_cB, wf_cB⟩ := h_cB.len
  obtain ⟨len_cC, cap_cC, max_cC, wf_cC⟩ := h_cC.len
  obtain ⟨len_st, cap_st, max_st, wf_st⟩ := h_st.len
  have m0 : Mem [] H H [] := Mem.start
  refine WF.kg Tryz.func150 rfl rfl ?_
  refine KC.seq ?_
  refine KC.region ?_
  refine KO.boxM m0 rfl rfl (show _ = [.int .i64 ci, .slice a_cL n_cL c_cL, .slice a_cA n_cA c_cA, .slice a_cB n_cB c_cB, .slice a_cC n_cC c_cC] from rfl) rfl rfl fun H1 m2 => ?_
  refine KO.pv (PV.assign rfl) rfl rfl ?_
  refine KO.nil ?_
  refine KC.seq ?_
  refine KC.seq ?_
  refine KC.region ?_
  refine KO.pv (PV.fieldAddr fo26_1_B10 rfl) rfl rfl ?_
  refine KO.load1 ag22_B10 rfl (m2.row (i := 0) rfl) rfl rfl rfl ?_
  refine KO.pv (PV.len un22_B10 rfl) rfl rfl ?_
  refine KO.pv (PV.move rfl) rfl rfl ?_
  refine KO.nil ?_
  refine KC.block ?_
  refine KC.sub (l' := [(1, .slice a_st n_st c_st), (8, .slice a_cL n_cL c_cL), (9, .int .i64 (n_cL : Int)), (10, .int .i64 0)]) (.cons rfl (.cons rfl (.cons rfl (.cons rfl .nil)))) ?_
  refine KC.loopN (fun kq lq A => ∃ (x10 : Int), kq = ((n_cL : Int) - x10).toNat ∧ lq = [(1, .slice a_st n_st c_st), (8, .slice a_cL n_cL c_cL), (9, .int .i64 (n_cL : Int)), (10, .int .i64 x10)] ∧ Mem [] H A [] ∧ (0 ≤ x10 ∧ x10 ≤ (n_cL : Int))) ?_ (((n_cL : Int) - 0).toNat) ⟨0, rfl, rfl, (m2.pick [] (by decide) rfl), (by first | omega | assumption | (constructor <;> omega))⟩
  rintro kq lq A3 ⟨x10, rfl, rfl, m4, hr2⟩
  refine KC.seq ?_
  refine KC.region ?_
  refine KO.pv (PV.lssD rfl rfl rfl) rfl rfl ?_
  refine KO.nil ?_
  refine KC.seq ?_
  refine KC.condD rfl (fun h5 => ?_) (fun h5 => ?_)
  · refine KC.skip ?_
    refine KC.seq ?_
    refine KC.block ?_
    refine KC.seq ?_
    refine KC.region ?_
    refine KO.pv (PV.move rfl) rfl rfl ?_
    obtain ⟨b6, o6, p6, r6, e6, ha6, hb6, hr6, hx6, hw6, hc6, ht6⟩ := V.at_ h_cL (z := x10) (by omega) (by omega)
    have hc6_0 : r6.cs[o6 + (x10).toNat * 2 + 0]? = some (.int .i64 e6.1) := hc6 0 (by decide)
    have hc6_1 : r6.cs[o6 + (x10).toNat * 2 + 1]? = some (.int .i64 e6.2) := hc6 1 (by decide)
    obtain ⟨hwa6, hwb6⟩ := hw6
    obtain ⟨loa6, hia6⟩ := rangei64 hwa6
    obtain ⟨lob6, hib6⟩ := rangei64 hwb6
    refine KO.pv (PV.indexAddrZ un22_B10 sz147_B10 rfl ha6 rfl (by omega) (by omega)) rfl rfl ?_
    refine KO.loadN ag147_B10 sz147_B10 rfl (m4.row0 hb6 hr6) ht6 rfl rfl ?_
    refine KO.allocM m4 zt147_B10 rfl rfl fun H7 m8 => ?_
    refine KO.pv (PV.assign rfl) rfl rfl ?_
    refine KO.storeM m8 (i := 0) rfl sz147_B10 rfl rfl rfl (show 0 + 2 ≤ 2 by decide) (show _ = [.int .i64 e6.1, .int .i64 e6.2] from rfl) rfl fun H9 m10 => ?_
    refine KO.nil ?_
    refine KC.seq ?_
    refine KC.drawG (n := 13) (anc := [0, 1, 3, 7, 15, 15, 63, 127, 15, 271, 783, 2047, 4095]) (hv := []) (ord := [0, 1, 2, 3, 4, 5, 6, 7, 8, 9, 10, 11, 12]) (by kernel_rfl) (by kernel_rfl) (by kernel_rfl) (by kernel_rfl) (by kernel_rfl) fun H11 n12 g13 => ?_
    have m14 := m10.room n12 g13 [] (by decide) (by decide)
    refine KD.pv 1 (PV.fieldAddr fo147_1_B10 rfl) rfl rfl rfl (by kernel_rfl) rfl rfl rfl ?_
    refine KD.load 3 rfl (m14.row (i := 0) rfl) (by rw [read1 ag3_B10]; exact rfl) (pastGo (k := 1) (l := [H11]) (by kernel_rfl) rfl (pastCons ⟨_, (m14.row (i := 0) rfl), (by rw [read1 ag3_B10]; exact rfl)⟩ pastNil)) veq_int rfl (by kernel_rfl) rfl rfl rfl ?_
    by_cases h15 : e6.2 ≠ 2
    · refine KD.pv 7 (PV.neqD rfl rfl (decide_eq_true h15)) rfl rfl rfl (by kernel_rfl) rfl rfl rfl ?_
      refine KD.pv 15 (PV.move rfl) rfl rfl rfl (by kernel_rfl) rfl rfl rfl ?_
      refine KD.pv 31 (PV.move rfl) rfl rfl rfl (by kernel_rfl) rfl rfl rfl ?_
      refine KD.pv 63 (PV.move rfl) rfl rfl rfl (by kernel_rfl) rfl rfl rfl ?_
      obtain ⟨b16, o16, p16, r16, e16, ha16, hb16, hr16, hx16, hw16, hc16, ht16⟩ := V.at_ h_st (z := x10) (by omega) (by omega)
      have hc16_0 : r16.cs[o16 + (x10).toNat * 1 + 0]? = some (.bool e16) := hc16 0 (by decide)
      refine KD.pv 127 (PV.indexAddrZ un89_B10 sz4_B10 rfl ha16 rfl (by omega) (by omega)) rfl rfl rfl (by kernel_rfl) rfl rfl rfl ?_
      refine KD.load 255 rfl (m14.row0 hb16 hr16) (by rw [read1 ag4_B10]; exact hc16_0) (pastGo (k := 1) (l := [H11]) (by kernel_rfl) rfl (pastCons ⟨_, (m14.row0 hb16 hr16), (by rw [read1 ag4_B10]; exact hc16_0)⟩ pastNil)) veq_bool rfl (by kernel_rfl) rfl rfl rfl ?_
      refine KD.pv 511 (PV.fieldAddr fo147_1_B10 rfl) rfl rfl rfl (by kernel_rfl) rfl rfl rfl ?_
      refine KD.load 1023 rfl (m14.row (i := 0) rfl) (by rw [read1 ag3_B10]; exact rfl) (pastGo (k := 1) (l := [H11]) (by kernel_rfl) rfl (pastCons ⟨_, (m14.row (i := 0) rfl), (by rw [read1 ag3_B10]; exact rfl)⟩ pastNil)) veq_int rfl (by kernel_rfl) rfl rfl rfl ?_
      refine KD.pv 2047 (PV.eqlD rfl rfl rfl) rfl rfl rfl (by kernel_rfl) rfl rfl rfl ?_
      obtain ⟨b17, qb17⟩ : ∃ b : Bool, (e16 != (decide (e6.2 = 1))) = b := ⟨_, rfl⟩
      refine KD.pv 4095 (PV.bneqB un4_B10 rfl rfl qb17) rfl rfl rfl (by kernel_rfl) rfl rfl rfl ?_
      refine KD.pv 8191 (PV.pickT rfl rfl rfl) rfl rfl rfl (by kernel_rfl) rfl rfl rfl ?_
      refine KD.nil ⟨rfl, ?_⟩
      refine KC.cond rfl (fun h18 => ?_) (fun h18 => ?_)
      · subst h18
        refine KC.seq ?_
        refine KC.region ?_
        refine KO.pv (PV.assign rfl) rfl rfl ?_
        refine KO.nil ?_
        exact KC.ret ⟨rfl, _, (.tmp rfl .nil), false, rfl, m14.pick [] (by decide) rfl⟩
      · subst h18
        refine KC.skip ?_
        refine KC.region ?_
        refine KO.pv (PV.add rfl rfl (wrap64 (by omega) (by omega))) rfl rfl ?_
        refine KO.pv (PV.move rfl) rfl rfl ?_
        refine KO.nil ?_
        exact ⟨_, _, (by omega), (.cons rfl (.cons rfl (.cons rfl (.cons rfl .nil)))), (x10 + 1), rfl, rfl, (m14.pick [] (by decide) rfl), (by first | omega | assumption | (constructor <;> omega))⟩
    · refine KD.pv 7 (PV.neqD rfl rfl (decide_eq_false h15)) rfl rfl rfl (by kernel_rfl) rfl rfl rfl ?_
      refine KD.pv 15 (PV.move rfl) rfl rfl rfl (by kernel_rfl) rfl rfl rfl ?_
      refine KD.skip 31 rfl rfl rfl (by kernel_rfl) rfl rfl rfl ?_
      refine KD.skip 63 rfl rfl rfl (by kernel_rfl) rfl rfl rfl ?_
      refine KD.skip 127 rfl rfl rfl (by kernel_rfl) rfl rfl rfl ?_
      refine KD.skip 255 rfl rfl rfl (by kernel_rfl) rfl rfl rfl ?_
      refine KD.skip 511 rfl rfl rfl (by kernel_rfl) rfl rfl rfl ?_
      refine KD.skip 1023 rfl rfl rfl (by kernel_rfl) rfl rfl rfl ?_
      refine KD.skip 2047 rfl rfl rfl (by kernel_rfl) rfl rfl rfl ?_
      refine KD.skip 4095 rfl rfl rfl (by kernel_rfl) rfl rfl rfl ?_
      refine KD.pv 8191 (PV.pickF rfl rfl rfl) rfl rfl rfl (by kernel_rfl) rfl rfl rfl ?_
      refine KD.nil ⟨rfl, ?_⟩
      refine KC.condF rfl ?_
      refine KC.skip ?_
      refine KC.region ?_
      refine KO.pv (PV.add rfl rfl (wrap64 (by omega) (by omega))) rfl rfl ?_
      refine KO.pv (PV.move rfl) rfl rfl ?_
      refine KO.nil ?_
      exact ⟨_, _, (by omega), (.cons rfl (.cons rfl (.cons rfl (.cons rfl .nil)))), (x10 + 1), rfl, rfl, (m14.pick [] (by decide) rfl), (by first | omega | assumption | (constructor <;> omega))⟩
  · refine KC.exit ?_
    refine KC.seq ?_
    refine KC.region ?_
    refine KO.pv (PV.assign rfl) rfl rfl ?_
    refine KO.nil ?_
    exact KC.ret ⟨rfl, _, (.tmp rfl .nil), true, rfl, m4.pick [] (by decide) rfl⟩
theorem tr_First (H : AHeap) (ci : Int) (a_cL : Option Addr) (n_cL c_cL : Nat) (cL : List (Int × Int)) (a_cA : Option Addr) (n_cA c_cA : Nat) (cA : List (Int × Int)) (a_cB : Option Addr) (n_cB c_cB : Nat) (cB : List Int) (a_cC : Option Addr) (n_cC c_cC : Nat) (cC : List Int) (a_st : Option Addr) (n_st c_st : Nat) (st : List Bool) (w_ci : IntKind.i64.wrap ci = ci) (h_cL : V EP H a_cL n_cL c_cL cL) (h_cA : V EP H a_cA n_cA c_cA cA) (h_cB : V (EI .i64) H a_cB n_cB c_cB cB) (h_cC : V (EI .i64) H a_cC n_cC c_cC cC) (h_st : V EB H a_st n_st c_st st) : WF E0 80 [.agg #[.int .i64 ci, .slice a_cL n_cL c_cL, .slice a_cA n_cA c_cA, .slice a_cB n_cB c_cB, .slice a_cC n_cC c_cC], .slice a_st n_st c_st] H fun q => ∃ (o : Bool) (e : Int), q.1 = .tuple #[.bool o, .int .i64 e] ∧ Mem [] H q.2 [] := by
  obtain ⟨lo_ci, hi_ci⟩ := rangei64 w_ci
  obtain ⟨len_cL, cap_cL, max_cL, wf_cL⟩ := h_cL.len
  obtain ⟨len_cA, cap_cA, max_cA, wf_cA⟩ := h_cA.len
  obtain ⟨len_cB, cap_cB, max_cB, wf_cB⟩ := h_cB.len
  obtain ⟨len_cC, cap_cC, max_cC, wf_cC⟩ := h_cC.len
  obtain ⟨len_st, cap_st, max_st, wf_st⟩ := h_st.len
  have m0 : Mem [] H H [] := Mem.start
  refine WF.kg Tryz.func80 rfl rfl ?_
  refine KC.seq ?_
  refine KC.region ?_
  refine KO.boxM m0 rfl rfl (show _ = [.int .i64 ci, .slice a_cL n_cL c_cL, .slice a_cA n_cA c_cA, .slice a_cB n_cB c_cB, .slice a_cC n_cC c_cC] from rfl) rfl rfl fun H1 m2 => ?_
  refine KO.pv (PV.assign rfl) rfl rfl ?_
  refine KO.pv (PV.assign rfl) rfl rfl ?_
  refine KO.nil ?_
  refine KC.seq ?_
  refine KC.seq ?_
  refine KC.region ?_
  refine KO.loadN ag26_B10 sz26_B10 rfl (m2.row (i := 0) rfl) (takeN_of (p := [.int .i64 ci, .slice a_cL n_cL c_cL, .slice a_cA n_cA c_cA, .slice a_cB n_cB c_cB, .slice a_cC n_cC c_cC]) rfl rfl) rfl rfl ?_
  refine KO.call rfl rfl rfl rfl (gates_Check H1 ci a_cL n_cL c_cL _ a_cA n_cA c_cA _ a_cB n_cB c_cB _ a_cC n_cC c_cC _ (wrap64 (by omega) (by omega)) (V.mem m2 h_cL) (V.mem m2 h_cA) (V.mem m2 h_cB) (V.mem m2 h_cC)) fun v3 H3 q3 => ?_
  obtain ⟨e3, hv3, mc3, p3_0, p3_1⟩ := q3
  dsimp only at hv3 mc3
  subst hv3
  have m4 := m2.seq mc3
  refine KO.pv (PV.assign rfl) rfl rfl ?_
  refine KO.nil ?_
  refine KC.seq ?_
  refine KC.region ?_
  refine KO.pv (PV.move rfl) rfl rfl ?_
  refine KO.pv (PV.neqD rfl rfl rfl) rfl rfl ?_
  refine KO.nil ?_
  refine KC.condD rfl (fun h5 => ?_) (fun h5 => ?_)
  · refine KC.seq ?_
    refine KC.region ?_
    refine KO.pv (PV.move rfl) rfl rfl ?_
    refine KO.pv (PV.assign rfl) rfl rfl ?_
    refine KO.pv (PV.assign rfl) rfl rfl ?_
    refine KO.nil ?_
    exact KC.ret ⟨rfl, _, (.tmp rfl (.tmp rfl .nil)), false, e3, rfl, m4.pick [] (by decide) rfl⟩
  · have p3_0t := p3_0 (by omega)
    obtain ⟨p3_0_i0, p3_0_al, p3_0_b, p3_0_c, p3_0_hb, p3_0_hc, p3_0_hl, p3_0_ha⟩ := id p3_0t
    refine KC.skip ?_
    refine KC.seq ?_
    refine KC.seq ?_
    refine KC.region ?_
    refine KO.pv (PV.move rfl) rfl rfl ?_
    refine KO.pv (PV.len un89_B10 rfl) rfl rfl ?_
    refine KO.pv (PV.fieldAddr fo26_1_B10 rfl) rfl rfl ?_
    refine KO.load1 ag22_B10 rfl (m4.row (i := 0) rfl) rfl rfl rfl ?_
    refine KO.pv (PV.len un22_B10 rfl) rfl rfl ?_
    refine KO.pv (PV.neqD rfl rfl rfl) rfl rfl ?_
    refine KO.nil ?_
    refine KC.condD rfl (fun h6 => ?_) (fun h6 => ?_)
    · refine KC.seq ?_
      refine KC.region ?_
      refine KO.pv (PV.assign rfl) rfl rfl ?_
      refine KO.pv (PV.assign rfl) rfl rfl ?_
      refine KO.nil ?_
      exact KC.ret ⟨rfl, _, (.tmp rfl (.tmp rfl .nil)), false, 2, rfl, m4.pick [] (by decide) rfl⟩
    · refine KC.skip ?_
      refine KC.seq ?_
      refine KC.region ?_
      refine KO.loadN ag26_B10 sz26_B10 rfl (m4.row (i := 0) rfl) (takeN_of (p := [.int .i64 ci, .slice a_cL n_cL c_cL, .slice a_cA n_cA c_cA, .slice a_cB n_cB c_cB, .slice a_cC n_cC c_cC]) rfl rfl) rfl rfl ?_
      refine KO.pv (PV.move rfl) rfl rfl ?_
      refine KO.call rfl rfl rfl rfl (tr_starts H3 ci a_cL n_cL c_cL _ a_cA n_cA c_cA _ a_cB n_cB c_cB _ a_cC n_cC c_cC _ a_st n_st c_st _ (wrap64 (by omega) (by omega)) (V.mem m4 h_cL) (V.mem m4 h_cA) (V.mem m4 h_cB) (V.mem m4 h_cC) (V.mem m4 h_st) (by first | omega | assumption)) fun v7 H7 q7 => ?_
      obtain ⟨o7, hv7, mc7⟩ := q7
      dsimp only at hv7 mc7
      subst hv7
      have m8 := m4.seq mc7
      refine KO.pv (PV.assign rfl) rfl rfl ?_
      refine KO.pv (PV.assign rfl) rfl rfl ?_
      refine KO.nil ?_
      exact KC.ret ⟨rfl, _, (.tmp rfl (.tmp rfl .nil)), o7, 0, rfl, m8.pick [] (by decide) rfl⟩
theorem tr_bad (H : AHeap) (a_l : Option Addr) (n_l c_l : Nat) (l : List Bool) (b_p : Nat) (ci : Int) (a_cL : Option Addr) (n_cL c_cL : Nat) (a_cA : Option Addr) (n_cA c_cA : Nat) (a_cB : Option Addr) (n_cB c_cB : Nat) (a_cC : Option Addr) (n_cC c_cC : Nat) (h_l : V EB H a_l n_l c_l l) (r_p : H.row b_p = some ⟨26, true, true, [.int .i64 ci, .slice a_cL n_cL c_cL, .slice a_cA n_cA c_cA, .slice a_cB n_cB c_cB, .slice a_cC n_cC c_cC]⟩) (l_p : b_p < H.next) : WF E0 151 [.slice a_l n_l c_l, .pointer (some ⟨b_p, 0, none⟩)] H fun q => ∃ (o : Bool), q.1 = .bool o ∧ Mem [] H q.2 [] := by
  obtain ⟨len_l, cap_l, max_l, wf_l⟩ := h_l.len
  have m0 : Mem [] H H [] := Mem.start
  refine WF.kg Tryz.func151 rfl rfl ?_
  refine KC.seq ?_
  refine KC.region ?_
  refine KO.pv (PV.assign rfl) rfl rfl ?_
  refine KO.nil ?_
  refine KC.seq ?_
  refine KC.region ?_
  refine KO.pv (PV.move rfl) rfl rfl ?_
  refine KO.pv (PV.len un89_B10 rfl) rfl rfl ?_
  refine KO.pv (PV.fieldAddr fo26_0_B10 rfl) rfl rfl ?_
  refine KO.load1 ag3_B10 rfl (m0.row0 l_p r_p) rfl rfl rfl ?_
  refine KO.pv (PV.neqD rfl rfl rfl) rfl rfl ?_
  refine KO.pv (PV.assign rfl) rfl rfl ?_
  refine KO.nil ?_
  exact KC.ret ⟨rfl, _, (.tmp rfl .nil), (decide ((n_l : Int) ≠ ci)), rfl, m0.pick [] (by decide) rfl⟩
theorem IndexFunc_bool (H : AHeap) (a_s : Option Addr) (n_s c_s : Nat) (s : List (Option Addr × Nat × Nat)) (g_f : FuncId) (cap_f : List Value) (Pf : (Option Addr × Nat × Nat) → Bool → Prop) (h_s : V ES H a_s n_s c_s s) (x_f : E0.ext g_f = none) (h_f : ∀ A, Mem [] H A [] → ∀ u ∈ s, WF E0 g_f ([.slice u.1 u.2.1 u.2.2] ++ cap_f) A fun q => ∃ b : Bool, q.1 = .bool b ∧ Mem [] A q.2 [] ∧ Pf u b) : WF E0 195 [.slice a_s n_s c_s, .func (.func g_f) #[] cap_f.toArray] H fun q => ∃ (z : Int), q.1 = .int .i64 z ∧ Mem [] H q.2 [] ∧ (-1 ≤ z ∧ z < n_s) ∧ (z < 0 → ∀ u ∈ s, Pf u false) ∧ (0 ≤ z → ∃ u, s[z.toNat]? = some u ∧ Pf u true) := by
  obtain ⟨len_s, cap_s, max_s, wf_s⟩ := h_s.len
  have m0 : Mem [] H H [] := Mem.start
  refine WF.kg Tryz.func195 rfl rfl ?_
  refine KC.seq ?_
  refine KC.region ?_
  refine KO.pv (PV.assign rfl) rfl rfl ?_
  refine KO.nil ?_
  refine KC.seq ?_
  refine KC.seq ?_
  refine KC.region ?_
  refine KO.pv (PV.move rfl) rfl rfl ?_
  refine KO.pv (PV.len un109_B10 rfl) rfl rfl ?_
  refine KO.pv (PV.move rfl) rfl rfl ?_
  refine KO.nil ?_
  refine KC.block ?_
  refine KC.sub (l' := [(0, .slice a_s n_s c_s), (1, .func (.func g_f) #[] cap_f.toArray), (4, .int .i64 0), (7, .int .i64 (n_s : Int)), (8, .int .i64 0)]) (.cons rfl (.cons rfl (.cons rfl (.cons rfl (.cons rfl .nil))))) ?_
  refine KC.loopN (fun kq lq A => ∃ (i : Int), kq = ((n_s : Int) - i).toNat ∧ lq = [(0, .slice a_s n_s c_s), (1, .func (.func g_f) #[] cap_f.toArray), (4, .int .i64 0), (7, .int .i64 (n_s : Int)), (8, .int .i64 i)] ∧ Mem [] H A [] ∧ (0 ≤ i ∧ i ≤ n_s) ∧ (Ahead s i fun _ u => Pf u false)) ?_ (((n_s : Int) - 0).toNat) ⟨0, rfl, rfl, (m0.pick [] (by decide) rfl), (by omega), Ahead.zero⟩
  rintro kq lq A1 ⟨i, rfl, rfl, m2, hi, hpre⟩
  refine KC.seq ?_
  refine KC.region ?_
  refine KO.pv (PV.lssD rfl rfl rfl) rfl rfl ?_
  refine KO.nil ?_
  refine KC.seq ?_
  refine KC.condD rfl (fun h3 => ?_) (fun h3 => ?_)
  · refine KC.skip ?_
    refine KC.seq ?_
    refine KC.block ?_
    refine KC.seq ?_
    refine KC.region ?_
    refine KO.pv (PV.move rfl) rfl rfl ?_
    refine KO.pv (PV.assign rfl) rfl rfl ?_
    refine KO.nil ?_
    refine KC.seq ?_
    refine KC.region ?_
    refine KO.pv (PV.move rfl) rfl rfl ?_
    refine KO.pv (PV.move rfl) rfl rfl ?_
    refine KO.pv (PV.move rfl) rfl rfl ?_
    obtain ⟨b4, o4, p4, r4, e4, ha4, hb4, hr4, hx4, hw4, hc4, ht4⟩ := V.at_ h_s (z := i) (by omega) (by omega)
    have hc4_0 : r4.cs[o4 + (i).toNat * 1 + 0]? = some (.slice e4.1 e4.2.1 e4.2.2) := hc4 0 (by decide)
    refine KO.pv (PV.indexAddrZ un109_B10 sz89_B10 rfl ha4 rfl (by omega) (by omega)) rfl rfl ?_
    refine KO.load1 ag89_B10 rfl (m2.row0 hb4 hr4) hc4_0 rfl rfl ?_
    refine KO.callV rfl x_f rfl rfl rfl (h_f A1 (m2.pick [] (by decide) rfl) _ (List.mem_of_getElem? hx4)) fun v5 H5 q5 => ?_
    obtain ⟨b5, hv5, mc5, pf5⟩ := q5
    dsimp only at hv5 mc5
    subst hv5
    have m6 := m2.seq mc5
    refine KO.nil ?_
    refine KC.cond rfl (fun h7 => ?_) (fun h7 => ?_)
    · subst h7
      refine KC.seq ?_
      refine KC.region ?_
      refine KO.pv (PV.move rfl) rfl rfl ?_
      refine KO.pv (PV.assign rfl) rfl rfl ?_
      refine KO.nil ?_
      exact KC.ret ⟨rfl, _, (.tmp rfl .nil), i, rfl, m6.pick [] (by decide) rfl, (by first | omega | (intro h; omega) | (simp only [List.length_nil, true_and, and_true, or_true, true_or] <;> omega)), (by first | omega | (intro h; omega) | (simp only [List.length_nil, true_and, and_true, or_true, true_or] <;> omega) | (exact fun h => by omega) | (exact fun _ => hpre.mem len_s (by omega))), (by first | omega | (intro h; omega) | (simp only [List.length_nil, true_and, and_true, or_true, true_or] <;> omega) | (exact fun _ => ⟨_, by assumption, by subst_vars; assumption⟩) | (exact fun h => by omega))⟩
    · subst h7
      refine KC.skip ?_
      refine KC.region ?_
      refine KO.pv (PV.add rfl rfl (wrap64 (by omega) (by omega))) rfl rfl ?_
      refine KO.pv (PV.move rfl) rfl rfl ?_
      refine KO.nil ?_
      exact ⟨_, _, (by omega), (.cons rfl (.cons rfl (.cons rfl (.cons rfl (.cons rfl .nil))))), (i + 1), rfl, rfl, (m6.pick [] (by decide) rfl), (by omega), (hpre.step (by assumption) (by omega) (by subst_vars; assumption))⟩
  · refine KC.exit ?_
    refine KC.seq ?_
    refine KC.region ?_
    refine KO.pv (PV.assign rfl) rfl rfl ?_
    refine KO.nil ?_
    exact KC.ret ⟨rfl, _, (.tmp rfl .nil), (-1), rfl, m2.pick [] (by decide) rfl, (by first | omega | (intro h; omega) | (simp only [List.length_nil, true_and, and_true, or_true, true_or] <;> omega)), (by first | omega | (intro h; omega) | (simp only [List.length_nil, true_and, and_true, or_true, true_or] <;> omega) | (exact fun h => by omega) | (exact fun _ => hpre.mem len_s (by omega))), (by first | omega | (intro h; omega) | (simp only [List.length_nil, true_and, and_true, or_true, true_or] <;> omega) | (exact fun _ => ⟨_, by assumption, by subst_vars; assumption⟩) | (exact fun h => by omega))⟩
theorem ContainsFunc_bool (H : AHeap) (a_s : Option Addr) (n_s c_s : Nat) (s : List (Option Addr × Nat × Nat)) (g_f : FuncId) (cap_f : List Value) (Pf : (Option Addr × Nat × Nat) → Bool → Prop) (h_s : V ES H a_s n_s c_s s) (x_f : E0.ext g_f = none) (h_f : ∀ A, Mem [] H A [] → ∀ u ∈ s, WF E0 g_f ([.slice u.1 u.2.1 u.2.2] ++ cap_f) A fun q => ∃ b : Bool, q.1 = .bool b ∧ Mem [] A q.2 [] ∧ Pf u b) : WF E0 152 [.slice a_s n_s c_s, .func (.func g_f) #[] cap_f.toArray] H fun q => ∃ (c : Bool), q.1 = .bool c ∧ Mem [] H q.2 [] ∧ (c = false → ∀ u ∈ s, Pf u false) ∧ (c = true → ∃ u ∈ s, Pf u true) := by
  obtain ⟨len_s, cap_s, max_s, wf_s⟩ := h_s.len
  have m0 : Mem [] H H [] := Mem.start
  refine WF.kg Tryz.func152 rfl rfl ?_
  refine KC.seq ?_
  refine KC.region ?_
  refine KO.pv (PV.assign rfl) rfl rfl ?_
  refine KO.nil ?_
  refine KC.seq ?_
  refine KC.region ?_
  refine KO.pv (PV.move rfl) rfl rfl ?_
  refine KO.pv (PV.move rfl) rfl rfl ?_
  refine KO.call rfl rfl rfl rfl (IndexFunc_bool H a_s n_s c_s s g_f cap_f Pf h_s x_f h_f) fun v1 H1 q1 => ?_
  obtain ⟨z1, hv1, mc1, p1_0, p1_1, p1_2⟩ := q1
  dsimp only at hv1 mc1
  subst hv1
  have m1 := m0.seq mc1
  refine KO.pv (PV.geqD rfl rfl rfl) rfl rfl ?_
  refine KO.pv (PV.assign rfl) rfl rfl ?_
  refine KO.nil ?_
  exact KC.ret ⟨rfl, _, (.tmp rfl .nil), (decide (0 ≤ z1)), rfl, m1.pick [] (by decide) rfl, (fun h => p1_1 (by have := of_decide_eq_false h; omega)), (fun h => by obtain ⟨u, h1, h2⟩ := p1_2 (by have := of_decide_eq_true h; omega); exact ⟨u, List.mem_of_getElem? h1, h2⟩)⟩
theorem tr_Check (H : AHeap) (ci : Int) (a_cL : Option Addr) (n_cL c_cL : Nat) (cL : List (Int × Int)) (a_cA : Option Addr) (n_cA c_cA : Nat) (cA : List (Int × Int)) (a_cB : Option Addr) (n_cB c_cB : Nat) (cB : List Int) (a_cC : Option Addr) (n_cC c_cC : Nat) (cC : List Int) (a_tF : Option Addr) (n_tF c_tF : Nat) (tF : List Bool) (a_tI : Option Addr) (n_tI c_tI : Nat) (v_tI : List (Option Addr × Nat × Nat)) (tI : List (List Bool)) (w_ci : IntKind.i64.wrap ci = ci) (h_cL : V EP H a_cL n_cL c_cL cL) (h_cA : V EP H a_cA n_cA c_cA cA) (h_cB : V (EI .i64) H a_cB n_cB c_cB cB) (h_cC : V (EI .i64) H a_cC n_cC c_cC cC) (h_tF : V EB H a_tF n_tF c_tF tF) (h_tI : V ES H a_tI n_tI c_tI v_tI) (i_tI : VV EB H v_tI tI) : WF E0 82 [.agg #[.int .i64 ci, .slice a_cL n_cL c_cL, .slice a_cA n_cA c_cA, .slice a_cB n_cB c_cB, .slice a_cC n_cC c_cC], .agg #[.slice a_tF n_tF c_tF, .slice a_tI n_tI c_tI]] H fun q => ∃ (e : Int), q.1 = .int .i64 e ∧ Mem [] H q.2 [] ∧ (e = 0 → n_tI ≤ 100 ∧ n_tF = n_cL ∧ 0 < n_tI) ∧ (e = 0 → CirOK ci cL cA cB cC) ∧ (0 ≤ e ∧ e ≤ 100) := by
  obtain ⟨lo_ci, hi_ci⟩ := rangei64 w_ci
  obtain ⟨len_cL, cap_cL, max_cL, wf_cL⟩ := h_cL.len
  obtain ⟨len_cA, cap_cA, max_cA, wf_cA⟩ := h_cA.len
  obtain ⟨len_cB, cap_cB, max_cB, wf_cB⟩ := h_cB.len
  obtain ⟨len_cC, cap_cC, max_cC, wf_cC⟩ := h_cC.len
  obtain ⟨len_tF, cap_tF, max_tF, wf_tF⟩ := h_tF.len
  obtain ⟨len_tI, cap_tI, max_tI, wf_tI⟩ := h_tI.len
  have len2_tI := i_tI.1
  have len3_tI : tI.length = n_tI := by omega
  have m0 : Mem [] H H [] := Mem.start
  refine WF.kg Tryz.func82 rfl rfl ?_
  refine KC.seq ?_
  refine KC.region ?_
  refine KO.boxM m0 rfl rfl (show _ = [.int .i64 ci, .slice a_cL n_cL c_cL, .slice a_cA n_cA c_cA, .slice a_cB n_cB c_cB, .slice a_cC n_cC c_cC] from rfl) rfl rfl fun H1 m2 => ?_
  refine KO.boxM m2 rfl rfl (show _ = [.slice a_tF n_tF c_tF, .slice a_tI n_tI c_tI] from rfl) rfl rfl fun H3 m4 => ?_
  refine KO.pv (PV.assign rfl) rfl rfl ?_
  refine KO.nil ?_
  refine KC.seq ?_
  refine KC.seq ?_
  refine KC.region ?_
  refine KO.loadN ag26_B10 sz26_B10 rfl (m4.row (i := 1) rfl) (takeN_of (p := [.int .i64 ci, .slice a_cL n_cL c_cL, .slice a_cA n_cA c_cA, .slice a_cB n_cB c_cB, .slice a_cC n_cC c_cC]) rfl rfl) rfl rfl ?_
  refine KO.call rfl rfl rfl rfl (gates_Check H3 ci a_cL n_cL c_cL _ a_cA n_cA c_cA _ a_cB n_cB c_cB _ a_cC n_cC c_cC _ (wrap64 (by omega) (by omega)) (V.mem m4 h_cL) (V.mem m4 h_cA) (V.mem m4 h_cB) (V.mem m4 h_cC)) fun v5 H5 q5 => ?_
  obtain ⟨e5, hv5, mc5, p5_0, p5_1⟩ := q5
  dsimp only at hv5 mc5
  subst hv5
  have m6 := m4.seq mc5
  refine KO.pv (PV.assign rfl) rfl rfl ?_
  refine KO.nil ?_
  refine KC.seq ?_
  refine KC.region ?_
  refine KO.pv (PV.move rfl) rfl rfl ?_
  refine KO.pv (PV.neqD rfl rfl rfl) rfl rfl ?_
  refine KO.nil ?_
  refine KC.condD rfl (fun h7 => ?_) (fun h7 => ?_)
  · refine KC.seq ?_
    refine KC.region ?_
    refine KO.pv (PV.move rfl) rfl rfl ?_
    refine KO.pv (PV.assign rfl) rfl rfl ?_
    refine KO.nil ?_
    exact KC.ret ⟨rfl, _, (.tmp rfl .nil), e5, rfl, m6.pick [] (by decide) rfl, (by first | omega | (intro h; omega) | (simp only [List.length_nil, true_and, and_true, or_true, true_or] <;> omega) | (exact fun _ => ⟨by omega, by omega, by omega⟩)), (by first | omega | (intro h; omega) | (simp only [List.length_nil, true_and, and_true, or_true, true_or] <;> omega) | (exact fun _ => by assumption)), (by first | omega | (intro h; omega) | (simp only [List.length_nil, true_and, and_true, or_true, true_or] <;> omega))⟩
  · have p5_0t := p5_0 (by omega)
    obtain ⟨p5_0_i0, p5_0_al, p5_0_b, p5_0_c, p5_0_hb, p5_0_hc, p5_0_hl, p5_0_ha⟩ := id p5_0t
    refine KC.skip ?_
    refine KC.seq ?_
    refine KC.seq ?_
    refine KC.region ?_
    refine KO.pv (PV.fieldAddr fo111_1_B10 rfl) rfl rfl ?_
    refine KO.load1 ag109_B10 rfl (m6.row (i := 0) rfl) rfl rfl rfl ?_
    refine KO.pv (PV.len un109_B10 rfl) rfl rfl ?_
    refine KO.pv (PV.gtrD rfl rfl rfl) rfl rfl ?_
    refine KO.nil ?_
    refine KC.condD rfl (fun h8 => ?_) (fun h8 => ?_)
    · refine KC.seq ?_
      refine KC.region ?_
      refine KO.pv (PV.assign rfl) rfl rfl ?_
      refine KO.nil ?_
      exact KC.ret ⟨rfl, _, (.tmp rfl .nil), 4, rfl, m6.pick [] (by decide) rfl, (by first | omega | (intro h; omega) | (simp only [List.length_nil, true_and, and_true, or_true, true_or] <;> omega) | (exact fun _ => ⟨by omega, by omega, by omega⟩)), (by first | omega | (intro h; omega) | (simp only [List.length_nil, true_and, and_true, or_true, true_or] <;> omega) | (exact fun _ => by assumption)), (by first | omega | (intro h; omega) | (simp only [List.length_nil, true_and, and_true, or_true, true_or] <;> omega))⟩
    · refine KC.skip ?_
      refine KC.seq ?_
      refine KC.region ?_
      refine KO.pv (PV.makeFunc rfl rfl) rfl rfl ?_
      refine KO.pv (PV.assign rfl) rfl rfl ?_
      refine KO.nil ?_
      refine KC.seq ?_
      refine KC.seq ?_
      refine KC.region ?_
      refine KO.pv (PV.fieldAddr fo111_1_B10 rfl) rfl rfl ?_
      refine KO.load1 ag109_B10 rfl (m6.row (i := 0) rfl) rfl rfl rfl ?_
      refine KO.pv (PV.len un109_B10 rfl) rfl rfl ?_
      by_cases h9 : (n_tI : Int) = 0
      · refine KO.pv (PV.eqlD rfl rfl (decide_eq_true h9)) rfl rfl ?_
        refine KO.pv (PV.move rfl) rfl rfl ?_
        refine KO.no rfl rfl rfl ?_
        refine KO.no rfl rfl rfl ?_
        refine KO.no rfl rfl rfl ?_
        refine KO.no rfl rfl rfl ?_
        refine KO.no rfl rfl rfl ?_
        refine KO.no rfl rfl rfl ?_
        refine KO.no rfl rfl rfl ?_
        refine KO.pv (PV.pickT rfl rfl rfl) rfl rfl ?_
        refine KO.pv (PV.move rfl) rfl rfl ?_
        refine KO.no rfl rfl rfl ?_
        refine KO.no rfl rfl rfl ?_
        refine KO.no rfl rfl rfl ?_
        refine KO.no rfl rfl rfl ?_
        refine KO.no rfl rfl rfl ?_
        refine KO.pv (PV.pickT rfl rfl rfl) rfl rfl ?_
        refine KO.pv (PV.move rfl) rfl rfl ?_
        refine KO.no rfl rfl rfl ?_
        refine KO.no rfl rfl rfl ?_
        refine KO.no rfl rfl rfl ?_
        refine KO.no rfl rfl rfl ?_
        refine KO.pv (PV.pickT rfl rfl rfl) rfl rfl ?_
        refine KO.nil ?_
        refine KC.condT rfl ?_
        refine KC.seq ?_
        refine KC.region ?_
        refine KO.pv (PV.assign rfl) rfl rfl ?_
        refine KO.nil ?_
        exact KC.ret ⟨rfl, _, (.tmp rfl .nil), 8, rfl, m6.pick [] (by decide) rfl, (by first | omega | (intro h; omega) | (simp only [List.length_nil, true_and, and_true, or_true, true_or] <;> omega) | (exact fun _ => ⟨by omega, by omega, by omega⟩)), (by first | omega | (intro h; omega) | (simp only [List.length_nil, true_and, and_true, or_true, true_or] <;> omega) | (exact fun _ => by assumption)), (by first | omega | (intro h; omega) | (simp only [List.length_nil, true_and, and_true, or_true, true_or] <;> omega))⟩
      · refine KO.pv (PV.eqlD rfl rfl (decide_eq_false h9)) rfl rfl ?_
        refine KO.pv (PV.move rfl) rfl rfl ?_
        refine KO.pv (PV.fieldAddr fo111_0_B10 rfl) rfl rfl ?_
        refine KO.load1 ag89_B10 rfl (m6.row (i := 0) rfl) rfl rfl rfl ?_
        refine KO.pv (PV.len un89_B10 rfl) rfl rfl ?_
        refine KO.pv (PV.fieldAddr fo26_1_B10 rfl) rfl rfl ?_
        refine KO.load1 ag22_B10 rfl (m6.row (i := 1) rfl) rfl rfl rfl ?_
        refine KO.pv (PV.len un22_B10 rfl) rfl rfl ?_
        by_cases h10 : (n_tF : Int) ≠ (n_cL : Int)
        · refine KO.pv (PV.neqD rfl rfl (decide_eq_true h10)) rfl rfl ?_
          refine KO.pv (PV.pickF rfl rfl rfl) rfl rfl ?_
          refine KO.pv (PV.move rfl) rfl rfl ?_
          refine KO.no rfl rfl rfl ?_
          refine KO.no rfl rfl rfl ?_
          refine KO.no rfl rfl rfl ?_
          refine KO.no rfl rfl rfl ?_
          refine KO.no rfl rfl rfl ?_
          refine KO.pv (PV.pickT rfl rfl rfl) rfl rfl ?_
          refine KO.pv (PV.move rfl) rfl rfl ?_
          refine KO.no rfl rfl rfl ?_
          refine KO.no rfl rfl rfl ?_
          refine KO.no rfl rfl rfl ?_
          refine KO.no rfl rfl rfl ?_
          refine KO.pv (PV.pickT rfl rfl rfl) rfl rfl ?_
          refine KO.nil ?_
          refine KC.condT rfl ?_
          refine KC.seq ?_
          refine KC.region ?_
          refine KO.pv (PV.assign rfl) rfl rfl ?_
          refine KO.nil ?_
          exact KC.ret ⟨rfl, _, (.tmp rfl .nil), 8, rfl, m6.pick [] (by decide) rfl, (by first | omega | (intro h; omega) | (simp only [List.length_nil, true_and, and_true, or_true, true_or] <;> omega) | (exact fun _ => ⟨by omega, by omega, by omega⟩)), (by first | omega | (intro h; omega) | (simp only [List.length_nil, true_and, and_true, or_true, true_or] <;> omega) | (exact fun _ => by assumption)), (by first | omega | (intro h; omega) | (simp only [List.length_nil, true_and, and_true, or_true, true_or] <;> omega))⟩
        · refine KO.pv (PV.neqD rfl rfl (decide_eq_false h10)) rfl rfl ?_
          refine KO.pv (PV.pickF rfl rfl rfl) rfl rfl ?_
          refine KO.pv (PV.move rfl) rfl rfl ?_
          refine KO.loadN ag26_B10 sz26_B10 rfl (m6.row (i := 1) rfl) (takeN_of (p := [.int .i64 ci, .slice a_cL n_cL c_cL, .slice a_cA n_cA c_cA, .slice a_cB n_cB c_cB, .slice a_cC n_cC c_cC]) rfl rfl) rfl rfl ?_
          refine KO.pv (PV.fieldAddr fo111_0_B10 rfl) rfl rfl ?_
          refine KO.load1 ag89_B10 rfl (m6.row (i := 0) rfl) rfl rfl rfl ?_
          refine KO.call rfl rfl rfl rfl (tr_starts H5 ci a_cL n_cL c_cL _ a_cA n_cA c_cA _ a_cB n_cB c_cB _ a_cC n_cC c_cC _ a_tF n_tF c_tF _ (wrap64 (by omega) (by omega)) (V.mem m6 h_cL) (V.mem m6 h_cA) (V.mem m6 h_cB) (V.mem m6 h_cC) (V.mem m6 h_tF) (by first | omega | assumption)) fun v11 H11 q11 => ?_
          obtain ⟨o11, hv11, mc11⟩ := q11
          dsimp only at hv11 mc11
          subst hv11
          have m12 := m6.seq mc11
          rcases Bool.eq_false_or_eq_true o11 with h13 | h13
          · subst h13
            refine KO.pv (PV.notB rfl rfl) rfl rfl ?_
            refine KO.pv (PV.pickF rfl rfl rfl) rfl rfl ?_
            refine KO.pv (PV.move rfl) rfl rfl ?_
            refine KO.pv (PV.fieldAddr fo111_1_B10 rfl) rfl rfl ?_
            refine KO.load1 ag109_B10 rfl (m12.row (i := 0) rfl) rfl rfl rfl ?_
            refine KO.pv (PV.move rfl) rfl rfl ?_
            refine KO.call rfl rfl rfl rfl (ContainsFunc_bool H11 a_tI n_tI c_tI _ 151 [.pointer (some ⟨H.next, 0, none⟩)] (fun _ _ => True) (V.mem m12 h_tI) rfl (fun A mA u hu => by
    obtain ⟨xs, hxs, hV⟩ := VV.of_mem i_tI hu
    exact (tr_bad A u.1 u.2.1 u.2.2 xs H.next _ _ _ _ _ _ _ _ _ _ _ _ _ (hV.mem ((m12.seq mA))) (mA.row0 (m12.blt (i := 1) rfl) (m12.row (i := 1) rfl)) (Nat.lt_of_lt_of_le (m12.blt (i := 1) rfl) mA.next)).mono fun q hq => by obtain ⟨o, h1, h2⟩ := hq; exact ⟨o, h1, h2, trivial⟩)) fun v14 H14 q14 => ?_
            obtain ⟨c14, hv14, mc14, p14_0, p14_1⟩ := q14
            dsimp only at hv14 mc14
            subst hv14
            have m15 := m12.seq mc14
            refine KO.pv (PV.pickF rfl rfl rfl) rfl rfl ?_
            refine KO.nil ?_
            refine KC.cond rfl (fun h16 => ?_) (fun h16 => ?_)
            · subst h16
              have p14_1t := p14_1 rfl
              refine KC.seq ?_
              refine KC.region ?_
              refine KO.pv (PV.assign rfl) rfl rfl ?_
              refine KO.nil ?_
              exact KC.ret ⟨rfl, _, (.tmp rfl .nil), 8, rfl, m15.pick [] (by decide) rfl, (by first | omega | (intro h; omega) | (simp only [List.length_nil, true_and, and_true, or_true, true_or] <;> omega) | (exact fun _ => ⟨by omega, by omega, by omega⟩)), (by first | omega | (intro h; omega) | (simp only [List.length_nil, true_and, and_true, or_true, true_or] <;> omega) | (exact fun _ => by assumption)), (by first | omega | (intro h; omega) | (simp only [List.length_nil, true_and, and_true, or_true, true_or] <;> omega))⟩
            · subst h16
              have p14_0t := p14_0 rfl
              refine KC.skip ?_
              refine KC.seq ?_
              refine KC.region ?_
              refine KO.pv (PV.assign rfl) rfl rfl ?_
              refine KO.nil ?_
              exact KC.ret ⟨rfl, _, (.tmp rfl .nil), 0, rfl, m15.pick [] (by decide) rfl, (by first | omega | (intro h; omega) | (simp only [List.length_nil, true_and, and_true, or_true, true_or] <;> omega) | (exact fun _ => ⟨by omega, by omega, by omega⟩)), (by first | omega | (intro h; omega) | (simp only [List.length_nil, true_and, and_true, or_true, true_or] <;> omega) | (exact fun _ => by assumption)), (by first | omega | (intro h; omega) | (simp only [List.length_nil, true_and, and_true, or_true, true_or] <;> omega))⟩
          · subst h13
            refine KO.pv (PV.notB rfl rfl) rfl rfl ?_
            refine KO.pv (PV.pickF rfl rfl rfl) rfl rfl ?_
            refine KO.pv (PV.move rfl) rfl rfl ?_
            refine KO.no rfl rfl rfl ?_
            refine KO.no rfl rfl rfl ?_
            refine KO.no rfl rfl rfl ?_
            refine KO.no rfl rfl rfl ?_
            refine KO.pv (PV.pickT rfl rfl rfl) rfl rfl ?_
            refine KO.nil ?_
            refine KC.condT rfl ?_
            refine KC.seq ?_
            refine KC.region ?_
            refine KO.pv (PV.assign rfl) rfl rfl ?_
            refine KO.nil ?_
            exact KC.ret ⟨rfl, _, (.tmp rfl .nil), 8, rfl, m12.pick [] (by decide) rfl, (by first | omega | (intro h; omega) | (simp only [List.length_nil, true_and, and_true, or_true, true_or] <;> omega) | (exact fun _ => ⟨by omega, by omega, by omega⟩)), (by first | omega | (intro h; omega) | (simp only [List.length_nil, true_and, and_true, or_true, true_or] <;> omega) | (exact fun _ => by assumption)), (by first | omega | (intro h; omega) | (simp only [List.length_nil, true_and, and_true, or_true, true_or] <;> omega))⟩
theorem Clone_bool (H : AHeap) (a_s : Option Addr) (n_s c_s : Nat) (s : List Bool) (h_s : V EB H a_s n_s c_s s) (hm : n_s ≤ 330000000) : WF E0 161 [.slice a_s n_s c_s] H fun q => ∃ (a : Option Addr) (n : Nat) (xs : List Bool) (D : List Nat), q.1 = .slice a n n ∧ Mem [] H q.2 [R.lst 4 1 a n (cells EB xs) D] ∧ (xs = s) ∧ (n = n_s) ∧ (xs.length = n) := by
  obtain ⟨len_s, cap_s, max_s, wf_s⟩ := h_s.len
  have m0 : Mem [] H H [] := Mem.start
  refine WF.kg Tryz.func161 rfl rfl ?_
  refine KC.seq ?_
  refine KC.region ?_
  refine KO.pv (PV.assign rfl) rfl rfl ?_
  refine KO.nil ?_
  refine KC.seq ?_
  refine KC.seq ?_
  refine KC.region ?_
  refine KO.pv (PV.move rfl) rfl rfl ?_
  obtain ⟨b1, qb1⟩ : ∃ b : Bool, isNone a_s = b := ⟨_, rfl⟩
  refine KO.pv (PV.eqNilB un89_B10 rfl qb1) rfl rfl ?_
  refine KO.nil ?_
  refine KC.cond rfl (fun h2 => ?_) (fun h2 => ?_)
  · subst h2
    obtain rfl := h_s.nil0 (by assumption)
    obtain rfl := List.length_eq_zero_iff.1 len_s
    refine KC.seq ?_
    refine KC.region ?_
    refine KO.pv (PV.assign rfl) rfl rfl ?_
    refine KO.nil ?_
    have m3 := m0.lnilC EB (e := 4) none rfl
    exact KC.ret ⟨rfl, _, (.tmp rfl .nil), none, 0, [], [], rfl, m3.pick [0] (by decide) rfl, (by first | omega | (intro h; omega) | (simp only [List.length_nil, true_and, and_true, or_true, true_or] <;> omega) | rfl | (simp only [List.nil_append])), (by first | omega | (intro h; omega) | (simp only [List.length_nil, true_and, and_true, or_true, true_or] <;> omega)), (by first | omega | (intro h; omega) | (simp only [List.length_nil, true_and, and_true, or_true, true_or] <;> omega) | rfl | assumption)⟩
  · subst h2
    refine KC.skip ?_
    refine KC.seq ?_
    refine KC.region ?_
    refine KO.buildSliceM m0 el89_B10 ez4_B10 rfl rfl (show _ = some [] from rfl) rfl rfl fun H4 m5 => ?_
    refine KO.pv (PV.move rfl) rfl rfl ?_
    have m6 := m5.lnilC EB (e := 4) (some ⟨H.next, 0, none⟩) rfl
    refine KO.appendC0 (C := EB) m6 (i := 0) rfl el89_B10 ez4_B10 sb4_B10 un89_B10 rfl rfl (V.new (V.mem m6 h_s)) (by first | omega | (simp only [splice, List.length_append, List.length_set, List.length_replicate, List.length_map, List.length_take, List.length_drop, List.length_cons, List.length_nil] <;> omega)) (by first | omega | (simp only [splice, List.length_append, List.length_set, List.length_replicate, List.length_map, List.length_take, List.length_drop, List.length_cons, List.length_nil] <;> omega)) rfl rfl fun a8 D9 H7 m10 => ?_
    refine KO.pv (PV.assign rfl) rfl rfl ?_
    refine KO.nil ?_
    exact KC.ret ⟨rfl, _, (.tmp rfl .nil), a8, n_s, s, D9, rfl, m10.pick [0] (by decide) rfl, (by first | omega | (intro h; omega) | (simp only [List.length_nil, true_and, and_true, or_true, true_or] <;> omega) | rfl | (simp only [List.nil_append])), (by first | omega | (intro h; omega) | (simp only [List.length_nil, true_and, and_true, or_true, true_or] <;> omega)), (by first | omega | (intro h; omega) | (simp only [List.length_nil, true_and, and_true, or_true, true_or] <;> omega) | rfl | assumption)⟩
theorem tr_st1 (H : AHeap) (fr : Int)  (ri : Bool) (a_bd : Option Addr) (n_bd c_bd : Nat) (bd : List Bool) (b_p : Nat) (a_pl : Option Addr) (n_pl : Nat) (v_pl : List (Option Addr × Nat × Nat)) (D_pl : List Nat) (pl : List (List Bool)) (E_pl : List Nat) (a_st : Option Addr) (n_st c_st : Nat) (st : List Bool) (D_st : List Nat) (w_fr : IntKind.i64.wrap fr = fr) (h_bd : V EB H a_bd n_bd c_bd bd) (s_bd : 0 < n_bd → ∀ y, a_bd = some y → y.block ∉ ([b_p] ++ (D_pl ++ (E_pl ++ (D_st ++ []))))) (h_g : Mem ([b_p] ++ (D_pl ++ (E_pl ++ (D_st ++ [])))) H H [R.row b_p 109 true [.slice a_pl n_pl n_pl], R.lst 89 1 a_pl n_pl (cells ES v_pl) D_pl, R.inn EB v_pl pl E_pl, R.own EB a_st n_st c_st st D_st]) (hn : n_pl ≤ 1000) (hk : ∀ c ∈ pl, c.length ≤ 63000) (hs : n_st ≤ 63000) : WF E0 154 [.int .i64 fr, .slice a_st n_st c_st, .bool ri, .slice a_bd n_bd c_bd, .pointer (some ⟨b_p, 0, none⟩)] H fun q => ∃ (pa : Option Addr) (pn : Nat) (pv : List (Option Addr × Nat × Nat)) (pD : List Nat) (px : List (List Bool)) (pE : List Nat), q.1 = .bool true ∧ Mem ([b_p] ++ (D_pl ++ (E_pl ++ (D_st ++ [])))) H q.2 [R.row b_p 109 true [.slice pa pn pn], R.lst 89 1 pa pn (cells ES pv) pD, R.inn EB pv px pE] ∧ (pn = n_pl + 1 ∧ pv.length = pn) ∧ (∀ c ∈ px, c.length ≤ 63000) ∧ (V EB q.2 a_st n_st c_st st) := by
  obtain ⟨lo_fr, hi_fr⟩ := rangei64 w_fr
  obtain ⟨len_bd, cap_bd, max_bd, wf_bd⟩ := h_bd.len
  have len_pl : v_pl.length = n_pl := h_g.lstLen (E := ES) (i := 1) rfl
  have len2_pl := h_g.innLen (i := 2) rfl
  obtain ⟨len_st, cap_st, max_st, wf_st⟩ := h_g.ownLen (C := EB) (i := 3) rfl
  have m0 := h_g
  refine WF.kg Tryz.func154 rfl rfl ?_
  refine KC.seq ?_
  refine KC.region ?_
  refine KO.pv (PV.assign rfl) rfl rfl ?_
  refine KO.nil ?_
  refine KC.seq ?_
  refine KC.region ?_
  refine KO.load1 ag109_B10 rfl (m0.row (i := 0) rfl) rfl rfl rfl ?_
  refine KO.pv (PV.move rfl) rfl rfl ?_
  refine KO.buildSliceM m0 el109_B10 ez89_B10 rfl rfl (show _ = some [.slice a_st n_st c_st] from rfl) rfl rfl fun H1 m2 => ?_
  refine KO.appendC (C := ES) m2 (i := 2) rfl el109_B10 ez89_B10 sb89_B10 un109_B10 rfl rfl (newElems_row1 (C := ES) (y := (a_st, n_st, c_st)) (m2.row (i := 0) rfl) rfl) rfl (by first | omega | (simp only [splice, List.length_append, List.length_set, List.length_replicate, List.length_map, List.length_take, List.length_drop, List.length_cons, List.length_nil] <;> omega)) rfl rfl fun a4 D5 H3 m6 => ?_
  have m7 : Mem ([b_p] ++ (D_pl ++ (E_pl ++ (D_st ++ [])))) H H3 [R.inn EB v_pl pl E_pl, R.own EB a_st n_st c_st st D_st, R.row H.next 89 true [.slice a_st n_st c_st], R.row b_p 109 true [.slice a_pl n_pl n_pl], R.lst 89 1 a4 (n_pl + 1) (cells ES (v_pl ++ [(a_st, n_st, c_st)])) D5] := m6.pick [3, 4, 0, 1, 2] (by decide) rfl
  have m8 := m7.push
  refine KO.storeM m8 (i := 2) rfl sz109_B10 rfl rfl rfl (show 0 + 1 ≤ 1 by decide) (show _ = [.slice a4 (n_pl + 1) (n_pl + 1)] from rfl) rfl fun H9 m10 => ?_
  refine KO.nil ?_
  refine KC.seq ?_
  refine KC.region ?_
  refine KO.pv (PV.assign rfl) rfl rfl ?_
  refine KO.nil ?_
  exact KC.ret ⟨rfl, _, (.tmp rfl .nil), a4, (n_pl + 1), (v_pl ++ [(a_st, n_st, c_st)]), D5, (pl ++ [st]), (E_pl ++ D_st), rfl, m10.pick [2, 3, 0] (by decide) rfl, (by first | omega | (intro h; omega) | (simp only [List.length_nil, true_and, and_true, or_true, true_or] <;> omega) | (exact ⟨by omega, by first | omega | (simp only [List.length_append, List.length_cons, List.length_nil]; omega)⟩)), (by first | omega | (intro h; omega) | (simp only [List.length_nil, true_and, and_true, or_true, true_or] <;> omega) | (exact all_app hk (all_one (by omega)))), (by first | omega | (intro h; omega) | (simp only [List.length_nil, true_and, and_true, or_true, true_or] <;> omega) | (exact VV.lastV (m10.vinn (i := 0) rfl) len2_pl))⟩
theorem tr_rt1 (H : AHeap) (fr : Int) (a_st : Option Addr) (n_st c_st : Nat) (st : List Bool) (ri : Bool) (a_bd : Option Addr) (n_bd c_bd : Nat) (bd : List Bool) (b_p : Nat) (pv : Int) (w_fr : IntKind.i64.wrap fr = fr) (h_st : V EB H a_st n_st c_st st) (s_st : 0 < n_st → ∀ y, a_st = some y → y.block ∉ ([b_p] ++ [])) (h_bd : V EB H a_bd n_bd c_bd bd) (s_bd : 0 < n_bd → ∀ y, a_bd = some y → y.block ∉ ([b_p] ++ [])) (h_g : Mem ([b_p] ++ []) H H [R.row b_p 3 true [.int .i64 pv]]) (w_pv : IntKind.i64.wrap pv = pv) (h0 : 0 ≤ pv ∧ pv ≤ 1000) : WF E0 156 [.int .i64 fr, .slice a_st n_st c_st, .bool ri, .slice a_bd n_bd c_bd, .pointer (some ⟨b_p, 0, none⟩)] H fun q => ∃ (pw : Int), q.1 = .bool ri ∧ Mem ([b_p] ++ []) H q.2 [R.row b_p 3 true [.int .i64 pw]] ∧ (pv ≤ pw ∧ pw ≤ pv + 1) := by
  obtain ⟨lo_fr, hi_fr⟩ := rangei64 w_fr
  obtain ⟨len_st, cap_st, max_st, wf_st⟩ := h_st.len
  obtain ⟨len_bd, cap_bd, max_bd, wf_bd⟩ := h_bd.len
  obtain ⟨lo_pv, hi_pv⟩ := rangei64 w_pv
  have m0 := h_g
  refine WF.kg Tryz.func156 rfl rfl ?_
  refine KC.seq ?_
  refine KC.region ?_
  refine KO.pv (PV.assign rfl) rfl rfl ?_
  refine KO.nil ?_
  refine KC.seq ?_
  refine KC.seq ?_
  refine KC.region ?_
  refine KO.pv (PV.move rfl) rfl rfl ?_
  refine KO.nil ?_
  refine KC.cond rfl (fun h1 => ?_) (fun h1 => ?_)
  · subst h1
    refine KC.region ?_
    refine KO.load1 ag3_B10 rfl (m0.row (i := 0) rfl) rfl rfl rfl ?_
    refine KO.pv (PV.add rfl rfl (wrap64 (by omega) (by omega))) rfl rfl ?_
    refine KO.storeM m0 (i := 0) rfl sz3_B10 rfl rfl rfl (show 0 + 1 ≤ 1 by decide) (show _ = [.int .i64 (pv + 1)] from rfl) rfl fun H2 m3 => ?_
    refine KO.nil ?_
    refine KC.seq ?_
    refine KC.region ?_
    refine KO.pv (PV.move rfl) rfl rfl ?_
    refine KO.pv (PV.assign rfl) rfl rfl ?_
    refine KO.nil ?_
    exact KC.ret ⟨rfl, _, (.tmp rfl .nil), (pv + 1), rfl, m3.pick [0] (by decide) rfl, (by first | omega | (intro h; omega) | (simp only [List.length_nil, true_and, and_true, or_true, true_or] <;> omega))⟩
  · subst h1
    refine KC.skip ?_
    refine KC.seq ?_
    refine KC.region ?_
    refine KO.pv (PV.move rfl) rfl rfl ?_
    refine KO.pv (PV.assign rfl) rfl rfl ?_
    refine KO.nil ?_
    exact KC.ret ⟨rfl, _, (.tmp rfl .nil), pv, rfl, m0.pick [0] (by decide) rfl, (by first | omega | (intro h; omega) | (simp only [List.length_nil, true_and, and_true, or_true, true_or] <;> omega))⟩
theorem tr_wi1 (H : AHeap) (fr : Int) (a_st : Option Addr) (n_st c_st : Nat) (st : List Bool) (ri : Bool) (a_bd : Option Addr) (n_bd c_bd : Nat) (bd : List Bool)  (b_y : Nat) (a_qF : Option Addr) (n_qF c_qF : Nat) (a_qI : Option Addr) (n_qI c_qI : Nat) (b_p : Nat) (pv : Int) (w_fr : IntKind.i64.wrap fr = fr) (h_st : V EB H a_st n_st c_st st) (s_st : 0 < n_st → ∀ y, a_st = some y → y.block ∉ ([b_y] ++ ([b_p] ++ []))) (h_bd : V EB H a_bd n_bd c_bd bd) (s_bd : 0 < n_bd → ∀ y, a_bd = some y → y.block ∉ ([b_y] ++ ([b_p] ++ []))) (h_g : Mem ([b_y] ++ ([b_p] ++ [])) H H [R.row b_y 111 true [.slice a_qF n_qF c_qF, .slice a_qI n_qI c_qI], R.row b_p 3 true [.int .i64 pv]]) (w_pv : IntKind.i64.wrap pv = pv) (h0 : -1 ≤ pv ∧ pv ≤ 1000000000) (hq : n_qI ≤ 1000000000) (hb : n_bd ≤ 1000000000) : WF E0 157 [.int .i64 fr, .slice a_st n_st c_st, .bool ri, .slice a_bd n_bd c_bd, .pointer (some ⟨b_y, 0, none⟩), .pointer (some ⟨b_p, 0, none⟩)] H fun q => ∃ (pw : Int), q.1 = .bool ri ∧ Mem ([b_y] ++ ([b_p] ++ [])) H q.2 [R.row b_y 111 true [.slice a_qF n_qF c_qF, .slice a_qI n_qI c_qI], R.row b_p 3 true [.int .i64 pw]] ∧ (-1 ≤ pw ∧ pw ≤ 1000000000) := by
  obtain ⟨lo_fr, hi_fr⟩ := rangei64 w_fr
  obtain ⟨len_st, cap_st, max_st, wf_st⟩ := h_st.len
  obtain ⟨len_bd, cap_bd, max_bd, wf_bd⟩ := h_bd.len
  obtain ⟨lo_pv, hi_pv⟩ := rangei64 w_pv
  have m0 := h_g
  refine WF.kg Tryz.func157 rfl rfl ?_
  refine KC.seq ?_
  refine KC.region ?_
  refine KO.pv (PV.assign rfl) rfl rfl ?_
  refine KO.nil ?_
  refine KC.seq ?_
  refine KC.seq ?_
  refine KC.region ?_
  refine KO.pv (PV.move rfl) rfl rfl ?_
  refine KO.pv (PV.move rfl) rfl rfl ?_
  rcases Bool.eq_false_or_eq_true ri with h1 | h1
  · subst h1
    refine KO.pv (PV.move rfl) rfl rfl ?_
    refine KO.pv (PV.fieldAddr fo111_1_B10 rfl) rfl rfl ?_
    refine KO.load1 ag109_B10 rfl (m0.row (i := 0) rfl) rfl rfl rfl ?_
    refine KO.pv (PV.len un109_B10 rfl) rfl rfl ?_
    refine KO.pv (PV.sub rfl rfl (wrap64 (by omega) (by omega))) rfl rfl ?_
    refine KO.pv (PV.eqlD rfl rfl rfl) rfl rfl ?_
    refine KO.pv (PV.pickT rfl rfl rfl) rfl rfl ?_
    refine KO.nil ?_
    refine KC.condD rfl (fun h2 => ?_) (fun h2 => ?_)
    · refine KC.region ?_
      refine KO.pv (PV.move rfl) rfl rfl ?_
      refine KO.call rfl rfl rfl rfl (Index_bool H a_bd n_bd c_bd _ true (V.mem m0 h_bd s_bd)) fun v3 H3 q3 => ?_
      obtain ⟨z3, hv3, mc3, p3_0⟩ := q3
      dsimp only at hv3 mc3
      subst hv3
      have m4 := m0.seq mc3
      refine KO.storeM m4 (i := 1) rfl sz3_B10 rfl rfl rfl (show 0 + 1 ≤ 1 by decide) (show _ = [.int .i64 z3] from rfl) rfl fun H5 m6 => ?_
      refine KO.nil ?_
      refine KC.seq ?_
      refine KC.region ?_
      refine KO.pv (PV.move rfl) rfl rfl ?_
      refine KO.pv (PV.assign rfl) rfl rfl ?_
      refine KO.nil ?_
      exact KC.ret ⟨rfl, _, (.tmp rfl .nil), z3, rfl, m6.pick [0, 1] (by decide) rfl, (by first | omega | (intro h; omega) | (simp only [List.length_nil, true_and, and_true, or_true, true_or] <;> omega))⟩
    · refine KC.skip ?_
      refine KC.seq ?_
      refine KC.region ?_
      refine KO.pv (PV.move rfl) rfl rfl ?_
      refine KO.pv (PV.assign rfl) rfl rfl ?_
      refine KO.nil ?_
      exact KC.ret ⟨rfl, _, (.tmp rfl .nil), pv, rfl, m0.pick [0, 1] (by decide) rfl, (by first | omega | (intro h; omega) | (simp only [List.length_nil, true_and, and_true, or_true, true_or] <;> omega))⟩
  · subst h1
    refine KO.no rfl rfl rfl ?_
    refine KO.no rfl rfl rfl ?_
    refine KO.no rfl rfl rfl ?_
    refine KO.no rfl rfl rfl ?_
    refine KO.no rfl rfl rfl ?_
    refine KO.no rfl rfl rfl ?_
    refine KO.pv (PV.pickF rfl rfl rfl) rfl rfl ?_
    refine KO.nil ?_
    refine KC.condF rfl ?_
    refine KC.skip ?_
    refine KC.seq ?_
    refine KC.region ?_
    refine KO.pv (PV.move rfl) rfl rfl ?_
    refine KO.pv (PV.assign rfl) rfl rfl ?_
    refine KO.nil ?_
    exact KC.ret ⟨rfl, _, (.tmp rfl .nil), pv, rfl, m0.pick [0, 1] (by decide) rfl, (by first | omega | (intro h; omega) | (simp only [List.length_nil, true_and, and_true, or_true, true_or] <;> omega))⟩
theorem tr_cu1 (H : AHeap) (fr : Int) (a_st : Option Addr) (n_st c_st : Nat) (st : List Bool) (ri : Bool) (a_bd : Option Addr) (n_bd c_bd : Nat) (bd : List Bool) (b_p : Nat) (pv : Int) (w_fr : IntKind.i64.wrap fr = fr) (h_st : V EB H a_st n_st c_st st) (s_st : 0 < n_st → ∀ y, a_st = some y → y.block ∉ ([b_p] ++ [])) (h_bd : V EB H a_bd n_bd c_bd bd) (s_bd : 0 < n_bd → ∀ y, a_bd = some y → y.block ∉ ([b_p] ++ [])) (h_g : Mem ([b_p] ++ []) H H [R.row b_p 3 true [.int .i64 pv]]) (w_pv : IntKind.i64.wrap pv = pv) (h0 : 0 ≤ fr ∧ fr ≤ 1000) (h1 : 0 ≤ pv ∧ pv ≤ 1000) : WF E0 159 [.int .i64 fr, .slice a_st n_st c_st, .bool ri, .slice a_bd n_bd c_bd, .pointer (some ⟨b_p, 0, none⟩)] H fun q => ∃ (pw : Int) (o : Bool), q.1 = .bool o ∧ Mem ([b_p] ++ []) H q.2 [R.row b_p 3 true [.int .i64 pw]] ∧ (pw = pv ∨ pw = fr + 1) := by
  obtain ⟨lo_fr, hi_fr⟩ := rangei64 w_fr
  obtain ⟨len_st, cap_st, max_st, wf_st⟩ := h_st.len
  obtain ⟨len_bd, cap_bd, max_bd, wf_bd⟩ := h_bd.len
  obtain ⟨lo_pv, hi_pv⟩ := rangei64 w_pv
  have m0 := h_g
  refine WF.kg Tryz.func159 rfl rfl ?_
  refine KC.seq ?_
  refine KC.region ?_
  refine KO.pv (PV.assign rfl) rfl rfl ?_
  refine KO.nil ?_
  refine KC.seq ?_
  refine KC.seq ?_
  refine KC.region ?_
  refine KO.pv (PV.move rfl) rfl rfl ?_
  refine KO.pv (PV.move rfl) rfl rfl ?_
  rcases Bool.eq_false_or_eq_true ri with h1 | h1
  · subst h1
    refine KO.pv (PV.move rfl) rfl rfl ?_
    refine KO.call rfl rfl rfl rfl (Contains_bool H a_bd n_bd c_bd _ true (V.mem m0 h_bd s_bd)) fun v2 H2 q2 => ?_
    obtain ⟨o2, hv2, mc2⟩ := q2
    dsimp only at hv2 mc2
    subst hv2
    have m3 := m0.seq mc2
    refine KO.pv (PV.pickT rfl rfl rfl) rfl rfl ?_
    refine KO.nil ?_
    refine KC.cond rfl (fun h4 => ?_) (fun h4 => ?_)
    · subst h4
      refine KC.region ?_
      refine KO.pv (PV.move rfl) rfl rfl ?_
      refine KO.pv (PV.add rfl rfl (wrap64 (by omega) (by omega))) rfl rfl ?_
      refine KO.storeM m3 (i := 0) rfl sz3_B10 rfl rfl rfl (show 0 + 1 ≤ 1 by decide) (show _ = [.int .i64 (fr + 1)] from rfl) rfl fun H5 m6 => ?_
      refine KO.nil ?_
      refine KC.seq ?_
      refine KC.region ?_
      refine KO.pv (PV.move rfl) rfl rfl ?_
      refine KO.pv (PV.move rfl) rfl rfl ?_
      refine KO.load1 ag3_B10 rfl (m6.row (i := 0) rfl) rfl rfl rfl ?_
      refine KO.pv (PV.eqlD rfl rfl rfl) rfl rfl ?_
      refine KO.pv (PV.pickT rfl rfl rfl) rfl rfl ?_
      refine KO.pv (PV.assign rfl) rfl rfl ?_
      refine KO.nil ?_
      exact KC.ret ⟨rfl, _, (.tmp rfl .nil), (fr + 1), (decide ((fr + 1) = 0)), rfl, m6.pick [0] (by decide) rfl, (by first | omega | (intro h; omega) | (simp only [List.length_nil, true_and, and_true, or_true, true_or] <;> omega))⟩
    · subst h4
      refine KC.skip ?_
      refine KC.seq ?_
      refine KC.region ?_
      refine KO.pv (PV.move rfl) rfl rfl ?_
      refine KO.pv (PV.move rfl) rfl rfl ?_
      refine KO.load1 ag3_B10 rfl (m3.row (i := 0) rfl) rfl rfl rfl ?_
      refine KO.pv (PV.eqlD rfl rfl rfl) rfl rfl ?_
      refine KO.pv (PV.pickT rfl rfl rfl) rfl rfl ?_
      refine KO.pv (PV.assign rfl) rfl rfl ?_
      refine KO.nil ?_
      exact KC.ret ⟨rfl, _, (.tmp rfl .nil), pv, (decide (pv = 0)), rfl, m3.pick [0] (by decide) rfl, (by first | omega | (intro h; omega) | (simp only [List.length_nil, true_and, and_true, or_true, true_or] <;> omega))⟩
  · subst h1
    refine KO.no rfl rfl rfl ?_
    refine KO.no rfl rfl rfl ?_
    refine KO.pv (PV.pickF rfl rfl rfl) rfl rfl ?_
    refine KO.nil ?_
    refine KC.condF rfl ?_
    refine KC.skip ?_
    refine KC.seq ?_
    refine KC.region ?_
    refine KO.pv (PV.move rfl) rfl rfl ?_
    refine KO.pv (PV.move rfl) rfl rfl ?_
    refine KO.no rfl rfl rfl ?_
    refine KO.no rfl rfl rfl ?_
    refine KO.pv (PV.pickF rfl rfl rfl) rfl rfl ?_
    refine KO.pv (PV.assign rfl) rfl rfl ?_
    refine KO.nil ?_
    exact KC.ret ⟨rfl, _, (.tmp rfl .nil), pv, false, rfl, m0.pick [0] (by decide) rfl, (by first | omega | (intro h; omega) | (simp only [List.length_nil, true_and, and_true, or_true, true_or] <;> omega))⟩
theorem tr_walkS (H : AHeap) (ci : Int) (a_cL : Option Addr) (n_cL c_cL : Nat) (cL : List (Int × Int)) (a_cA : Option Addr) (n_cA c_cA : Nat) (cA : List (Int × Int)) (a_cB : Option Addr) (n_cB c_cB : Nat) (cB : List Int) (a_cC : Option Addr) (n_cC c_cC : Nat) (cC : List Int) (a_tF : Option Addr) (n_tF c_tF : Nat) (tF : List Bool) (a_tI : Option Addr) (n_tI c_tI : Nat) (v_tI : List (Option Addr × Nat × Nat)) (tI : List (List Bool)) (b_p : Nat) (a_pl : Option Addr) (n_pl : Nat) (v_pl : List (Option Addr × Nat × Nat)) (D_pl : List Nat) (pl : List (List Bool)) (E_pl : List Nat) (w_ci : IntKind.i64.wrap ci = ci) (h_cL : V EP H a_cL n_cL c_cL cL) (s_cL : 0 < n_cL → ∀ y, a_cL = some y → y.block ∉ ([b_p] ++ (D_pl ++ (E_pl ++ [])))) (h_cA : V EP H a_cA n_cA c_cA cA) (s_cA : 0 < n_cA → ∀ y, a_cA = some y → y.block ∉ ([b_p] ++ (D_pl ++ (E_pl ++ [])))) (h_cB : V (EI .i64) H a_cB n_cB c_cB cB) (s_cB : 0 < n_cB → ∀ y, a_cB = some y → y.block ∉ ([b_p] ++ (D_pl ++ (E_pl ++ [])))) (h_cC : V (EI .i64) H a_cC n_cC c_cC cC) (s_cC : 0 < n_cC → ∀ y, a_cC = some y → y.block ∉ ([b_p] ++ (D_pl ++ (E_pl ++ [])))) (h_tF : V EB H a_tF n_tF c_tF tF) (s_tF : 0 < n_tF → ∀ y, a_tF = some y → y.block ∉ ([b_p] ++ (D_pl ++ (E_pl ++ [])))) (h_tI : V ES H a_tI n_tI c_tI v_tI) (i_tI : VV EB H v_tI tI) (s_tI : 0 < n_tI → ∀ y, a_tI = some y → y.block ∉ ([b_p] ++ (D_pl ++ (E_pl ++ [])))) (si_tI : ∀ v ∈ v_tI, 0 < v.2.1 → ∀ y, v.1 = some y → y.block ∉ ([b_p] ++ (D_pl ++ (E_pl ++ [])))) (h_g : Mem ([b_p] ++ (D_pl ++ (E_pl ++ []))) H H [R.row b_p 109 true [.slice a_pl n_pl n_pl], R.lst 89 1 a_pl n_pl (cells ES v_pl) D_pl, R.inn EB v_pl pl E_pl]) (hF : n_tF ≤ 63000) (hL : n_cL ≤ 63000) (hl : n_pl = 0) (hk : ∀ c ∈ pl, c.length ≤ 63000) : WF E0 153 [.agg #[.int .i64 ci, .slice a_cL n_cL c_cL, .slice a_cA n_cA c_cA, .slice a_cB n_cB c_cB, .slice a_cC n_cC c_cC], .agg #[.slice a_tF n_tF c_tF, .slice a_tI n_tI c_tI], .func (.func 154) #[] #[.pointer (some ⟨b_p, 0, none⟩)]] H fun q => ∃ (pa : Option Addr) (pn : Nat) (pv : List (Option Addr × Nat × Nat)) (pD : List Nat) (px : List (List Bool)) (pE : List Nat) (e : Int), q.1 = .int .i64 e ∧ Mem ([b_p] ++ (D_pl ++ (E_pl ++ []))) H q.2 [R.row b_p 109 true [.slice pa pn pn], R.lst 89 1 pa pn (cells ES pv) pD, R.inn EB pv px pE] ∧ (pn ≤ 100 ∧ pv.length = pn) ∧ (∀ c ∈ px, c.length ≤ 63000) ∧ (0 ≤ e ∧ e ≤ 100) ∧ (e = 0 → n_tI ≤ 100) := by
  obtain ⟨lo_ci, hi_ci⟩ := rangei64 w_ci
  obtain ⟨len_cL, cap_cL, max_cL, wf_cL⟩ := h_cL.len
  obtain ⟨len_cA, cap_cA, max_cA, wf_cA⟩ := h_cA.len
  obtain ⟨len_cB, cap_cB, max_cB, wf_cB⟩ := h_cB.len
  obtain ⟨len_cC, cap_cC, max_cC, wf_cC⟩ := h_cC.len
  obtain ⟨len_tF, cap_tF, max_tF, wf_tF⟩ := h_tF.len
  obtain ⟨len_tI, cap_tI, max_tI, wf_tI⟩ := h_tI.len
  have len2_tI := i_tI.1
  have len3_tI : tI.length = n_tI := by omega
  have len_pl : v_pl.length = n_pl := h_g.lstLen (E := ES) (i := 1) rfl
  have len2_pl := h_g.innLen (i := 2) rfl
  have m0 := h_g
  refine WF.kg Tryz.func153 rfl rfl ?_
  refine KC.seq ?_
  refine KC.region ?_
  refine KO.boxM m0 rfl rfl (show _ = [.int .i64 ci, .slice a_cL n_cL c_cL, .slice a_cA n_cA c_cA, .slice a_cB n_cB c_cB, .slice a_cC n_cC c_cC] from rfl) rfl rfl fun H1 m2 => ?_
  refine KO.boxM m2 rfl rfl (show _ = [.slice a_tF n_tF c_tF, .slice a_tI n_tI c_tI] from rfl) rfl rfl fun H3 m4 => ?_
  refine KO.pv (PV.assign rfl) rfl rfl ?_
  refine KO.nil ?_
  refine KC.scope ?_
  refine KC.seq ?_
  refine KC.seq ?_
  refine KC.region ?_
  refine KO.loadN ag26_B10 sz26_B10 rfl (m4.row (i := 1) rfl) (takeN_of (p := [.int .i64 ci, .slice a_cL n_cL c_cL, .slice a_cA n_cA c_cA, .slice a_cB n_cB c_cB, .slice a_cC n_cC c_cC]) rfl rfl) rfl rfl ?_
  refine KO.loadN ag111_B10 sz111_B10 rfl (m4.row (i := 0) rfl) (takeN_of (p := [.slice a_tF n_tF c_tF, .slice a_tI n_tI c_tI]) rfl rfl) rfl rfl ?_
  refine KO.call rfl rfl rfl rfl (tr_Check H3 ci a_cL n_cL c_cL _ a_cA n_cA c_cA _ a_cB n_cB c_cB _ a_cC n_cC c_cC _ a_tF n_tF c_tF _ a_tI n_tI c_tI _ _ (wrap64 (by omega) (by omega)) (V.mem m4 h_cL s_cL) (V.mem m4 h_cA s_cA) (V.mem m4 h_cB s_cB) (V.mem m4 h_cC s_cC) (V.mem m4 h_tF s_tF) (V.mem m4 h_tI s_tI) (VV.memM m4 i_tI si_tI)) fun v5 H5 q5 => ?_
  obtain ⟨e5, hv5, mc5, p5_0, p5_1, p5_2⟩ := q5
  dsimp only at hv5 mc5
  subst hv5
  have m6 := m4.seq mc5
  refine KO.pv (PV.assign rfl) rfl rfl ?_
  refine KO.nil ?_
  refine KC.seq ?_
  refine KC.region ?_
  refine KO.pv (PV.move rfl) rfl rfl ?_
  refine KO.pv (PV.neqD rfl rfl rfl) rfl rfl ?_
  refine KO.nil ?_
  refine KC.condD rfl (fun h7 => ?_) (fun h7 => ?_)
  · refine KC.seq ?_
    refine KC.region ?_
    refine KO.pv (PV.move rfl) rfl rfl ?_
    refine KO.pv (PV.assign rfl) rfl rfl ?_
    refine KO.nil ?_
    exact KC.ret ⟨rfl, _, (.tmp rfl .nil), a_pl, n_pl, v_pl, D_pl, pl, E_pl, e5, rfl, m6.pick [2, 3, 4] (by decide) rfl, (by first | omega | (intro h; omega) | (simp only [List.length_nil, true_and, and_true, or_true, true_or] <;> omega)), (by first | omega | (intro h; omega) | (simp only [List.length_nil, true_and, and_true, or_true, true_or] <;> omega) | assumption), (by first | omega | (intro h; omega) | (simp only [List.length_nil, true_and, and_true, or_true, true_or] <;> omega)), (by first | omega | (intro h; omega) | (simp only [List.length_nil, true_and, and_true, or_true, true_or] <;> omega))⟩
  · have p5_0t := p5_0 (by omega)
    have p5_1t := p5_1 (by omega)
    obtain ⟨p5_1_i0, p5_1_al, p5_1_b, p5_1_c, p5_1_hb, p5_1_hc, p5_1_hl, p5_1_ha⟩ := id p5_1t
    first | refine KC.skip ?_ | refine KC.label ?_
    refine KC.seq ?_
    refine KC.region ?_
    refine KO.pv (PV.fieldAddr fo111_0_B10 rfl) rfl rfl ?_
    refine KO.load1 ag89_B10 rfl (m6.row (i := 0) rfl) rfl rfl rfl ?_
    refine KO.pv (PV.len un89_B10 rfl) rfl rfl ?_
    refine KO.makeSliceM (C := EB) false m6 el89_B10 ez4_B10 sb4_B10 rfl rfl (by omega) (by omega) (by omega) rfl rfl fun H8 m9 => ?_
    refine KO.pv (PV.assign rfl) rfl rfl ?_
    refine KO.nil ?_
    refine KC.seq ?_
    refine KC.region ?_
    refine KO.pv (PV.move rfl) rfl rfl ?_
    refine KO.pv (PV.fieldAddr fo111_0_B10 rfl) rfl rfl ?_
    refine KO.load1 ag89_B10 rfl (m9.row (i := 1) rfl) rfl rfl rfl ?_
    refine KO.copyW (C := EB) m9 (i := 0) rfl (V.mem m9 h_tF s_tF) el89_B10 sz4_B10 rfl rfl (by omega) (by first | omega | (simp only [splice, List.length_append, List.length_set, List.length_replicate, List.length_map, List.length_take, List.length_drop, List.length_cons, List.length_nil] <;> omega)) rfl rfl fun H10 m11 => ?_
    have m12 := m11.ownRow (C := EB) (i := 0) (sp := none) (n := ((n_tF : Int)).toNat) (c := ((n_tF : Int)).toNat) rfl (fun _ _ => trivial) (by first | omega | (simp only [splice, List.length_append, List.length_set, List.length_replicate, List.length_map, List.length_take, List.length_drop, List.length_cons, List.length_nil] <;> omega)) (by omega) (by omega)
    refine KO.nil ?_
    refine KC.seq ?_
    first | refine KC.skip ?_ | refine KC.label ?_
    refine KC.seq ?_
    refine KC.seq ?_
    refine KC.region ?_
    refine KO.pv (PV.fieldAddr fo111_1_B10 rfl) rfl rfl ?_
    refine KO.load1 ag109_B10 rfl (m12.row (i := 1) rfl) rfl rfl rfl ?_
    refine KO.pv (PV.len un109_B10 rfl) rfl rfl ?_
    refine KO.pv (PV.move rfl) rfl rfl ?_
    refine KO.nil ?_
    refine KC.block ?_
    refine KC.sub (l' := [(2, .func (.func 154) #[] #[.pointer (some ⟨b_p, 0, none⟩)]), (3, .pointer (some ⟨H.next, 0, none⟩)), (8, .slice (some ⟨H5.next, 0, none⟩) (((n_tF : Int)).toNat) (((n_tF : Int)).toNat)), (29, .slice a_tI n_tI c_tI), (30, .int .i64 (n_tI : Int)), (31, .int .i64 0)]) (.cons rfl (.cons rfl (.cons rfl (.cons rfl (.cons rfl (.cons rfl .nil)))))) ?_
    refine KC.loopN (fun kq lq A => ∃ (a8 : Option Addr) (n8 : Nat) (c8 : Nat) (l8 : List Bool) (D8 : List Nat) (x31 : Int) (a_c_b_p_0 : Option Addr) (n_c_b_p_0 : Nat) (l_c_b_p_0 : List (Option Addr × Nat × Nat)) (D_c_b_p_0 : List Nat) (i_c_b_p_0 : List (List Bool)) (E_c_b_p_0 : List Nat), kq = ((n_tI : Int) - x31).toNat ∧ lq = [(2, .func (.func 154) #[] #[.pointer (some ⟨b_p, 0, none⟩)]), (3, .pointer (some ⟨H.next, 0, none⟩)), (8, .slice a8 n8 c8), (29, .slice a_tI n_tI c_tI), (30, .int .i64 (n_tI : Int)), (31, .int .i64 x31)] ∧ Mem ([b_p] ++ (D_pl ++ (E_pl ++ []))) H A [R.own EB a8 n8 c8 l8 D8, R.row H1.next 111 true [.slice a_tF n_tF c_tF, .slice a_tI n_tI c_tI], R.row H.next 26 true [.int .i64 ci, .slice a_cL n_cL c_cL, .slice a_cA n_cA c_cA, .slice a_cB n_cB c_cB, .slice a_cC n_cC c_cC], R.row b_p 109 true [.slice a_c_b_p_0 n_c_b_p_0 n_c_b_p_0], R.lst 89 1 a_c_b_p_0 n_c_b_p_0 (cells ES l_c_b_p_0) D_c_b_p_0, R.inn EB l_c_b_p_0 i_c_b_p_0 E_c_b_p_0] ∧ (0 ≤ x31 ∧ x31 ≤ (n_tI : Int)) ∧ (l8.length = n8) ∧ (n8 ≤ 63000) ∧ ((n_c_b_p_0 : Int) = x31) ∧ (l_c_b_p_0.length = n_c_b_p_0) ∧ (∀ c ∈ i_c_b_p_0, c.length ≤ 63000)) ?_ (((n_tI : Int) - 0).toNat) ⟨(some ⟨H5.next, 0, none⟩), (((n_tF : Int)).toNat), (((n_tF : Int)).toNat), (splice (List.replicate (((n_tF : Int)).toNat) false) 0 tF), [H5.next], 0, a_pl, n_pl, v_pl, D_pl, pl, E_pl, rfl, rfl, (m12.pick [0, 1, 2, 3, 4, 5] (by decide) rfl), (by first | omega | assumption | (constructor <;> omega)), (by first | omega | (simp only [splice, List.length_append, List.length_set, List.length_replicate, List.length_map, List.length_take, List.length_drop, List.length_cons, List.length_nil] <;> omega)), (by first | omega | (simp only [splice, List.length_append, List.length_set, List.length_replicate, List.length_map, List.length_take, List.length_drop, List.length_cons, List.length_nil] <;> omega)), (by first | omega | (simp only [splice, List.length_append, List.length_set, List.length_replicate, List.length_map, List.length_take, List.length_drop, List.length_cons, List.length_nil] <;> omega)), (by first | omega | (simp only [splice, List.length_append, List.length_set, List.length_replicate, List.length_map, List.length_take, List.length_drop, List.length_cons, List.length_nil] <;> omega)), (by assumption)⟩
    rintro kq lq A13 ⟨a8, n8, c8, l8, D8, x31, a_c_b_p_0, n_c_b_p_0, l_c_b_p_0, D_c_b_p_0, i_c_b_p_0, E_c_b_p_0, rfl, rfl, m14, hr7, hl_l8, hs8, hnp, hl_l_c_b_p_0, hk_l_c_b_p_0⟩
    obtain ⟨-, hoc_l8, hob_l8, -⟩ := m14.ownLen (C := EB) (i := 0) rfl
    refine KC.seq ?_
    refine KC.region ?_
    refine KO.pv (PV.lssD rfl rfl rfl) rfl rfl ?_
    refine KO.nil ?_
    refine KC.seq ?_
    refine KC.condD rfl (fun h15 => ?_) (fun h15 => ?_)
    · first | refine KC.skip ?_ | refine KC.label ?_
      refine KC.seq ?_
      refine KC.block ?_
      refine KC.seq ?_
      refine KC.region ?_
      refine KO.pv (PV.move rfl) rfl rfl ?_
      obtain ⟨b16, o16, p16, r16, e16, ha16, hb16, hr16, hx16, hw16, hc16, ht16⟩ := V.at_ h_tI (z := x31) (by omega) (by omega)
      have hs16 : b16 ∉ ([b_p] ++ (D_pl ++ (E_pl ++ []))) := s_tI (by omega) _ ha16
      have hc16_0 : r16.cs[o16 + (x31).toNat * 1 + 0]? = some (.slice e16.1 e16.2.1 e16.2.2) := hc16 0 (by decide)
      obtain ⟨xs16, hxs16, hV16⟩ := VV.at_ i_tI hx16
      obtain ⟨len16, cap16, max16, wf16⟩ := hV16.len
      refine KO.pv (PV.indexAddrZ un109_B10 sz89_B10 rfl ha16 rfl (by omega) (by omega)) rfl rfl ?_
      refine KO.load1 ag89_B10 rfl (m14.row0M hb16 (by assumption) hr16) hc16_0 rfl rfl ?_
      refine KO.pv (PV.assign rfl) rfl rfl ?_
      refine KO.pv (PV.assign rfl) rfl rfl ?_
      refine KO.nil ?_
      refine KC.seq ?_
      refine KC.region ?_
      refine KO.loadN ag26_B10 sz26_B10 rfl (m14.row (i := 2) rfl) (takeN_of (p := [.int .i64 ci, .slice a_cL n_cL c_cL, .slice a_cA n_cA c_cA, .slice a_cB n_cB c_cB, .slice a_cC n_cC c_cC]) rfl rfl) rfl rfl ?_
      refine KO.pv (PV.move rfl) rfl rfl ?_
      refine KO.pv (PV.move rfl) rfl rfl ?_
      refine KO.call rfl rfl rfl rfl (val_Props A13 ci a_cL n_cL c_cL _ a_cA n_cA c_cA _ a_cB n_cB c_cB _ a_cC n_cC c_cC _ a8 n8 c8 _ e16.1 e16.2.1 e16.2.2 _ (wrap64 (by omega) (by omega)) (V.mem m14 h_cL s_cL) (V.mem m14 h_cA s_cA) (V.mem m14 h_cB s_cB) (V.mem m14 h_cC s_cC) (m14.vown (i := 0) rfl) (V.mem m14 hV16 (si_tI _ (List.mem_of_getElem? hx16))) (by first | omega | assumption) (by first | omega | assumption)) fun v17 H17 q17 => ?_
      obtain ⟨o17, a17, n17, e17, xs17, D17, hv17, mc17, p17_0, p17_1⟩ := q17
      dsimp only at hv17 mc17
      subst hv17
      have m18 := m14.seq mc17
      have ll17_0 : xs17.length = n17 := m18.lstLen (E := EB) (i := 0) rfl
      refine KO.pv (PV.move rfl) rfl rfl ?_
      refine KO.pv (PV.extract rfl rfl) rfl rfl ?_
      refine KO.pv (PV.extract rfl rfl) rfl rfl ?_
      refine KO.pv (PV.extract rfl rfl) rfl rfl ?_
      refine KO.pv (PV.assign rfl) rfl rfl ?_
      refine KO.pv (PV.assign rfl) rfl rfl ?_
      refine KO.pv (PV.assign rfl) rfl rfl ?_
      refine KO.nil ?_
      refine KC.seq ?_
      refine KC.seq ?_
      refine KC.region ?_
      refine KO.pv (PV.move rfl) rfl rfl ?_
      refine KO.pv (PV.neqD rfl rfl rfl) rfl rfl ?_
      refine KO.nil ?_
      refine KC.condD rfl (fun h19 => ?_) (fun h19 => ?_)
      · refine KC.seq ?_
        refine KC.region ?_
        refine KO.pv (PV.move rfl) rfl rfl ?_
        refine KO.pv (PV.assign rfl) rfl rfl ?_
        refine KO.nil ?_
        exact KC.ret ⟨rfl, _, (.tmp rfl .nil), a_c_b_p_0, n_c_b_p_0, l_c_b_p_0, D_c_b_p_0, i_c_b_p_0, E_c_b_p_0, e17, rfl, m18.pick [4, 5, 6] (by decide) rfl, (by first | omega | (intro h; omega) | (simp only [List.length_nil, true_and, and_true, or_true, true_or] <;> omega)), (by first | omega | (intro h; omega) | (simp only [List.length_nil, true_and, and_true, or_true, true_or] <;> omega) | assumption), (by first | omega | (intro h; omega) | (simp only [List.length_nil, true_and, and_true, or_true, true_or] <;> omega)), (by first | omega | (intro h; omega) | (simp only [List.length_nil, true_and, and_true, or_true, true_or] <;> omega))⟩
      · first | refine KC.skip ?_ | refine KC.label ?_
        refine KC.seq ?_
        refine KC.seq ?_
        refine KC.region ?_
        refine KO.pv (PV.move rfl) rfl rfl ?_
        refine KO.pv (PV.move rfl) rfl rfl ?_
        refine KO.pv (PV.move rfl) rfl rfl ?_
        refine KO.pv (PV.move rfl) rfl rfl ?_
        refine KO.pv (PV.move rfl) rfl rfl ?_
        have m20 : Mem ([b_p] ++ (D_pl ++ (E_pl ++ []))) H H17 [R.row b_p 109 true [.slice a_c_b_p_0 n_c_b_p_0 n_c_b_p_0], R.lst 89 1 a_c_b_p_0 n_c_b_p_0 (cells ES l_c_b_p_0) D_c_b_p_0, R.inn EB l_c_b_p_0 i_c_b_p_0 E_c_b_p_0, R.own EB a8 n8 c8 l8 D8, R.lst 4 1 a17 n17 (cells EB xs17) D17, R.row H1.next 111 true [.slice a_tF n_tF c_tF, .slice a_tI n_tI c_tI], R.row H.next 26 true [.int .i64 ci, .slice a_cL n_cL c_cL, .slice a_cA n_cA c_cA, .slice a_cB n_cB c_cB, .slice a_cC n_cC c_cC]] := m18.pick [4, 5, 6, 1, 0, 2, 3] (by decide) rfl
        refine KO.callV rfl rfl rfl rfl rfl (tr_st1 H17 x31 o17 a17 n17 n17 _ b_p _ _ _ D_c_b_p_0 _ E_c_b_p_0 a8 n8 c8 _ D8 (wrap64 (by omega) (by omega)) (m20.vlst (i := 4) rfl (fun _ _ => trivial) (by first | omega | (simp only [splice, List.length_append, List.length_set, List.length_replicate, List.length_map, List.length_take, List.length_drop, List.length_cons, List.length_nil] <;> omega))) (sepCons (m20.sepLst (k := 4) (i := 0) rfl rfl (by decide)) (sepCons (m20.sepLst (k := 4) (i := 1) rfl rfl (by decide)) (sepCons (m20.sepLst (k := 4) (i := 2) rfl rfl (by decide)) (sepCons (m20.sepLst (k := 4) (i := 3) rfl rfl (by decide)) sepEnd)))) (m20.ownK (Rs := [R.row b_p 109 true [.slice a_c_b_p_0 n_c_b_p_0 n_c_b_p_0], R.lst 89 1 a_c_b_p_0 n_c_b_p_0 (cells ES l_c_b_p_0) D_c_b_p_0, R.inn EB l_c_b_p_0 i_c_b_p_0 E_c_b_p_0, R.own EB a8 n8 c8 l8 D8])) (by first | omega | assumption) (by first | assumption | exact all_nil) (by first | omega | assumption)) fun v21 H21 q21 => ?_
        obtain ⟨pa21, pn21, pv21, pD21, px21, pE21, hv21, mc21, p21_0, p21_1, p21_2⟩ := q21
        dsimp only at hv21 mc21
        subst hv21
        have m22 := m20.seqK (Rs := [R.row b_p 109 true [.slice a_c_b_p_0 n_c_b_p_0 n_c_b_p_0], R.lst 89 1 a_c_b_p_0 n_c_b_p_0 (cells ES l_c_b_p_0) D_c_b_p_0, R.inn EB l_c_b_p_0 i_c_b_p_0 E_c_b_p_0, R.own EB a8 n8 c8 l8 D8]) mc21
        refine KO.pv (PV.notB rfl rfl) rfl rfl ?_
        refine KO.nil ?_
        refine KC.condF rfl ?_
        first | refine KC.skip ?_ | refine KC.label ?_
        refine KC.seq ?_
        refine KC.region ?_
        refine KO.loadN ag26_B10 sz26_B10 rfl (m22.row (i := 5) rfl) (takeN_of (p := [.int .i64 ci, .slice a_cL n_cL c_cL, .slice a_cA n_cA c_cA, .slice a_cB n_cB c_cB, .slice a_cC n_cC c_cC]) rfl rfl) rfl rfl ?_
        refine KO.pv (PV.move rfl) rfl rfl ?_
        refine KO.pv (PV.move rfl) rfl rfl ?_
        refine KO.call rfl rfl rfl rfl (val_Next H21 ci a_cL n_cL c_cL _ a_cA n_cA c_cA _ a_cB n_cB c_cB _ a_cC n_cC c_cC _ a8 n8 c8 _ e16.1 e16.2.1 e16.2.2 _ (wrap64 (by omega) (by omega)) (V.mem m22 h_cL s_cL) (V.mem m22 h_cA s_cA) (V.mem m22 h_cB s_cB) (V.mem m22 h_cC s_cC) p21_2 (V.mem m22 hV16 (si_tI _ (List.mem_of_getElem? hx16))) (by first | omega | assumption)) fun v23 H23 q23 => ?_
        obtain ⟨a23, n23, e23, xs23, D23, hv23, mc23, p23_0, p23_1, p23_2⟩ := q23
        dsimp only at hv23 mc23
        subst hv23
        have m24 := m22.seq mc23
        have ll23_0 : xs23.length = n23 := m24.lstLen (E := EB) (i := 0) rfl
        refine KO.pv (PV.move rfl) rfl rfl ?_
        refine KO.pv (PV.extract rfl rfl) rfl rfl ?_
        refine KO.pv (PV.extract rfl rfl) rfl rfl ?_
        refine KO.pv (PV.assign rfl) rfl rfl ?_
        refine KO.pv (PV.assign rfl) rfl rfl ?_
        refine KO.nil ?_
        refine KC.seq ?_
        refine KC.region ?_
        refine KO.pv (PV.move rfl) rfl rfl ?_
        refine KO.pv (PV.neqD rfl rfl rfl) rfl rfl ?_
        refine KO.nil ?_
        refine KC.condD rfl (fun h25 => ?_) (fun h25 => ?_)
        · refine KC.seq ?_
          refine KC.region ?_
          refine KO.pv (PV.move rfl) rfl rfl ?_
          refine KO.pv (PV.assign rfl) rfl rfl ?_
          refine KO.nil ?_
          exact KC.ret ⟨rfl, _, (.tmp rfl .nil), pa21, pn21, pv21, pD21, px21, pE21, e23, rfl, m24.pick [1, 2, 3] (by decide) rfl, (by first | omega | (intro h; omega) | (simp only [List.length_nil, true_and, and_true, or_true, true_or] <;> omega)), (by first | omega | (intro h; omega) | (simp only [List.length_nil, true_and, and_true, or_true, true_or] <;> omega) | assumption), (by first | omega | (intro h; omega) | (simp only [List.length_nil, true_and, and_true, or_true, true_or] <;> omega)), (by first | omega | (intro h; omega) | (simp only [List.length_nil, true_and, and_true, or_true, true_or] <;> omega))⟩
        · have p23_1t := p23_1 (by omega)
          obtain ⟨p23_1_i0, p23_1_al, p23_1_b, p23_1_c, p23_1_hb, p23_1_hc, p23_1_hl, p23_1_ha⟩ := id p23_1t
          first | refine KC.skip ?_ | refine KC.label ?_
          refine KC.region ?_
          refine KO.pv (PV.add rfl rfl (wrap64 (by omega) (by omega))) rfl rfl ?_
          refine KO.pv (PV.move rfl) rfl rfl ?_
          refine KO.nil ?_
          have m26 := m24.ownLst (C := EB) (i := 0) rfl (fun _ _ => trivial) (by first | omega | (simp only [splice, List.length_append, List.length_set, List.length_replicate, List.length_map, List.length_take, List.length_drop, List.length_cons, List.length_nil] <;> omega))
          exact ⟨_, _, (by omega), (.cons rfl (.cons rfl (.cons rfl (.cons rfl (.cons rfl (.cons rfl .nil)))))), a23, n23, n23, xs23, D23, (x31 + 1), pa21, pn21, pv21, pD21, px21, pE21, rfl, rfl, (m26.pick [0, 5, 6, 1, 2, 3] (by decide) rfl), (by first | omega | assumption | (constructor <;> omega)), (by first | omega | (simp only [splice, List.length_append, List.length_set, List.length_replicate, List.length_map, List.length_take, List.length_drop, List.length_cons, List.length_nil] <;> omega)), (by first | omega | (simp only [splice, List.length_append, List.length_set, List.length_replicate, List.length_map, List.length_take, List.length_drop, List.length_cons, List.length_nil] <;> omega)), (by first | omega | (simp only [splice, List.length_append, List.length_set, List.length_replicate, List.length_map, List.length_take, List.length_drop, List.length_cons, List.length_nil] <;> omega)), (by first | omega | (simp only [splice, List.length_append, List.length_set, List.length_replicate, List.length_map, List.length_take, List.length_drop, List.length_cons, List.length_nil] <;> omega)), (by assumption)⟩
    · refine KC.exit ?_
      refine KC.seq ?_
      refine KC.region ?_
      refine KO.pv (PV.assign rfl) rfl rfl ?_
      refine KO.nil ?_
      exact KC.ret ⟨rfl, _, (.tmp rfl .nil), a_c_b_p_0, n_c_b_p_0, l_c_b_p_0, D_c_b_p_0, i_c_b_p_0, E_c_b_p_0, 0, rfl, m14.pick [3, 4, 5] (by decide) rfl, (by first | omega | (intro h; omega) | (simp only [List.length_nil, true_and, and_true, or_true, true_or] <;> omega)), (by first | omega | (intro h; omega) | (simp only [List.length_nil, true_and, and_true, or_true, true_or] <;> omega) | assumption), (by first | omega | (intro h; omega) | (simp only [List.length_nil, true_and, and_true, or_true, true_or] <;> omega)), (by first | omega | (intro h; omega) | (simp only [List.length_nil, true_and, and_true, or_true, true_or] <;> omega))⟩
theorem tr_walkR (H : AHeap) (ci : Int) (a_cL : Option Addr) (n_cL c_cL : Nat) (cL : List (Int × Int)) (a_cA : Option Addr) (n_cA c_cA : Nat) (cA : List (Int × Int)) (a_cB : Option Addr) (n_cB c_cB : Nat) (cB : List Int) (a_cC : Option Addr) (n_cC c_cC : Nat) (cC : List Int) (a_tF : Option Addr) (n_tF c_tF : Nat) (tF : List Bool) (a_tI : Option Addr) (n_tI c_tI : Nat) (v_tI : List (Option Addr × Nat × Nat)) (tI : List (List Bool)) (b_p : Nat) (pv : Int) (w_ci : IntKind.i64.wrap ci = ci) (h_cL : V EP H a_cL n_cL c_cL cL) (s_cL : 0 < n_cL → ∀ y, a_cL = some y → y.block ∉ ([b_p] ++ [])) (h_cA : V EP H a_cA n_cA c_cA cA) (s_cA : 0 < n_cA → ∀ y, a_cA = some y → y.block ∉ ([b_p] ++ [])) (h_cB : V (EI .i64) H a_cB n_cB c_cB cB) (s_cB : 0 < n_cB → ∀ y, a_cB = some y → y.block ∉ ([b_p] ++ [])) (h_cC : V (EI .i64) H a_cC n_cC c_cC cC) (s_cC : 0 < n_cC → ∀ y, a_cC = some y → y.block ∉ ([b_p] ++ [])) (h_tF : V EB H a_tF n_tF c_tF tF) (s_tF : 0 < n_tF → ∀ y, a_tF = some y → y.block ∉ ([b_p] ++ [])) (h_tI : V ES H a_tI n_tI c_tI v_tI) (i_tI : VV EB H v_tI tI) (s_tI : 0 < n_tI → ∀ y, a_tI = some y → y.block ∉ ([b_p] ++ [])) (si_tI : ∀ v ∈ v_tI, 0 < v.2.1 → ∀ y, v.1 = some y → y.block ∉ ([b_p] ++ [])) (h_g : Mem ([b_p] ++ []) H H [R.row b_p 3 true [.int .i64 pv]]) (w_pv : IntKind.i64.wrap pv = pv) (hF : n_tF ≤ 63000) (hL : n_cL ≤ 63000) (h0 : pv = 0) : WF E0 153 [.agg #[.int .i64 ci, .slice a_cL n_cL c_cL, .slice a_cA n_cA c_cA, .slice a_cB n_cB c_cB, .slice a_cC n_cC c_cC], .agg #[.slice a_tF n_tF c_tF, .slice a_tI n_tI c_tI], .func (.func 156) #[] #[.pointer (some ⟨b_p, 0, none⟩)]] H fun q => ∃ (pw : Int) (e : Int), q.1 = .int .i64 e ∧ Mem ([b_p] ++ []) H q.2 [R.row b_p 3 true [.int .i64 pw]] ∧ (0 ≤ pw ∧ pw ≤ 100) ∧ (0 ≤ e ∧ e ≤ 100) ∧ (e = 0 → n_tI ≤ 100) := by
  obtain ⟨lo_ci, hi_ci⟩ := rangei64 w_ci
  obtain ⟨len_cL, cap_cL, max_cL, wf_cL⟩ := h_cL.len
  obtain ⟨len_cA, cap_cA, max_cA, wf_cA⟩ := h_cA.len
  obtain ⟨len_cB, cap_cB, max_cB, wf_cB⟩ := h_cB.len
  obtain ⟨len_cC, cap_cC, max_cC, wf_cC⟩ := h_cC.len
  obtain ⟨len_tF, cap_tF, max_tF, wf_tF⟩ := h_tF.len
  obtain ⟨len_tI, cap_tI, max_tI, wf_tI⟩ := h_tI.len
  have len2_tI := i_tI.1
  have len3_tI : tI.length = n_tI := by omega
  obtain ⟨lo_pv, hi_pv⟩ := rangei64 w_pv
  have m0 := h_g
  refine WF.kg Tryz.func153 rfl rfl ?_
  refine KC.seq ?_
  refine KC.region ?_
  refine KO.boxM m0 rfl rfl (show _ = [.int .i64 ci, .slice a_cL n_cL c_cL, .slice a_cA n_cA c_cA, .slice a_cB n_cB c_cB, .slice a_cC n_cC c_cC] from rfl) rfl rfl fun H1 m2 => ?_
  refine KO.boxM m2 rfl rfl (show _ = [.slice a_tF n_tF c_tF, .slice a_tI n_tI c_tI] from rfl) rfl rfl fun H3 m4 => ?_
  refine KO.pv (PV.assign rfl) rfl rfl ?_
  refine KO.nil ?_
  refine KC.scope ?_
  refine KC.seq ?_
  refine KC.seq ?_
  refine KC.region ?_
  refine KO.loadN ag26_B10 sz26_B10 rfl (m4.row (i := 1) rfl) (takeN_of (p := [.int .i64 ci, .slice a_cL n_cL c_cL, .slice a_cA n_cA c_cA, .slice a_cB n_cB c_cB, .slice a_cC n_cC c_cC]) rfl rfl) rfl rfl ?_
  refine KO.loadN ag111_B10 sz111_B10 rfl (m4.row (i := 0) rfl) (takeN_of (p := [.slice a_tF n_tF c_tF, .slice a_tI n_tI c_tI]) rfl rfl) rfl rfl ?_
  refine KO.call rfl rfl rfl rfl (tr_Check H3 ci a_cL n_cL c_cL _ a_cA n_cA c_cA _ a_cB n_cB c_cB _ a_cC n_cC c_cC _ a_tF n_tF c_tF _ a_tI n_tI c_tI _ _ (wrap64 (by omega) (by omega)) (V.mem m4 h_cL s_cL) (V.mem m4 h_cA s_cA) (V.mem m4 h_cB s_cB) (V.mem m4 h_cC s_cC) (V.mem m4 h_tF s_tF) (V.mem m4 h_tI s_tI) (VV.memM m4 i_tI si_tI)) fun v5 H5 q5 => ?_
  obtain ⟨e5, hv5, mc5, p5_0, p5_1, p5_2⟩ := q5
  dsimp only at hv5 mc5
  subst hv5
  have m6 := m4.seq mc5
  refine KO.pv (PV.assign rfl) rfl rfl ?_
  refine KO.nil ?_
  refine KC.seq ?_
  refine KC.region ?_
  refine KO.pv (PV.move rfl) rfl rfl ?_
  refine KO.pv (PV.neqD rfl rfl rfl) rfl rfl ?_
  refine KO.nil ?_
  refine KC.condD rfl (fun h7 => ?_) (fun h7 => ?_)
  · refine KC.seq ?_
    refine KC.region ?_
    refine KO.pv (PV.move rfl) rfl rfl ?_
    refine KO.pv (PV.assign rfl) rfl rfl ?_
    refine KO.nil ?_
    exact KC.ret ⟨rfl, _, (.tmp rfl .nil), pv, e5, rfl, m6.pick [2] (by decide) rfl, (by first | omega | (intro h; omega) | (simp only [List.length_nil, true_and, and_true, or_true, true_or] <;> omega)), (by first | omega | (intro h; omega) | (simp only [List.length_nil, true_and, and_true, or_true, true_or] <;> omega)), (by first | omega | (intro h; omega) | (simp only [List.length_nil, true_and, and_true, or_true, true_or] <;> omega))⟩
  · have p5_0t := p5_0 (by omega)
    have p5_1t := p5_1 (by omega)
    obtain ⟨p5_1_i0, p5_1_al, p5_1_b, p5_1_c, p5_1_hb, p5_1_hc, p5_1_hl, p5_1_ha⟩ := id p5_1t
    first | refine KC.skip ?_ | refine KC.label ?_
    refine KC.seq ?_
    refine KC.region ?_
    refine KO.pv (PV.fieldAddr fo111_0_B10 rfl) rfl rfl ?_
    refine KO.load1 ag89_B10 rfl (m6.row (i := 0) rfl) rfl rfl rfl ?_
    refine KO.pv (PV.len un89_B10 rfl) rfl rfl ?_
    refine KO.makeSliceM (C := EB) false m6 el89_B10 ez4_B10 sb4_B10 rfl rfl (by omega) (by omega) (by omega) rfl rfl fun H8 m9 => ?_
    refine KO.pv (PV.assign rfl) rfl rfl ?_
    refine KO.nil ?_
    refine KC.seq ?_
    refine KC.region ?_
    refine KO.pv (PV.move rfl) rfl rfl ?_
    refine KO.pv (PV.fieldAddr fo111_0_B10 rfl) rfl rfl ?_
    refine KO.load1 ag89_B10 rfl (m9.row (i := 1) rfl) rfl rfl rfl ?_
    refine KO.copyW (C := EB) m9 (i := 0) rfl (V.mem m9 h_tF s_tF) el89_B10 sz4_B10 rfl rfl (by omega) (by first | omega | (simp only [splice, List.length_append, List.length_set, List.length_replicate, List.length_map, List.length_take, List.length_drop, List.length_cons, List.length_nil] <;> omega)) rfl rfl fun H10 m11 => ?_
    have m12 := m11.ownRow (C := EB) (i := 0) (sp := none) (n := ((n_tF : Int)).toNat) (c := ((n_tF : Int)).toNat) rfl (fun _ _ => trivial) (by first | omega | (simp only [splice, List.length_append, List.length_set, List.length_replicate, List.length_map, List.length_take, List.length_drop, List.length_cons, List.length_nil] <;> omega)) (by omega) (by omega)
    refine KO.nil ?_
    refine KC.seq ?_
    first | refine KC.skip ?_ | refine KC.label ?_
    refine KC.seq ?_
    refine KC.seq ?_
    refine KC.region ?_
    refine KO.pv (PV.fieldAddr fo111_1_B10 rfl) rfl rfl ?_
    refine KO.load1 ag109_B10 rfl (m12.row (i := 1) rfl) rfl rfl rfl ?_
    refine KO.pv (PV.len un109_B10 rfl) rfl rfl ?_
    refine KO.pv (PV.move rfl) rfl rfl ?_
    refine KO.nil ?_
    refine KC.block ?_
    refine KC.sub (l' := [(2, .func (.func 156) #[] #[.pointer (some ⟨b_p, 0, none⟩)]), (3, .pointer (some ⟨H.next, 0, none⟩)), (8, .slice (some ⟨H5.next, 0, none⟩) (((n_tF : Int)).toNat) (((n_tF : Int)).toNat)), (29, .slice a_tI n_tI c_tI), (30, .int .i64 (n_tI : Int)), (31, .int .i64 0)]) (.cons rfl (.cons rfl (.cons rfl (.cons rfl (.cons rfl (.cons rfl .nil)))))) ?_
    refine KC.loopN (fun kq lq A => ∃ (a8 : Option Addr) (n8 : Nat) (c8 : Nat) (l8 : List Bool) (D8 : List Nat) (x31 : Int) (c_b_p_0 : Int), kq = ((n_tI : Int) - x31).toNat ∧ lq = [(2, .func (.func 156) #[] #[.pointer (some ⟨b_p, 0, none⟩)]), (3, .pointer (some ⟨H.next, 0, none⟩)), (8, .slice a8 n8 c8), (29, .slice a_tI n_tI c_tI), (30, .int .i64 (n_tI : Int)), (31, .int .i64 x31)] ∧ Mem ([b_p] ++ []) H A [R.own EB a8 n8 c8 l8 D8, R.row H1.next 111 true [.slice a_tF n_tF c_tF, .slice a_tI n_tI c_tI], R.row H.next 26 true [.int .i64 ci, .slice a_cL n_cL c_cL, .slice a_cA n_cA c_cA, .slice a_cB n_cB c_cB, .slice a_cC n_cC c_cC], R.row b_p 3 true [.int .i64 c_b_p_0]] ∧ (0 ≤ x31 ∧ x31 ≤ (n_tI : Int)) ∧ (l8.length = n8) ∧ (n8 ≤ 63000) ∧ (0 ≤ c_b_p_0 ∧ c_b_p_0 ≤ x31)) ?_ (((n_tI : Int) - 0).toNat) ⟨(some ⟨H5.next, 0, none⟩), (((n_tF : Int)).toNat), (((n_tF : Int)).toNat), (splice (List.replicate (((n_tF : Int)).toNat) false) 0 tF), [H5.next], 0, pv, rfl, rfl, (m12.pick [0, 1, 2, 3] (by decide) rfl), (by first | omega | assumption | (constructor <;> omega)), (by first | omega | (simp only [splice, List.length_append, List.length_set, List.length_replicate, List.length_map, List.length_take, List.length_drop, List.length_cons, List.length_nil] <;> omega)), (by first | omega | (simp only [splice, List.length_append, List.length_set, List.length_replicate, List.length_map, List.length_take, List.length_drop, List.length_cons, List.length_nil] <;> omega)), (by first | omega | (simp only [splice, List.length_append, List.length_set, List.length_replicate, List.length_map, List.length_take, List.length_drop, List.length_cons, List.length_nil] <;> omega))⟩
    rintro kq lq A13 ⟨a8, n8, c8, l8, D8, x31, c_b_p_0, rfl, rfl, m14, hr7, hl_l8, hs8, hp⟩
    obtain ⟨-, hoc_l8, hob_l8, -⟩ := m14.ownLen (C := EB) (i := 0) rfl
    refine KC.seq ?_
    refine KC.region ?_
    refine KO.pv (PV.lssD rfl rfl rfl) rfl rfl ?_
    refine KO.nil ?_
    refine KC.seq ?_
    refine KC.condD rfl (fun h15 => ?_) (fun h15 => ?_)
    · first | refine KC.skip ?_ | refine KC.label ?_
      refine KC.seq ?_
      refine KC.block ?_
      refine KC.seq ?_
      refine KC.region ?_
      refine KO.pv (PV.move rfl) rfl rfl ?_
      obtain ⟨b16, o16, p16, r16, e16, ha16, hb16, hr16, hx16, hw16, hc16, ht16⟩ := V.at_ h_tI (z := x31) (by omega) (by omega)
      have hs16 : b16 ∉ ([b_p] ++ []) := s_tI (by omega) _ ha16
      have hc16_0 : r16.cs[o16 + (x31).toNat * 1 + 0]? = some (.slice e16.1 e16.2.1 e16.2.2) := hc16 0 (by decide)
      obtain ⟨xs16, hxs16, hV16⟩ := VV.at_ i_tI hx16
      obtain ⟨len16, cap16, max16, wf16⟩ := hV16.len
      refine KO.pv (PV.indexAddrZ un109_B10 sz89_B10 rfl ha16 rfl (by omega) (by omega)) rfl rfl ?_
      refine KO.load1 ag89_B10 rfl (m14.row0M hb16 (by assumption) hr16) hc16_0 rfl rfl ?_
      refine KO.pv (PV.assign rfl) rfl rfl ?_
      refine KO.pv (PV.assign rfl) rfl rfl ?_
      refine KO.nil ?_
      refine KC.seq ?_
      refine KC.region ?_
      refine KO.loadN ag26_B10 sz26_B10 rfl (m14.row (i := 2) rfl) (takeN_of (p := [.int .i64 ci, .slice a_cL n_cL c_cL, .slice a_cA n_cA c_cA, .slice a_cB n_cB c_cB, .slice a_cC n_cC c_cC]) rfl rfl) rfl rfl ?_
      refine KO.pv (PV.move rfl) rfl rfl ?_
      refine KO.pv (PV.move rfl) rfl rfl ?_
      refine KO.call rfl rfl rfl rfl (val_Props A13 ci a_cL n_cL c_cL _ a_cA n_cA c_cA _ a_cB n_cB c_cB _ a_cC n_cC c_cC _ a8 n8 c8 _ e16.1 e16.2.1 e16.2.2 _ (wrap64 (by omega) (by omega)) (V.mem m14 h_cL s_cL) (V.mem m14 h_cA s_cA) (V.mem m14 h_cB s_cB) (V.mem m14 h_cC s_cC) (m14.vown (i := 0) rfl) (V.mem m14 hV16 (si_tI _ (List.mem_of_getElem? hx16))) (by first | omega | assumption) (by first | omega | assumption)) fun v17 H17 q17 => ?_
      obtain ⟨o17, a17, n17, e17, xs17, D17, hv17, mc17, p17_0, p17_1⟩ := q17
      dsimp only at hv17 mc17
      subst hv17
      have m18 := m14.seq mc17
      have ll17_0 : xs17.length = n17 := m18.lstLen (E := EB) (i := 0) rfl
      refine KO.pv (PV.move rfl) rfl rfl ?_
      refine KO.pv (PV.extract rfl rfl) rfl rfl ?_
      refine KO.pv (PV.extract rfl rfl) rfl rfl ?_
      refine KO.pv (PV.extract rfl rfl) rfl rfl ?_
      refine KO.pv (PV.assign rfl) rfl rfl ?_
      refine KO.pv (PV.assign rfl) rfl rfl ?_
      refine KO.pv (PV.assign rfl) rfl rfl ?_
      refine KO.nil ?_
      refine KC.seq ?_
      refine KC.seq ?_
      refine KC.region ?_
      refine KO.pv (PV.move rfl) rfl rfl ?_
      refine KO.pv (PV.neqD rfl rfl rfl) rfl rfl ?_
      refine KO.nil ?_
      refine KC.condD rfl (fun h19 => ?_) (fun h19 => ?_)
      · refine KC.seq ?_
        refine KC.region ?_
        refine KO.pv (PV.move rfl) rfl rfl ?_
        refine KO.pv (PV.assign rfl) rfl rfl ?_
        refine KO.nil ?_
        exact KC.ret ⟨rfl, _, (.tmp rfl .nil), c_b_p_0, e17, rfl, m18.pick [4] (by decide) rfl, (by first | omega | (intro h; omega) | (simp only [List.length_nil, true_and, and_true, or_true, true_or] <;> omega)), (by first | omega | (intro h; omega) | (simp only [List.length_nil, true_and, and_true, or_true, true_or] <;> omega)), (by first | omega | (intro h; omega) | (simp only [List.length_nil, true_and, and_true, or_true, true_or] <;> omega))⟩
      · first | refine KC.skip ?_ | refine KC.label ?_
        refine KC.seq ?_
        refine KC.seq ?_
        refine KC.region ?_
        refine KO.pv (PV.move rfl) rfl rfl ?_
        refine KO.pv (PV.move rfl) rfl rfl ?_
        refine KO.pv (PV.move rfl) rfl rfl ?_
        refine KO.pv (PV.move rfl) rfl rfl ?_
        refine KO.pv (PV.move rfl) rfl rfl ?_
        have m20 : Mem ([b_p] ++ []) H H17 [R.row b_p 3 true [.int .i64 c_b_p_0], R.lst 4 1 a17 n17 (cells EB xs17) D17, R.own EB a8 n8 c8 l8 D8, R.row H1.next 111 true [.slice a_tF n_tF c_tF, .slice a_tI n_tI c_tI], R.row H.next 26 true [.int .i64 ci, .slice a_cL n_cL c_cL, .slice a_cA n_cA c_cA, .slice a_cB n_cB c_cB, .slice a_cC n_cC c_cC]] := m18.pick [4, 0, 1, 2, 3] (by decide) rfl
        refine KO.callV rfl rfl rfl rfl rfl (tr_rt1 H17 x31 a8 n8 c8 _ o17 a17 n17 n17 _ b_p c_b_p_0 (wrap64 (by omega) (by omega)) (m20.vown (i := 2) rfl) (sepCons (m20.sepOwn (k := 2) (i := 0) rfl rfl (by decide)) sepEnd) (m20.vlst (i := 1) rfl (fun _ _ => trivial) (by first | omega | (simp only [splice, List.length_append, List.length_set, List.length_replicate, List.length_map, List.length_take, List.length_drop, List.length_cons, List.length_nil] <;> omega))) (sepCons (m20.sepLst (k := 1) (i := 0) rfl rfl (by decide)) sepEnd) (m20.ownK (Rs := [R.row b_p 3 true [.int .i64 c_b_p_0]])) (wrap64 (by omega) (by omega)) (by first | omega | assumption)) fun v21 H21 q21 => ?_
        obtain ⟨pw21, hv21, mc21, p21_0⟩ := q21
        dsimp only at hv21 mc21
        subst hv21
        have m22 := m20.seqK (Rs := [R.row b_p 3 true [.int .i64 c_b_p_0]]) mc21
        rcases Bool.eq_false_or_eq_true o17 with h23 | h23
        · subst h23
          refine KO.pv (PV.notB rfl rfl) rfl rfl ?_
          refine KO.nil ?_
          refine KC.condF rfl ?_
          first | refine KC.skip ?_ | refine KC.label ?_
          refine KC.seq ?_
          refine KC.region ?_
          refine KO.loadN ag26_B10 sz26_B10 rfl (m22.row (i := 4) rfl) (takeN_of (p := [.int .i64 ci, .slice a_cL n_cL c_cL, .slice a_cA n_cA c_cA, .slice a_cB n_cB c_cB, .slice a_cC n_cC c_cC]) rfl rfl) rfl rfl ?_
          refine KO.pv (PV.move rfl) rfl rfl ?_
          refine KO.pv (PV.move rfl) rfl rfl ?_
          refine KO.call rfl rfl rfl rfl (val_Next H21 ci a_cL n_cL c_cL _ a_cA n_cA c_cA _ a_cB n_cB c_cB _ a_cC n_cC c_cC _ a8 n8 c8 _ e16.1 e16.2.1 e16.2.2 _ (wrap64 (by omega) (by omega)) (V.mem m22 h_cL s_cL) (V.mem m22 h_cA s_cA) (V.mem m22 h_cB s_cB) (V.mem m22 h_cC s_cC) (m22.vown (i := 2) rfl) (V.mem m22 hV16 (si_tI _ (List.mem_of_getElem? hx16))) (by first | omega | assumption)) fun v24 H24 q24 => ?_
          obtain ⟨a24, n24, e24, xs24, D24, hv24, mc24, p24_0, p24_1, p24_2⟩ := q24
          dsimp only at hv24 mc24
          subst hv24
          have m25 := m22.seq mc24
          have ll24_0 : xs24.length = n24 := m25.lstLen (E := EB) (i := 0) rfl
          refine KO.pv (PV.move rfl) rfl rfl ?_
          refine KO.pv (PV.extract rfl rfl) rfl rfl ?_
          refine KO.pv (PV.extract rfl rfl) rfl rfl ?_
          refine KO.pv (PV.assign rfl) rfl rfl ?_
          refine KO.pv (PV.assign rfl) rfl rfl ?_
          refine KO.nil ?_
          refine KC.seq ?_
          refine KC.region ?_
          refine KO.pv (PV.move rfl) rfl rfl ?_
          refine KO.pv (PV.neqD rfl rfl rfl) rfl rfl ?_
          refine KO.nil ?_
          refine KC.condD rfl (fun h26 => ?_) (fun h26 => ?_)
          · refine KC.seq ?_
            refine KC.region ?_
            refine KO.pv (PV.move rfl) rfl rfl ?_
            refine KO.pv (PV.assign rfl) rfl rfl ?_
            refine KO.nil ?_
            exact KC.ret ⟨rfl, _, (.tmp rfl .nil), pw21, e24, rfl, m25.pick [1] (by decide) rfl, (by first | omega | (intro h; omega) | (simp only [List.length_nil, true_and, and_true, or_true, true_or] <;> omega)), (by first | omega | (intro h; omega) | (simp only [List.length_nil, true_and, and_true, or_true, true_or] <;> omega)), (by first | omega | (intro h; omega) | (simp only [List.length_nil, true_and, and_true, or_true, true_or] <;> omega))⟩
          · have p24_1t := p24_1 (by omega)
            obtain ⟨p24_1_i0, p24_1_al, p24_1_b, p24_1_c, p24_1_hb, p24_1_hc, p24_1_hl, p24_1_ha⟩ := id p24_1t
            first | refine KC.skip ?_ | refine KC.label ?_
            refine KC.region ?_
            refine KO.pv (PV.add rfl rfl (wrap64 (by omega) (by omega))) rfl rfl ?_
            refine KO.pv (PV.move rfl) rfl rfl ?_
            refine KO.nil ?_
            have m27 := m25.ownLst (C := EB) (i := 0) rfl (fun _ _ => trivial) (by first | omega | (simp only [splice, List.length_append, List.length_set, List.length_replicate, List.length_map, List.length_take, List.length_drop, List.length_cons, List.length_nil] <;> omega))
            exact ⟨_, _, (by omega), (.cons rfl (.cons rfl (.cons rfl (.cons rfl (.cons rfl (.cons rfl .nil)))))), a24, n24, n24, xs24, D24, (x31 + 1), pw21, rfl, rfl, (m27.pick [0, 4, 5, 1] (by decide) rfl), (by first | omega | assumption | (constructor <;> omega)), (by first | omega | (simp only [splice, List.length_append, List.length_set, List.length_replicate, List.length_map, List.length_take, List.length_drop, List.length_cons, List.length_nil] <;> omega)), (by first | omega | (simp only [splice, List.length_append, List.length_set, List.length_replicate, List.length_map, List.length_take, List.length_drop, List.length_cons, List.length_nil] <;> omega)), (by first | omega | (simp only [splice, List.length_append, List.length_set, List.length_replicate, List.length_map, List.length_take, List.length_drop, List.length_cons, List.length_nil] <;> omega))⟩
        · subst h23
          refine KO.pv (PV.notB rfl rfl) rfl rfl ?_
          refine KO.nil ?_
          refine KC.condT rfl ?_
          refine KC.exit ?_
          refine KC.seq ?_
          refine KC.region ?_
          refine KO.pv (PV.assign rfl) rfl rfl ?_
          refine KO.nil ?_
          exact KC.ret ⟨rfl, _, (.tmp rfl .nil), pw21, 0, rfl, m22.pick [0] (by decide) rfl, (by first | omega | (intro h; omega) | (simp only [List.length_nil, true_and, and_true, or_true, true_or] <;> omega)), (by first | omega | (intro h; omega) | (simp only [List.length_nil, true_and, and_true, or_true, true_or] <;> omega)), (by first | omega | (intro h; omega) | (simp only [List.length_nil, true_and, and_true, or_true, true_or] <;> omega))⟩
    · refine KC.exit ?_
      refine KC.seq ?_
      refine KC.region ?_
      refine KO.pv (PV.assign rfl) rfl rfl ?_
      refine KO.nil ?_
      exact KC.ret ⟨rfl, _, (.tmp rfl .nil), c_b_p_0, 0, rfl, m14.pick [3] (by decide) rfl, (by first | omega | (intro h; omega) | (simp only [List.length_nil, true_and, and_true, or_true, true_or] <;> omega)), (by first | omega | (intro h; omega) | (simp only [List.length_nil, true_and, and_true, or_true, true_or] <;> omega)), (by first | omega | (intro h; omega) | (simp only [List.length_nil, true_and, and_true, or_true, true_or] <;> omega))⟩
theorem tr_walkW (H : AHeap) (ci : Int) (a_cL : Option Addr) (n_cL c_cL : Nat) (cL : List (Int × Int)) (a_cA : Option Addr) (n_cA c_cA : Nat) (cA : List (Int × Int)) (a_cB : Option Addr) (n_cB c_cB : Nat) (cB : List Int) (a_cC : Option Addr) (n_cC c_cC : Nat) (cC : List Int) (a_tF : Option Addr) (n_tF c_tF : Nat) (tF : List Bool) (a_tI : Option Addr) (n_tI c_tI : Nat) (v_tI : List (Option Addr × Nat × Nat)) (tI : List (List Bool)) (b_y : Nat) (a_qF : Option Addr) (n_qF c_qF : Nat) (a_qI : Option Addr) (n_qI c_qI : Nat) (b_p : Nat) (pv : Int) (w_ci : IntKind.i64.wrap ci = ci) (h_cL : V EP H a_cL n_cL c_cL cL) (s_cL : 0 < n_cL → ∀ y, a_cL = some y → y.block ∉ ([b_y] ++ ([b_p] ++ []))) (h_cA : V EP H a_cA n_cA c_cA cA) (s_cA : 0 < n_cA → ∀ y, a_cA = some y → y.block ∉ ([b_y] ++ ([b_p] ++ []))) (h_cB : V (EI .i64) H a_cB n_cB c_cB cB) (s_cB : 0 < n_cB → ∀ y, a_cB = some y → y.block ∉ ([b_y] ++ ([b_p] ++ []))) (h_cC : V (EI .i64) H a_cC n_cC c_cC cC) (s_cC : 0 < n_cC → ∀ y, a_cC = some y → y.block ∉ ([b_y] ++ ([b_p] ++ []))) (h_tF : V EB H a_tF n_tF c_tF tF) (s_tF : 0 < n_tF → ∀ y, a_tF = some y → y.block ∉ ([b_y] ++ ([b_p] ++ []))) (h_tI : V ES H a_tI n_tI c_tI v_tI) (i_tI : VV EB H v_tI tI) (s_tI : 0 < n_tI → ∀ y, a_tI = some y → y.block ∉ ([b_y] ++ ([b_p] ++ []))) (si_tI : ∀ v ∈ v_tI, 0 < v.2.1 → ∀ y, v.1 = some y → y.block ∉ ([b_y] ++ ([b_p] ++ []))) (h_g : Mem ([b_y] ++ ([b_p] ++ [])) H H [R.row b_y 111 true [.slice a_qF n_qF c_qF, .slice a_qI n_qI c_qI], R.row b_p 3 true [.int .i64 pv]]) (w_pv : IntKind.i64.wrap pv = pv) (hF : n_tF ≤ 63000) (hL : n_cL ≤ 63000) (h0 : pv = -1) (hq : n_qI ≤ 1000000000) : WF E0 153 [.agg #[.int .i64 ci, .slice a_cL n_cL c_cL, .slice a_cA n_cA c_cA, .slice a_cB n_cB c_cB, .slice a_cC n_cC c_cC], .agg #[.slice a_tF n_tF c_tF, .slice a_tI n_tI c_tI], .func (.func 157) #[] #[.pointer (some ⟨b_y, 0, none⟩), .pointer (some ⟨b_p, 0, none⟩)]] H fun q => ∃ (pw : Int) (e : Int), q.1 = .int .i64 e ∧ Mem ([b_y] ++ ([b_p] ++ [])) H q.2 [R.row b_y 111 true [.slice a_qF n_qF c_qF, .slice a_qI n_qI c_qI], R.row b_p 3 true [.int .i64 pw]] ∧ (-1 ≤ pw ∧ pw ≤ 1000000000) ∧ (0 ≤ e ∧ e ≤ 100) ∧ (e = 0 → n_tI ≤ 100) := by
  obtain ⟨lo_ci, hi_ci⟩ := rangei64 w_ci
  obtain ⟨len_cL, cap_cL, max_cL, wf_cL⟩ := h_cL.len
  obtain ⟨len_cA, cap_cA, max_cA, wf_cA⟩ := h_cA.len
  obtain ⟨len_cB, cap_cB, max_cB, wf_cB⟩ := h_cB.len
  obtain ⟨len_cC, cap_cC, max_cC, wf_cC⟩ := h_cC.len
  obtain ⟨len_tF, cap_tF, max_tF, wf_tF⟩ := h_tF.len
  obtain ⟨len_tI, cap_tI, max_tI, wf_tI⟩ := h_tI.len
  have len2_tI := i_tI.1
  have len3_tI : tI.length = n_tI := by omega
  obtain ⟨lo_pv, hi_pv⟩ := rangei64 w_pv
  have m0 := h_g
  refine WF.kg Tryz.func153 rfl rfl ?_
  refine KC.seq ?_
  refine KC.region ?_
  refine KO.boxM m0 rfl rfl (show _ = [.int .i64 ci, .slice a_cL n_cL c_cL, .slice a_cA n_cA c_cA, .slice a_cB n_cB c_cB, .slice a_cC n_cC c_cC] from rfl) rfl rfl fun H1 m2 => ?_
  refine KO.boxM m2 rfl rfl (show _ = [.slice a_tF n_tF c_tF, .slice a_tI n_tI c_tI] from rfl) rfl rfl fun H3 m4 => ?_
  refine KO.pv (PV.assign rfl) rfl rfl ?_
  refine KO.nil ?_
  refine KC.scope ?_
  refine KC.seq ?_
  refine KC.seq ?_
  refine KC.region ?_
  refine KO.loadN ag26_B10 sz26_B10 rfl (m4.row (i := 1) rfl) (takeN_of (p := [.int .i64 ci, .slice a_cL n_cL c_cL, .slice a_cA n_cA c_cA, .slice a_cB n_cB c_cB, .slice a_cC n_cC c_cC]) rfl rfl) rfl rfl ?_
  refine KO.loadN ag111_B10 sz111_B10 rfl (m4.row (i := 0) rfl) (takeN_of (p := [.slice a_tF n_tF c_tF, .slice a_tI n_tI c_tI]) rfl rfl) rfl rfl ?_
  refine KO.call rfl rfl rfl rfl (tr_Check H3 ci a_cL n_cL c_cL _ a_cA n_cA c_cA _ a_cB n_cB c_cB _ a_cC n_cC c_cC _ a_tF n_tF c_tF _ a_tI n_tI c_tI _ _ (wrap64 (by omega) (by omega)) (V.mem m4 h_cL s_cL) (V.mem m4 h_cA s_cA) (V.mem m4 h_cB s_cB) (V.mem m4 h_cC s_cC) (V.mem m4 h_tF s_tF) (V.mem m4 h_tI s_tI) (VV.memM m4 i_tI si_tI)) fun v5 H5 q5 => ?_
  obtain ⟨e5, hv5, mc5, p5_0, p5_1, p5_2⟩ := q5
  dsimp only at hv5 mc5
  subst hv5
  have m6 := m4.seq mc5
  refine KO.pv (PV.assign rfl) rfl rfl ?_
  refine KO.nil ?_
  refine KC.seq ?_
  refine KC.region ?_
  refine KO.pv (PV.move rfl) rfl rfl ?_
  refine KO.pv (PV.neqD rfl rfl rfl) rfl rfl ?_
  refine KO.nil ?_
  refine KC.condD rfl (fun h7 => ?_) (fun h7 => ?_)
  · refine KC.seq ?_
    refine KC.region ?_
    refine KO.pv (PV.move rfl) rfl rfl ?_
    refine KO.pv (PV.assign rfl) rfl rfl ?_
    refine KO.nil ?_
    exact KC.ret ⟨rfl, _, (.tmp rfl .nil), pv, e5, rfl, m6.pick [2, 3] (by decide) rfl, (by first | omega | (intro h; omega) | (simp only [List.length_nil, true_and, and_true, or_true, true_or] <;> omega)), (by first | omega | (intro h; omega) | (simp only [List.length_nil, true_and, and_true, or_true, true_or] <;> omega)), (by first | omega | (intro h; omega) | (simp only [List.length_nil, true_and, and_true, or_true, true_or] <;> omega))⟩
  · have p5_0t := p5_0 (by omega)
    have p5_1t := p5_1 (by omega)
    obtain ⟨p5_1_i0, p5_1_al, p5_1_b, p5_1_c, p5_1_hb, p5_1_hc, p5_1_hl, p5_1_ha⟩ := id p5_1t
    first | refine KC.skip ?_ | refine KC.label ?_
    refine KC.seq ?_
    refine KC.region ?_
    refine KO.pv (PV.fieldAddr fo111_0_B10 rfl) rfl rfl ?_
    refine KO.load1 ag89_B10 rfl (m6.row (i := 0) rfl) rfl rfl rfl ?_
    refine KO.pv (PV.len un89_B10 rfl) rfl rfl ?_
    refine KO.makeSliceM (C := EB) false m6 el89_B10 ez4_B10 sb4_B10 rfl rfl (by omega) (by omega) (by omega) rfl rfl fun H8 m9 => ?_
    refine KO.pv (PV.assign rfl) rfl rfl ?_
    refine KO.nil ?_
    refine KC.seq ?_
    refine KC.region ?_
    refine KO.pv (PV.move rfl) rfl rfl ?_
    refine KO.pv (PV.fieldAddr fo111_0_B10 rfl) rfl rfl ?_
    refine KO.load1 ag89_B10 rfl (m9.row (i := 1) rfl) rfl rfl rfl ?_
    refine KO.copyW (C := EB) m9 (i := 0) rfl (V.mem m9 h_tF s_tF) el89_B10 sz4_B10 rfl rfl (by omega) (by first | omega | (simp only [splice, List.length_append, List.length_set, List.length_replicate, List.length_map, List.length_take, List.length_drop, List.length_cons, List.length_nil] <;> omega)) rfl rfl fun H10 m11 => ?_
    have m12 := m11.ownRow (C := EB) (i := 0) (sp := none) (n := ((n_tF : Int)).toNat) (c := ((n_tF : Int)).toNat) rfl (fun _ _ => trivial) (by first | omega | (simp only [splice, List.length_append, List.length_set, List.length_replicate, List.length_map, List.length_take, List.length_drop, List.length_cons, List.length_nil] <;> omega)) (by omega) (by omega)
    refine KO.nil ?_
    refine KC.seq ?_
    first | refine KC.skip ?_ | refine KC.label ?_
    refine KC.seq ?_
    refine KC.seq ?_
    refine KC.region ?_
    refine KO.pv (PV.fieldAddr fo111_1_B10 rfl) rfl rfl ?_
    refine KO.load1 ag109_B10 rfl (m12.row (i := 1) rfl) rfl rfl rfl ?_
    refine KO.pv (PV.len un109_B10 rfl) rfl rfl ?_
    refine KO.pv (PV.move rfl) rfl rfl ?_
    refine KO.nil ?_
    refine KC.block ?_
    refine KC.sub (l' := [(2, .func (.func 157) #[] #[.pointer (some ⟨b_y, 0, none⟩), .pointer (some ⟨b_p, 0, none⟩)]), (3, .pointer (some ⟨H.next, 0, none⟩)), (8, .slice (some ⟨H5.next, 0, none⟩) (((n_tF : Int)).toNat) (((n_tF : Int)).toNat)), (29, .slice a_tI n_tI c_tI), (30, .int .i64 (n_tI : Int)), (31, .int .i64 0)]) (.cons rfl (.cons rfl (.cons rfl (.cons rfl (.cons rfl (.cons rfl .nil)))))) ?_
    refine KC.loopN (fun kq lq A => ∃ (a8 : Option Addr) (n8 : Nat) (c8 : Nat) (l8 : List Bool) (D8 : List Nat) (x31 : Int) (c_b_p_0 : Int), kq = ((n_tI : Int) - x31).toNat ∧ lq = [(2, .func (.func 157) #[] #[.pointer (some ⟨b_y, 0, none⟩), .pointer (some ⟨b_p, 0, none⟩)]), (3, .pointer (some ⟨H.next, 0, none⟩)), (8, .slice a8 n8 c8), (29, .slice a_tI n_tI c_tI), (30, .int .i64 (n_tI : Int)), (31, .int .i64 x31)] ∧ Mem ([b_y] ++ ([b_p] ++ [])) H A [R.own EB a8 n8 c8 l8 D8, R.row H1.next 111 true [.slice a_tF n_tF c_tF, .slice a_tI n_tI c_tI], R.row H.next 26 true [.int .i64 ci, .slice a_cL n_cL c_cL, .slice a_cA n_cA c_cA, .slice a_cB n_cB c_cB, .slice a_cC n_cC c_cC], R.row b_y 111 true [.slice a_qF n_qF c_qF, .slice a_qI n_qI c_qI], R.row b_p 3 true [.int .i64 c_b_p_0]] ∧ (0 ≤ x31 ∧ x31 ≤ (n_tI : Int)) ∧ (l8.length = n8) ∧ (n8 ≤ 63000) ∧ (-1 ≤ c_b_p_0 ∧ c_b_p_0 ≤ 1000000000)) ?_ (((n_tI : Int) - 0).toNat) ⟨(some ⟨H5.next, 0, none⟩), (((n_tF : Int)).toNat), (((n_tF : Int)).toNat), (splice (List.replicate (((n_tF : Int)).toNat) false) 0 tF), [H5.next], 0, pv, rfl, rfl, (m12.pick [0, 1, 2, 3, 4] (by decide) rfl), (by first | omega | assumption | (constructor <;> omega)), (by first | omega | (simp only [splice, List.length_append, List.length_set, List.length_replicate, List.length_map, List.length_take, List.length_drop, List.length_cons, List.length_nil] <;> omega)), (by first | omega | (simp only [splice, List.length_append, List.length_set, List.length_replicate, List.length_map, List.length_take, List.length_drop, List.length_cons, List.length_nil] <;> omega)), (by first | omega | (simp only [splice, List.length_append, List.length_set, List.length_replicate, List.length_map, List.length_take, List.length_drop, List.length_cons, List.length_nil] <;> omega))⟩
    rintro kq lq A13 ⟨a8, n8, c8, l8, D8, x31, c_b_p_0, rfl, rfl, m14, hr7, hl_l8, hs8, hp⟩
    obtain ⟨-, hoc_l8, hob_l8, -⟩ := m14.ownLen (C := EB) (i := 0) rfl
    refine KC.seq ?_
    refine KC.region ?_
    refine KO.pv (PV.lssD rfl rfl rfl) rfl rfl ?_
    refine KO.nil ?_
    refine KC.seq ?_
    refine KC.condD rfl (fun h15 => ?_) (fun h15 => ?_)
    · first | refine KC.skip ?_ | refine KC.label ?_
      refine KC.seq ?_
      refine KC.block ?_
      refine KC.seq ?_
      refine KC.region ?_
      refine KO.pv (PV.move rfl) rfl rfl ?_
      obtain ⟨b16, o16, p16, r16, e16, ha16, hb16, hr16, hx16, hw16, hc16, ht16⟩ := V.at_ h_tI (z := x31) (by omega) (by omega)
      have hs16 : b16 ∉ ([b_y] ++ ([b_p] ++ [])) := s_tI (by omega) _ ha16
      have hc16_0 : r16.cs[o16 + (x31).toNat * 1 + 0]? = some (.slice e16.1 e16.2.1 e16.2.2) := hc16 0 (by decide)
      obtain ⟨xs16, hxs16, hV16⟩ := VV.at_ i_tI hx16
      obtain ⟨len16, cap16, max16, wf16⟩ := hV16.len
      refine KO.pv (PV.indexAddrZ un109_B10 sz89_B10 rfl ha16 rfl (by omega) (by omega)) rfl rfl ?_
      refine KO.load1 ag89_B10 rfl (m14.row0M hb16 (by assumption) hr16) hc16_0 rfl rfl ?_
      refine KO.pv (PV.assign rfl) rfl rfl ?_
      refine KO.pv (PV.assign rfl) rfl rfl ?_
      refine KO.nil ?_
      refine KC.seq ?_
      refine KC.region ?_
      refine KO.loadN ag26_B10 sz26_B10 rfl (m14.row (i := 2) rfl) (takeN_of (p := [.int .i64 ci, .slice a_cL n_cL c_cL, .slice a_cA n_cA c_cA, .slice a_cB n_cB c_cB, .slice a_cC n_cC c_cC]) rfl rfl) rfl rfl ?_
      refine KO.pv (PV.move rfl) rfl rfl ?_
      refine KO.pv (PV.move rfl) rfl rfl ?_
      refine KO.call rfl rfl rfl rfl (val_Props A13 ci a_cL n_cL c_cL _ a_cA n_cA c_cA _ a_cB n_cB c_cB _ a_cC n_cC c_cC _ a8 n8 c8 _ e16.1 e16.2.1 e16.2.2 _ (wrap64 (by omega) (by omega)) (V.mem m14 h_cL s_cL) (V.mem m14 h_cA s_cA) (V.mem m14 h_cB s_cB) (V.mem m14 h_cC s_cC) (m14.vown (i := 0) rfl) (V.mem m14 hV16 (si_tI _ (List.mem_of_getElem? hx16))) (by first | omega | assumption) (by first | omega | assumption)) fun v17 H17 q17 => ?_
      obtain ⟨o17, a17, n17, e17, xs17, D17, hv17, mc17, p17_0, p17_1⟩ := q17
      dsimp only at hv17 mc17
      subst hv17
      have m18 := m14.seq mc17
      have ll17_0 : xs17.length = n17 := m18.lstLen (E := EB) (i := 0) rfl
      refine KO.pv (PV.move rfl) rfl rfl ?_
      refine KO.pv (PV.extract rfl rfl) rfl rfl ?_
      refine KO.pv (PV.extract rfl rfl) rfl rfl ?_
      refine KO.pv (PV.extract rfl rfl) rfl rfl ?_
      refine KO.pv (PV.assign rfl) rfl rfl ?_
      refine KO.pv (PV.assign rfl) rfl rfl ?_
      refine KO.pv (PV.assign rfl) rfl rfl ?_
      refine KO.nil ?_
      refine KC.seq ?_
      refine KC.seq ?_
      refine KC.region ?_
      refine KO.pv (PV.move rfl) rfl rfl ?_
      refine KO.pv (PV.neqD rfl rfl rfl) rfl rfl ?_
      refine KO.nil ?_
      refine KC.condD rfl (fun h19 => ?_) (fun h19 => ?_)
      · refine KC.seq ?_
        refine KC.region ?_
        refine KO.pv (PV.move rfl) rfl rfl ?_
        refine KO.pv (PV.assign rfl) rfl rfl ?_
        refine KO.nil ?_
        exact KC.ret ⟨rfl, _, (.tmp rfl .nil), c_b_p_0, e17, rfl, m18.pick [4, 5] (by decide) rfl, (by first | omega | (intro h; omega) | (simp only [List.length_nil, true_and, and_true, or_true, true_or] <;> omega)), (by first | omega | (intro h; omega) | (simp only [List.length_nil, true_and, and_true, or_true, true_or] <;> omega)), (by first | omega | (intro h; omega) | (simp only [List.length_nil, true_and, and_true, or_true, true_or] <;> omega))⟩
      · first | refine KC.skip ?_ | refine KC.label ?_
        refine KC.seq ?_
        refine KC.seq ?_
        refine KC.region ?_
        refine KO.pv (PV.move rfl) rfl rfl ?_
        refine KO.pv (PV.move rfl) rfl rfl ?_
        refine KO.pv (PV.move rfl) rfl rfl ?_
        refine KO.pv (PV.move rfl) rfl rfl ?_
        refine KO.pv (PV.move rfl) rfl rfl ?_
        have m20 : Mem ([b_y] ++ ([b_p] ++ [])) H H17 [R.row b_y 111 true [.slice a_qF n_qF c_qF, .slice a_qI n_qI c_qI], R.row b_p 3 true [.int .i64 c_b_p_0], R.lst 4 1 a17 n17 (cells EB xs17) D17, R.own EB a8 n8 c8 l8 D8, R.row H1.next 111 true [.slice a_tF n_tF c_tF, .slice a_tI n_tI c_tI], R.row H.next 26 true [.int .i64 ci, .slice a_cL n_cL c_cL, .slice a_cA n_cA c_cA, .slice a_cB n_cB c_cB, .slice a_cC n_cC c_cC]] := m18.pick [4, 5, 0, 1, 2, 3] (by decide) rfl
        refine KO.callV rfl rfl rfl rfl rfl (tr_wi1 H17 x31 a8 n8 c8 _ o17 a17 n17 n17 _ b_y a_qF n_qF c_qF a_qI n_qI c_qI b_p c_b_p_0 (wrap64 (by omega) (by omega)) (m20.vown (i := 3) rfl) (sepCons (m20.sepOwn (k := 3) (i := 0) rfl rfl (by decide)) (sepCons (m20.sepOwn (k := 3) (i := 1) rfl rfl (by decide)) sepEnd)) (m20.vlst (i := 2) rfl (fun _ _ => trivial) (by first | omega | (simp only [splice, List.length_append, List.length_set, List.length_replicate, List.length_map, List.length_take, List.length_drop, List.length_cons, List.length_nil] <;> omega))) (sepCons (m20.sepLst (k := 2) (i := 0) rfl rfl (by decide)) (sepCons (m20.sepLst (k := 2) (i := 1) rfl rfl (by decide)) sepEnd)) (m20.ownK (Rs := [R.row b_y 111 true [.slice a_qF n_qF c_qF, .slice a_qI n_qI c_qI], R.row b_p 3 true [.int .i64 c_b_p_0]])) (wrap64 (by omega) (by omega)) (by first | omega | assumption) (by first | omega | assumption) (by first | omega | assumption)) fun v21 H21 q21 => ?_
        obtain ⟨pw21, hv21, mc21, p21_0⟩ := q21
        dsimp only at hv21 mc21
        subst hv21
        have m22 := m20.seqK (Rs := [R.row b_y 111 true [.slice a_qF n_qF c_qF, .slice a_qI n_qI c_qI], R.row b_p 3 true [.int .i64 c_b_p_0]]) mc21
        rcases Bool.eq_false_or_eq_true o17 with h23 | h23
        · subst h23
          refine KO.pv (PV.notB rfl rfl) rfl rfl ?_
          refine KO.nil ?_
          refine KC.condF rfl ?_
          first | refine KC.skip ?_ | refine KC.label ?_
          refine KC.seq ?_
          refine KC.region ?_
          refine KO.loadN ag26_B10 sz26_B10 rfl (m22.row (i := 5) rfl) (takeN_of (p := [.int .i64 ci, .slice a_cL n_cL c_cL, .slice a_cA n_cA c_cA, .slice a_cB n_cB c_cB, .slice a_cC n_cC c_cC]) rfl rfl) rfl rfl ?_
          refine KO.pv (PV.move rfl) rfl rfl ?_
          refine KO.pv (PV.move rfl) rfl rfl ?_
          refine KO.call rfl rfl rfl rfl (val_Next H21 ci a_cL n_cL c_cL _ a_cA n_cA c_cA _ a_cB n_cB c_cB _ a_cC n_cC c_cC _ a8 n8 c8 _ e16.1 e16.2.1 e16.2.2 _ (wrap64 (by omega) (by omega)) (V.mem m22 h_cL s_cL) (V.mem m22 h_cA s_cA) (V.mem m22 h_cB s_cB) (V.mem m22 h_cC s_cC) (m22.vown (i := 3) rfl) (V.mem m22 hV16 (si_tI _ (List.mem_of_getElem? hx16))) (by first | omega | assumption)) fun v24 H24 q24 => ?_
          obtain ⟨a24, n24, e24, xs24, D24, hv24, mc24, p24_0, p24_1, p24_2⟩ := q24
          dsimp only at hv24 mc24
          subst hv24
          have m25 := m22.seq mc24
          have ll24_0 : xs24.length = n24 := m25.lstLen (E := EB) (i := 0) rfl
          refine KO.pv (PV.move rfl) rfl rfl ?_
          refine KO.pv (PV.extract rfl rfl) rfl rfl ?_
          refine KO.pv (PV.extract rfl rfl) rfl rfl ?_
          refine KO.pv (PV.assign rfl) rfl rfl ?_
          refine KO.pv (PV.assign rfl) rfl rfl ?_
          refine KO.nil ?_
          refine KC.seq ?_
          refine KC.region ?_
          refine KO.pv (PV.move rfl) rfl rfl ?_
          refine KO.pv (PV.neqD rfl rfl rfl) rfl rfl ?_
          refine KO.nil ?_
          refine KC.condD rfl (fun h26 => ?_) (fun h26 => ?_)
          · refine KC.seq ?_
            refine KC.region ?_
            refine KO.pv (PV.move rfl) rfl rfl ?_
            refine KO.pv (PV.assign rfl) rfl rfl ?_
            refine KO.nil ?_
            exact KC.ret ⟨rfl, _, (.tmp rfl .nil), pw21, e24, rfl, m25.pick [1, 2] (by decide) rfl, (by first | omega | (intro h; omega) | (simp only [List.length_nil, true_and, and_true, or_true, true_or] <;> omega)), (by first | omega | (intro h; omega) | (simp only [List.length_nil, true_and, and_true, or_true, true_or] <;> omega)), (by first | omega | (intro h; omega) | (simp only [List.length_nil, true_and, and_true, or_true, true_or] <;> omega))⟩
          · have p24_1t := p24_1 (by omega)
            obtain ⟨p24_1_i0, p24_1_al, p24_1_b, p24_1_c, p24_1_hb, p24_1_hc, p24_1_hl, p24_1_ha⟩ := id p24_1t
            first | refine KC.skip ?_ | refine KC.label ?_
            refine KC.region ?_
            refine KO.pv (PV.add rfl rfl (wrap64 (by omega) (by omega))) rfl rfl ?_
            refine KO.pv (PV.move rfl) rfl rfl ?_
            refine KO.nil ?_
            have m27 := m25.ownLst (C := EB) (i := 0) rfl (fun _ _ => trivial) (by first | omega | (simp only [splice, List.length_append, List.length_set, List.length_replicate, List.length_map, List.length_take, List.length_drop, List.length_cons, List.length_nil] <;> omega))
            exact ⟨_, _, (by omega), (.cons rfl (.cons rfl (.cons rfl (.cons rfl (.cons rfl (.cons rfl .nil)))))), a24, n24, n24, xs24, D24, (x31 + 1), pw21, rfl, rfl, (m27.pick [0, 5, 6, 1, 2] (by decide) rfl), (by first | omega | assumption | (constructor <;> omega)), (by first | omega | (simp only [splice, List.length_append, List.length_set, List.length_replicate, List.length_map, List.length_take, List.length_drop, List.length_cons, List.length_nil] <;> omega)), (by first | omega | (simp only [splice, List.length_append, List.length_set, List.length_replicate, List.length_map, List.length_take, List.length_drop, List.length_cons, List.length_nil] <;> omega)), (by first | omega | (simp only [splice, List.length_append, List.length_set, List.length_replicate, List.length_map, List.length_take, List.length_drop, List.length_cons, List.length_nil] <;> omega))⟩
        · subst h23
          refine KO.pv (PV.notB rfl rfl) rfl rfl ?_
          refine KO.nil ?_
          refine KC.condT rfl ?_
          refine KC.exit ?_
          refine KC.seq ?_
          refine KC.region ?_
          refine KO.pv (PV.assign rfl) rfl rfl ?_
          refine KO.nil ?_
          exact KC.ret ⟨rfl, _, (.tmp rfl .nil), pw21, 0, rfl, m22.pick [0, 1] (by decide) rfl, (by first | omega | (intro h; omega) | (simp only [List.length_nil, true_and, and_true, or_true, true_or] <;> omega)), (by first | omega | (intro h; omega) | (simp only [List.length_nil, true_and, and_true, or_true, true_or] <;> omega)), (by first | omega | (intro h; omega) | (simp only [List.length_nil, true_and, and_true, or_true, true_or] <;> omega))⟩
    · refine KC.exit ?_
      refine KC.seq ?_
      refine KC.region ?_
      refine KO.pv (PV.assign rfl) rfl rfl ?_
      refine KO.nil ?_
      exact KC.ret ⟨rfl, _, (.tmp rfl .nil), c_b_p_0, 0, rfl, m14.pick [3, 4] (by decide) rfl, (by first | omega | (intro h; omega) | (simp only [List.length_nil, true_and, and_true, or_true, true_or] <;> omega)), (by first | omega | (intro h; omega) | (simp only [List.length_nil, true_and, and_true, or_true, true_or] <;> omega)), (by first | omega | (intro h; omega) | (simp only [List.length_nil, true_and, and_true, or_true, true_or] <;> omega))⟩
theorem tr_walkC (H : AHeap) (ci : Int) (a_cL : Option Addr) (n_cL c_cL : Nat) (cL : List (Int × Int)) (a_cA : Option Addr) (n_cA c_cA : Nat) (cA : List (Int × Int)) (a_cB : Option Addr) (n_cB c_cB : Nat) (cB : List Int) (a_cC : Option Addr) (n_cC c_cC : Nat) (cC : List Int) (a_tF : Option Addr) (n_tF c_tF : Nat) (tF : List Bool) (a_tI : Option Addr) (n_tI c_tI : Nat) (v_tI : List (Option Addr × Nat × Nat)) (tI : List (List Bool)) (b_p : Nat) (pv : Int) (w_ci : IntKind.i64.wrap ci = ci) (h_cL : V EP H a_cL n_cL c_cL cL) (s_cL : 0 < n_cL → ∀ y, a_cL = some y → y.block ∉ ([b_p] ++ [])) (h_cA : V EP H a_cA n_cA c_cA cA) (s_cA : 0 < n_cA → ∀ y, a_cA = some y → y.block ∉ ([b_p] ++ [])) (h_cB : V (EI .i64) H a_cB n_cB c_cB cB) (s_cB : 0 < n_cB → ∀ y, a_cB = some y → y.block ∉ ([b_p] ++ [])) (h_cC : V (EI .i64) H a_cC n_cC c_cC cC) (s_cC : 0 < n_cC → ∀ y, a_cC = some y → y.block ∉ ([b_p] ++ [])) (h_tF : V EB H a_tF n_tF c_tF tF) (s_tF : 0 < n_tF → ∀ y, a_tF = some y → y.block ∉ ([b_p] ++ [])) (h_tI : V ES H a_tI n_tI c_tI v_tI) (i_tI : VV EB H v_tI tI) (s_tI : 0 < n_tI → ∀ y, a_tI = some y → y.block ∉ ([b_p] ++ [])) (si_tI : ∀ v ∈ v_tI, 0 < v.2.1 → ∀ y, v.1 = some y → y.block ∉ ([b_p] ++ [])) (h_g : Mem ([b_p] ++ []) H H [R.row b_p 3 true [.int .i64 pv]]) (w_pv : IntKind.i64.wrap pv = pv) (hF : n_tF ≤ 63000) (hL : n_cL ≤ 63000) (h0 : pv = 0) : WF E0 153 [.agg #[.int .i64 ci, .slice a_cL n_cL c_cL, .slice a_cA n_cA c_cA, .slice a_cB n_cB c_cB, .slice a_cC n_cC c_cC], .agg #[.slice a_tF n_tF c_tF, .slice a_tI n_tI c_tI], .func (.func 159) #[] #[.pointer (some ⟨b_p, 0, none⟩)]] H fun q => ∃ (pw : Int) (e : Int), q.1 = .int .i64 e ∧ Mem ([b_p] ++ []) H q.2 [R.row b_p 3 true [.int .i64 pw]] ∧ (0 ≤ pw ∧ pw ≤ 100 ∧ pw ≤ n_tI) ∧ (0 ≤ e ∧ e ≤ 100) ∧ (e = 0 → n_tI ≤ 100) := by
  obtain ⟨lo_ci, hi_ci⟩ := rangei64 w_ci
  obtain ⟨len_cL, cap_cL, max_cL, wf_cL⟩ := h_cL.len
  obtain ⟨len_cA, cap_cA, max_cA, wf_cA⟩ := h_cA.len
  obtain ⟨len_cB, cap_cB, max_cB, wf_cB⟩ := h_cB.len
  obtain ⟨len_cC, cap_cC, max_cC, wf_cC⟩ := h_cC.len
  obtain ⟨len_tF, cap_tF, max_tF, wf_tF⟩ := h_tF.len
  obtain ⟨len_tI, cap_tI, max_tI, wf_tI⟩ := h_tI.len
  have len2_tI := i_tI.1
  have len3_tI : tI.length = n_tI := by omega
  obtain ⟨lo_pv, hi_pv⟩ := rangei64 w_pv
  have m0 := h_g
  refine WF.kg Tryz.func153 rfl rfl ?_
  refine KC.seq ?_
  refine KC.region ?_
  refine KO.boxM m0 rfl rfl (show _ = [.int .i64 ci, .slice a_cL n_cL c_cL, .slice a_cA n_cA c_cA, .slice a_cB n_cB c_cB, .slice a_cC n_cC c_cC] from rfl) rfl rfl fun H1 m2 => ?_
  refine KO.boxM m2 rfl rfl (show _ = [.slice a_tF n_tF c_tF, .slice a_tI n_tI c_tI] from rfl) rfl rfl fun H3 m4 => ?_
  refine KO.pv (PV.assign rfl) rfl rfl ?_
  refine KO.nil ?_
  refine KC.scope ?_
  refine KC.seq ?_
  refine KC.seq ?_
  refine KC.region ?_
  refine KO.loadN ag26_B10 sz26_B10 rfl (m4.row (i := 1) rfl) (takeN_of (p := [.int .i64 ci, .slice a_cL n_cL c_cL, .slice a_cA n_cA c_cA, .slice a_cB n_cB c_cB, .slice a_cC n_cC c_cC]) rfl rfl) rfl rfl ?_
  refine KO.loadN ag111_B10 sz111_B10 rfl (m4.row (i := 0) rfl) (takeN_of (p := [.slice a_tF n_tF c_tF, .slice a_tI n_tI c_tI]) rfl rfl) rfl rfl ?_
  refine KO.call rfl rfl rfl rfl (tr_Check H3 ci a_cL n_cL c_cL _ a_cA n_cA c_cA _ a_cB n_cB c_cB _ a_cC n_cC c_cC _ a_tF n_tF c_tF _ a_tI n_tI c_tI _ _ (wrap64 (by omega) (by omega)) (V.mem m4 h_cL s_cL) (V.mem m4 h_cA s_cA) (V.mem m4 h_cB s_cB) (V.mem m4 h_cC s_cC) (V.mem m4 h_tF s_tF) (V.mem m4 h_tI s_tI) (VV.memM m4 i_tI si_tI)) fun v5 H5 q5 => ?_
  obtain ⟨e5, hv5, mc5, p5_0, p5_1, p5_2⟩ := q5
  dsimp only at hv5 mc5
  subst hv5
  have m6 := m4.seq mc5
  refine KO.pv (PV.assign rfl) rfl rfl ?_
  refine KO.nil ?_
  refine KC.seq ?_
  refine KC.region ?_
  refine KO.pv (PV.move rfl) rfl rfl ?_
  refine KO.pv (PV.neqD rfl rfl rfl) rfl rfl ?_
  refine KO.nil ?_
  refine KC.condD rfl (fun h7 => ?_) (fun h7 => ?_)
  · refine KC.seq ?_
    refine KC.region ?_
    refine KO.pv (PV.move rfl) rfl rfl ?_
    refine KO.pv (PV.assign rfl) rfl rfl ?_
    refine KO.nil ?_
    exact KC.ret ⟨rfl, _, (.tmp rfl .nil), pv, e5, rfl, m6.pick [2] (by decide) rfl, (by first | omega | (intro h; omega) | (simp only [List.length_nil, true_and, and_true, or_true, true_or] <;> omega)), (by first | omega | (intro h; omega) | (simp only [List.length_nil, true_and, and_true, or_true, true_or] <;> omega)), (by first | omega | (intro h; omega) | (simp only [List.length_nil, true_and, and_true, or_true, true_or] <;> omega))⟩
  · have p5_0t := p5_0 (by omega)
    have p5_1t := p5_1 (by omega)
    obtain ⟨p5_1_i0, p5_1_al, p5_1_b, p5_1_c, p5_1_hb, p5_1_hc, p5_1_hl, p5_1_ha⟩ := id p5_1t
    first | refine KC.skip ?_ | refine KC.label ?_
    refine KC.seq ?_
    refine KC.region ?_
    refine KO.pv (PV.fieldAddr fo111_0_B10 rfl) rfl rfl ?_
    refine KO.load1 ag89_B10 rfl (m6.row (i := 0) rfl) rfl rfl rfl ?_
    refine KO.pv (PV.len un89_B10 rfl) rfl rfl ?_
    refine KO.makeSliceM (C := EB) false m6 el89_B10 ez4_B10 sb4_B10 rfl rfl (by omega) (by omega) (by omega) rfl rfl fun H8 m9 => ?_
    refine KO.pv (PV.assign rfl) rfl rfl ?_
    refine KO.nil ?_
    refine KC.seq ?_
    refine KC.region ?_
    refine KO.pv (PV.move rfl) rfl rfl ?_
    refine KO.pv (PV.fieldAddr fo111_0_B10 rfl) rfl rfl ?_
    refine KO.load1 ag89_B10 rfl (m9.row (i := 1) rfl) rfl rfl rfl ?_
    refine KO.copyW (C := EB) m9 (i := 0) rfl (V.mem m9 h_tF s_tF) el89_B10 sz4_B10 rfl rfl (by omega) (by first | omega | (simp only [splice, List.length_append, List.length_set, List.length_replicate, List.length_map, List.length_take, List.length_drop, List.length_cons, List.length_nil] <;> omega)) rfl rfl fun H10 m11 => ?_
    have m12 := m11.ownRow (C := EB) (i := 0) (sp := none) (n := ((n_tF : Int)).toNat) (c := ((n_tF : Int)).toNat) rfl (fun _ _ => trivial) (by first | omega | (simp only [splice, List.length_append, List.length_set, List.length_replicate, List.length_map, List.length_take, List.length_drop, List.length_cons, List.length_nil] <;> omega)) (by omega) (by omega)
    refine KO.nil ?_
    refine KC.seq ?_
    first | refine KC.skip ?_ | refine KC.label ?_
    refine KC.seq ?_
    refine KC.seq ?_
    refine KC.region ?_
    refine KO.pv (PV.fieldAddr fo111_1_B10 rfl) rfl rfl ?_
    refine KO.load1 ag109_B10 rfl (m12.row (i := 1) rfl) rfl rfl rfl ?_
    refine KO.pv (PV.len un109_B10 rfl) rfl rfl ?_
    refine KO.pv (PV.move rfl) rfl rfl ?_
    refine KO.nil ?_
    refine KC.block ?_
    refine KC.sub (l' := [(2, .func (.func 159) #[] #[.pointer (some ⟨b_p, 0, none⟩)]), (3, .pointer (some ⟨H.next, 0, none⟩)), (8, .slice (some ⟨H5.next, 0, none⟩) (((n_tF : Int)).toNat) (((n_tF : Int)).toNat)), (29, .slice a_tI n_tI c_tI), (30, .int .i64 (n_tI : Int)), (31, .int .i64 0)]) (.cons rfl (.cons rfl (.cons rfl (.cons rfl (.cons rfl (.cons rfl .nil)))))) ?_
    refine KC.loopN (fun kq lq A => ∃ (a8 : Option Addr) (n8 : Nat) (c8 : Nat) (l8 : List Bool) (D8 : List Nat) (x31 : Int) (c_b_p_0 : Int), kq = ((n_tI : Int) - x31).toNat ∧ lq = [(2, .func (.func 159) #[] #[.pointer (some ⟨b_p, 0, none⟩)]), (3, .pointer (some ⟨H.next, 0, none⟩)), (8, .slice a8 n8 c8), (29, .slice a_tI n_tI c_tI), (30, .int .i64 (n_tI : Int)), (31, .int .i64 x31)] ∧ Mem ([b_p] ++ []) H A [R.own EB a8 n8 c8 l8 D8, R.row H1.next 111 true [.slice a_tF n_tF c_tF, .slice a_tI n_tI c_tI], R.row H.next 26 true [.int .i64 ci, .slice a_cL n_cL c_cL, .slice a_cA n_cA c_cA, .slice a_cB n_cB c_cB, .slice a_cC n_cC c_cC], R.row b_p 3 true [.int .i64 c_b_p_0]] ∧ (0 ≤ x31 ∧ x31 ≤ (n_tI : Int)) ∧ (l8.length = n8) ∧ (n8 ≤ 63000) ∧ (0 ≤ c_b_p_0 ∧ c_b_p_0 ≤ x31)) ?_ (((n_tI : Int) - 0).toNat) ⟨(some ⟨H5.next, 0, none⟩), (((n_tF : Int)).toNat), (((n_tF : Int)).toNat), (splice (List.replicate (((n_tF : Int)).toNat) false) 0 tF), [H5.next], 0, pv, rfl, rfl, (m12.pick [0, 1, 2, 3] (by decide) rfl), (by first | omega | assumption | (constructor <;> omega)), (by first | omega | (simp only [splice, List.length_append, List.length_set, List.length_replicate, List.length_map, List.length_take, List.length_drop, List.length_cons, List.length_nil] <;> omega)), (by first | omega | (simp only [splice, List.length_append, List.length_set, List.length_replicate, List.length_map, List.length_take, List.length_drop, List.length_cons, List.length_nil] <;> omega)), (by first | omega | (simp only [splice, List.length_append, List.length_set, List.length_replicate, List.length_map, List.length_take, List.length_drop, List.length_cons, List.length_nil] <;> omega))⟩
    rintro kq lq A13 ⟨a8, n8, c8, l8, D8, x31, c_b_p_0, rfl, rfl, m14, hr7, hl_l8, hs8, hp⟩
    obtain ⟨-, hoc_l8, hob_l8, -⟩ := m14.ownLen (C := EB) (i := 0) rfl
    refine KC.seq ?_
    refine KC.region ?_
    refine KO.pv (PV.lssD rfl rfl rfl) rfl rfl ?_
    refine KO.nil ?_
    refine KC.seq ?_
    refine KC.condD rfl (fun h15 => ?_) (fun h15 => ?_)
    · first | refine KC.skip ?_ | refine KC.label ?_
      refine KC.seq ?_
      refine KC.block ?_
      refine KC.seq ?_
      refine KC.region ?_
      refine KO.pv (PV.move rfl) rfl rfl ?_
      obtain ⟨b16, o16, p16, r16, e16, ha16, hb16, hr16, hx16, hw16, hc16, ht16⟩ := V.at_ h_tI (z := x31) (by omega) (by omega)
      have hs16 : b16 ∉ ([b_p] ++ []) := s_tI (by omega) _ ha16
      have hc16_0 : r16.cs[o16 + (x31).toNat * 1 + 0]? = some (.slice e16.1 e16.2.1 e16.2.2) := hc16 0 (by decide)
      obtain ⟨xs16, hxs16, hV16⟩ := VV.at_ i_tI hx16
      obtain ⟨len16, cap16, max16, wf16⟩ := hV16.len
      refine KO.pv (PV.indexAddrZ un109_B10 sz89_B10 rfl ha16 rfl (by omega) (by omega)) rfl rfl ?_
      refine KO.load1 ag89_B10 rfl (m14.row0M hb16 (by assumption) hr16) hc16_0 rfl rfl ?_
      refine KO.pv (PV.assign rfl) rfl rfl ?_
      refine KO.pv (PV.assign rfl) rfl rfl ?_
      refine KO.nil ?_
      refine KC.seq ?_
      refine KC.region ?_
      refine KO.loadN ag26_B10 sz26_B10 rfl (m14.row (i := 2) rfl) (takeN_of (p := [.int .i64 ci, .slice a_cL n_cL c_cL, .slice a_cA n_cA c_cA, .slice a_cB n_cB c_cB, .slice a_cC n_cC c_cC]) rfl rfl) rfl rfl ?_
      refine KO.pv (PV.move rfl) rfl rfl ?_
      refine KO.pv (PV.move rfl) rfl rfl ?_
      refine KO.call rfl rfl rfl rfl (val_Props A13 ci a_cL n_cL c_cL _ a_cA n_cA c_cA _ a_cB n_cB c_cB _ a_cC n_cC c_cC _ a8 n8 c8 _ e16.1 e16.2.1 e16.2.2 _ (wrap64 (by omega) (by omega)) (V.mem m14 h_cL s_cL) (V.mem m14 h_cA s_cA) (V.mem m14 h_cB s_cB) (V.mem m14 h_cC s_cC) (m14.vown (i := 0) rfl) (V.mem m14 hV16 (si_tI _ (List.mem_of_getElem? hx16))) (by first | omega | assumption) (by first | omega | assumption)) fun v17 H17 q17 => ?_
      obtain ⟨o17, a17, n17, e17, xs17, D17, hv17, mc17, p17_0, p17_1⟩ := q17
      dsimp only at hv17 mc17
      subst hv17
      have m18 := m14.seq mc17
      have ll17_0 : xs17.length = n17 := m18.lstLen (E := EB) (i := 0) rfl
      refine KO.pv (PV.move rfl) rfl rfl ?_
      refine KO.pv (PV.extract rfl rfl) rfl rfl ?_
      refine KO.pv (PV.extract rfl rfl) rfl rfl ?_
      refine KO.pv (PV.extract rfl rfl) rfl rfl ?_
      refine KO.pv (PV.assign rfl) rfl rfl ?_
      refine KO.pv (PV.assign rfl) rfl rfl ?_
      refine KO.pv (PV.assign rfl) rfl rfl ?_
      refine KO.nil ?_
      refine KC.seq ?_
      refine KC.seq ?_
      refine KC.region ?_
      refine KO.pv (PV.move rfl) rfl rfl ?_
      refine KO.pv (PV.neqD rfl rfl rfl) rfl rfl ?_
      refine KO.nil ?_
      refine KC.condD rfl (fun h19 => ?_) (fun h19 => ?_)
      · refine KC.seq ?_
        refine KC.region ?_
        refine KO.pv (PV.move rfl) rfl rfl ?_
        refine KO.pv (PV.assign rfl) rfl rfl ?_
        refine KO.nil ?_
        exact KC.ret ⟨rfl, _, (.tmp rfl .nil), c_b_p_0, e17, rfl, m18.pick [4] (by decide) rfl, (by first | omega | (intro h; omega) | (simp only [List.length_nil, true_and, and_true, or_true, true_or] <;> omega)), (by first | omega | (intro h; omega) | (simp only [List.length_nil, true_and, and_true, or_true, true_or] <;> omega)), (by first | omega | (intro h; omega) | (simp only [List.length_nil, true_and, and_true, or_true, true_or] <;> omega))⟩
      · first | refine KC.skip ?_ | refine KC.label ?_
        refine KC.seq ?_
        refine KC.seq ?_
        refine KC.region ?_
        refine KO.pv (PV.move rfl) rfl rfl ?_
        refine KO.pv (PV.move rfl) rfl rfl ?_
        refine KO.pv (PV.move rfl) rfl rfl ?_
        refine KO.pv (PV.move rfl) rfl rfl ?_
        refine KO.pv (PV.move rfl) rfl rfl ?_
        have m20 : Mem ([b_p] ++ []) H H17 [R.row b_p 3 true [.int .i64 c_b_p_0], R.lst 4 1 a17 n17 (cells EB xs17) D17, R.own EB a8 n8 c8 l8 D8, R.row H1.next 111 true [.slice a_tF n_tF c_tF, .slice a_tI n_tI c_tI], R.row H.next 26 true [.int .i64 ci, .slice a_cL n_cL c_cL, .slice a_cA n_cA c_cA, .slice a_cB n_cB c_cB, .slice a_cC n_cC c_cC]] := m18.pick [4, 0, 1, 2, 3] (by decide) rfl
        refine KO.callV rfl rfl rfl rfl rfl (tr_cu1 H17 x31 a8 n8 c8 _ o17 a17 n17 n17 _ b_p c_b_p_0 (wrap64 (by omega) (by omega)) (m20.vown (i := 2) rfl) (sepCons (m20.sepOwn (k := 2) (i := 0) rfl rfl (by decide)) sepEnd) (m20.vlst (i := 1) rfl (fun _ _ => trivial) (by first | omega | (simp only [splice, List.length_append, List.length_set, List.length_replicate, List.length_map, List.length_take, List.length_drop, List.length_cons, List.length_nil] <;> omega))) (sepCons (m20.sepLst (k := 1) (i := 0) rfl rfl (by decide)) sepEnd) (m20.ownK (Rs := [R.row b_p 3 true [.int .i64 c_b_p_0]])) (wrap64 (by omega) (by omega)) (by first | omega | assumption) (by first | omega | assumption)) fun v21 H21 q21 => ?_
        obtain ⟨pw21, o21, hv21, mc21, p21_0⟩ := q21
        dsimp only at hv21 mc21
        subst hv21
        have m22 := m20.seqK (Rs := [R.row b_p 3 true [.int .i64 c_b_p_0]]) mc21
        rcases Bool.eq_false_or_eq_true o21 with h23 | h23
        · subst h23
          refine KO.pv (PV.notB rfl rfl) rfl rfl ?_
          refine KO.nil ?_
          refine KC.condF rfl ?_
          first | refine KC.skip ?_ | refine KC.label ?_
          refine KC.seq ?_
          refine KC.region ?_
          refine KO.loadN ag26_B10 sz26_B10 rfl (m22.row (i := 4) rfl) (takeN_of (p := [.int .i64 ci, .slice a_cL n_cL c_cL, .slice a_cA n_cA c_cA, .slice a_cB n_cB c_cB, .slice a_cC n_cC c_cC]) rfl rfl) rfl rfl ?_
          refine KO.pv (PV.move rfl) rfl rfl ?_
          refine KO.pv (PV.move rfl) rfl rfl ?_
          refine KO.call rfl rfl rfl rfl (val_Next H21 ci a_cL n_cL c_cL _ a_cA n_cA c_cA _ a_cB n_cB c_cB _ a_cC n_cC c_cC _ a8 n8 c8 _ e16.1 e16.2.1 e16.2.2 _ (wrap64 (by omega) (by omega)) (V.mem m22 h_cL s_cL) (V.mem m22 h_cA s_cA) (V.mem m22 h_cB s_cB) (V.mem m22 h_cC s_cC) (m22.vown (i := 2) rfl) (V.mem m22 hV16 (si_tI _ (List.mem_of_getElem? hx16))) (by first | omega | assumption)) fun v24 H24 q24 => ?_
          obtain ⟨a24, n24, e24, xs24, D24, hv24, mc24, p24_0, p24_1, p24_2⟩ := q24
          dsimp only at hv24 mc24
          subst hv24
          have m25 := m22.seq mc24
          have ll24_0 : xs24.length = n24 := m25.lstLen (E := EB) (i := 0) rfl
          refine KO.pv (PV.move rfl) rfl rfl ?_
          refine KO.pv (PV.extract rfl rfl) rfl rfl ?_
          refine KO.pv (PV.extract rfl rfl) rfl rfl ?_
          refine KO.pv (PV.assign rfl) rfl rfl ?_
          refine KO.pv (PV.assign rfl) rfl rfl ?_
          refine KO.nil ?_
          refine KC.seq ?_
          refine KC.region ?_
          refine KO.pv (PV.move rfl) rfl rfl ?_
          refine KO.pv (PV.neqD rfl rfl rfl) rfl rfl ?_
          refine KO.nil ?_
          refine KC.condD rfl (fun h26 => ?_) (fun h26 => ?_)
          · refine KC.seq ?_
            refine KC.region ?_
            refine KO.pv (PV.move rfl) rfl rfl ?_
            refine KO.pv (PV.assign rfl) rfl rfl ?_
            refine KO.nil ?_
            exact KC.ret ⟨rfl, _, (.tmp rfl .nil), pw21, e24, rfl, m25.pick [1] (by decide) rfl, (by first | omega | (intro h; omega) | (simp only [List.length_nil, true_and, and_true, or_true, true_or] <;> omega)), (by first | omega | (intro h; omega) | (simp only [List.length_nil, true_and, and_true, or_true, true_or] <;> omega)), (by first | omega | (intro h; omega) | (simp only [List.length_nil, true_and, and_true, or_true, true_or] <;> omega))⟩
          · have p24_1t := p24_1 (by omega)
            obtain ⟨p24_1_i0, p24_1_al, p24_1_b, p24_1_c, p24_1_hb, p24_1_hc, p24_1_hl, p24_1_ha⟩ := id p24_1t
            first | refine KC.skip ?_ | refine KC.label ?_
            refine KC.region ?_
            refine KO.pv (PV.add rfl rfl (wrap64 (by omega) (by omega))) rfl rfl ?_
            refine KO.pv (PV.move rfl) rfl rfl ?_
            refine KO.nil ?_
            have m27 := m25.ownLst (C := EB) (i := 0) rfl (fun _ _ => trivial) (by first | omega | (simp only [splice, List.length_append, List.length_set, List.length_replicate, List.length_map, List.length_take, List.length_drop, List.length_cons, List.length_nil] <;> omega))
            exact ⟨_, _, (by omega), (.cons rfl (.cons rfl (.cons rfl (.cons rfl (.cons rfl (.cons rfl .nil)))))), a24, n24, n24, xs24, D24, (x31 + 1), pw21, rfl, rfl, (m27.pick [0, 4, 5, 1] (by decide) rfl), (by first | omega | assumption | (constructor <;> omega)), (by first | omega | (simp only [splice, List.length_append, List.length_set, List.length_replicate, List.length_map, List.length_take, List.length_drop, List.length_cons, List.length_nil] <;> omega)), (by first | omega | (simp only [splice, List.length_append, List.length_set, List.length_replicate, List.length_map, List.length_take, List.length_drop, List.length_cons, List.length_nil] <;> omega)), (by first | omega | (simp only [splice, List.length_append, List.length_set, List.length_replicate, List.length_map, List.length_take, List.length_drop, List.length_cons, List.length_nil] <;> omega))⟩
        · subst h23
          refine KO.pv (PV.notB rfl rfl) rfl rfl ?_
          refine KO.nil ?_
          refine KC.condT rfl ?_
          refine KC.exit ?_
          refine KC.seq ?_
          refine KC.region ?_
          refine KO.pv (PV.assign rfl) rfl rfl ?_
          refine KO.nil ?_
          exact KC.ret ⟨rfl, _, (.tmp rfl .nil), pw21, 0, rfl, m22.pick [0] (by decide) rfl, (by first | omega | (intro h; omega) | (simp only [List.length_nil, true_and, and_true, or_true, true_or] <;> omega)), (by first | omega | (intro h; omega) | (simp only [List.length_nil, true_and, and_true, or_true, true_or] <;> omega)), (by first | omega | (intro h; omega) | (simp only [List.length_nil, true_and, and_true, or_true, true_or] <;> omega))⟩
    · refine KC.exit ?_
      refine KC.seq ?_
      refine KC.region ?_
      refine KO.pv (PV.assign rfl) rfl rfl ?_
      refine KO.nil ?_
      exact KC.ret ⟨rfl, _, (.tmp rfl .nil), c_b_p_0, 0, rfl, m14.pick [3] (by decide) rfl, (by first | omega | (intro h; omega) | (simp only [List.length_nil, true_and, and_true, or_true, true_or] <;> omega)), (by first | omega | (intro h; omega) | (simp only [List.length_nil, true_and, and_true, or_true, true_or] <;> omega)), (by first | omega | (intro h; omega) | (simp only [List.length_nil, true_and, and_true, or_true, true_or] <;> omega))⟩
theorem tr_States (H : AHeap) (ci : Int) (a_cL : Option Addr) (n_cL c_cL : Nat) (cL : List (Int × Int)) (a_cA : Option Addr) (n_cA c_cA : Nat) (cA : List (Int × Int)) (a_cB : Option Addr) (n_cB c_cB : Nat) (cB : List Int) (a_cC : Option Addr) (n_cC c_cC : Nat) (cC : List Int) (a_tF : Option Addr) (n_tF c_tF : Nat) (tF : List Bool) (a_tI : Option Addr) (n_tI c_tI : Nat) (v_tI : List (Option Addr × Nat × Nat)) (tI : List (List Bool)) (w_ci : IntKind.i64.wrap ci = ci) (h_cL : V EP H a_cL n_cL c_cL cL) (h_cA : V EP H a_cA n_cA c_cA cA) (h_cB : V (EI .i64) H a_cB n_cB c_cB cB) (h_cC : V (EI .i64) H a_cC n_cC c_cC cC) (h_tF : V EB H a_tF n_tF c_tF tF) (h_tI : V ES H a_tI n_tI c_tI v_tI) (i_tI : VV EB H v_tI tI) (hF : n_tF ≤ 63000) (hL : n_cL ≤ 63000) : WF E0 84 [.agg #[.int .i64 ci, .slice a_cL n_cL c_cL, .slice a_cA n_cA c_cA, .slice a_cB n_cB c_cB, .slice a_cC n_cC c_cC], .agg #[.slice a_tF n_tF c_tF, .slice a_tI n_tI c_tI]] H fun q => ∃ (a : Option Addr) (n : Nat) (e : Int) (v : List (Option Addr × Nat × Nat)) (D : List Nat) (l : List (List Bool)) (E : List Nat), q.1 = .tuple #[.slice a n n, .int .i64 e] ∧ Mem [] H q.2 [R.lst 89 1 a n (cells ES v) D, R.inn EB v l E] ∧ (n ≤ 100) ∧ (∀ c ∈ l, c.length ≤ 63000) := by
  obtain ⟨lo_ci, hi_ci⟩ := rangei64 w_ci
  obtain ⟨len_cL, cap_cL, max_cL, wf_cL⟩ := h_cL.len
  obtain ⟨len_cA, cap_cA, max_cA, wf_cA⟩ := h_cA.len
  obtain ⟨len_cB, cap_cB, max_cB, wf_cB⟩ := h_cB.len
  obtain ⟨len_cC, cap_cC, max_cC, wf_cC⟩ := h_cC.len
  obtain ⟨len_tF, cap_tF, max_tF, wf_tF⟩ := h_tF.len
  obtain ⟨len_tI, cap_tI, max_tI, wf_tI⟩ := h_tI.len
  have len2_tI := i_tI.1
  have len3_tI : tI.length = n_tI := by omega
  have m0 : Mem [] H H [] := Mem.start
  refine WF.kg Tryz.func84 rfl rfl ?_
  refine KC.seq ?_
  refine KC.region ?_
  refine KO.boxM m0 rfl rfl (show _ = [.int .i64 ci, .slice a_cL n_cL c_cL, .slice a_cA n_cA c_cA, .slice a_cB n_cB c_cB, .slice a_cC n_cC c_cC] from rfl) rfl rfl fun H1 m2 => ?_
  refine KO.boxM m2 rfl rfl (show _ = [.slice a_tF n_tF c_tF, .slice a_tI n_tI c_tI] from rfl) rfl rfl fun H3 m4 => ?_
  refine KO.pv (PV.assign rfl) rfl rfl ?_
  refine KO.pv (PV.assign rfl) rfl rfl ?_
  refine KO.nil ?_
  refine KC.seq ?_
  refine KC.region ?_
  refine KO.allocM m4 zt109_B10 rfl rfl fun H5 m6 => ?_
  refine KO.nil ?_
  refine KC.seq ?_
  refine KC.region ?_
  refine KO.loadN ag26_B10 sz26_B10 rfl (m6.row (i := 2) rfl) (takeN_of (p := [.int .i64 ci, .slice a_cL n_cL c_cL, .slice a_cA n_cA c_cA, .slice a_cB n_cB c_cB, .slice a_cC n_cC c_cC]) rfl rfl) rfl rfl ?_
  refine KO.loadN ag111_B10 sz111_B10 rfl (m6.row (i := 1) rfl) (takeN_of (p := [.slice a_tF n_tF c_tF, .slice a_tI n_tI c_tI]) rfl rfl) rfl rfl ?_
  refine KO.pv (PV.makeFunc rfl rfl) rfl rfl ?_
  have m7 := m6.lnilC ES (e := 89) none rfl
  have m8 := m7.innNil (C := EB)
  have m9 : Mem [] H H5 [R.row H3.next 109 true [.slice none 0 0], R.lst 89 1 none 0 (cells ES []) [], R.inn EB [] [] [], R.row H1.next 111 true [.slice a_tF n_tF c_tF, .slice a_tI n_tI c_tI], R.row H.next 26 true [.int .i64 ci, .slice a_cL n_cL c_cL, .slice a_cA n_cA c_cA, .slice a_cB n_cB c_cB, .slice a_cC n_cC c_cC]] := m8.pick [2, 1, 0, 3, 4] (by decide) rfl
  refine KO.call rfl rfl rfl rfl (tr_walkS H5 ci a_cL n_cL c_cL _ a_cA n_cA c_cA _ a_cB n_cB c_cB _ a_cC n_cC c_cC _ a_tF n_tF c_tF _ a_tI n_tI c_tI _ _ H3.next _ _ _ [] _ [] (wrap64 (by omega) (by omega)) (V.mem m9 h_cL) (sepCons (V.sep m9 h_cL (i := 0) rfl) (sepCons (V.sep m9 h_cL (i := 1) rfl) (sepCons (V.sep m9 h_cL (i := 2) rfl) sepEnd))) (V.mem m9 h_cA) (sepCons (V.sep m9 h_cA (i := 0) rfl) (sepCons (V.sep m9 h_cA (i := 1) rfl) (sepCons (V.sep m9 h_cA (i := 2) rfl) sepEnd))) (V.mem m9 h_cB) (sepCons (V.sep m9 h_cB (i := 0) rfl) (sepCons (V.sep m9 h_cB (i := 1) rfl) (sepCons (V.sep m9 h_cB (i := 2) rfl) sepEnd))) (V.mem m9 h_cC) (sepCons (V.sep m9 h_cC (i := 0) rfl) (sepCons (V.sep m9 h_cC (i := 1) rfl) (sepCons (V.sep m9 h_cC (i := 2) rfl) sepEnd))) (V.mem m9 h_tF) (sepCons (V.sep m9 h_tF (i := 0) rfl) (sepCons (V.sep m9 h_tF (i := 1) rfl) (sepCons (V.sep m9 h_tF (i := 2) rfl) sepEnd))) (V.mem m9 h_tI) (VV.mem m9 i_tI) (sepCons (V.sep m9 h_tI (i := 0) rfl) (sepCons (V.sep m9 h_tI (i := 1) rfl) (sepCons (V.sep m9 h_tI (i := 2) rfl) sepEnd))) (fun v hv => (sepCons (VV.sep m9 i_tI (i := 0) rfl v hv) (sepCons (VV.sep m9 i_tI (i := 1) rfl v hv) (sepCons (VV.sep m9 i_tI (i := 2) rfl v hv) sepEnd)))) (m9.ownK (Rs := [R.row H3.next 109 true [.slice none 0 0], R.lst 89 1 none 0 (cells ES []) [], R.inn EB [] [] []])) (by first | omega | assumption) (by first | omega | assumption) (by first | omega | assumption) (by first | assumption | exact all_nil)) fun v10 H10 q10 => ?_
  obtain ⟨pa10, pn10, pv10, pD10, px10, pE10, e10, hv10, mc10, p10_0, p10_1, p10_2, p10_3⟩ := q10
  dsimp only at hv10 mc10
  subst hv10
  have m11 := m9.seqK (Rs := [R.row H3.next 109 true [.slice none 0 0], R.lst 89 1 none 0 (cells ES []) [], R.inn EB [] [] []]) mc10
  refine KO.pv (PV.assign rfl) rfl rfl ?_
  refine KO.nil ?_
  refine KC.seq ?_
  refine KC.region ?_
  refine KO.load1 ag109_B10 rfl (m11.row (i := 0) rfl) rfl rfl rfl ?_
  refine KO.pv (PV.move rfl) rfl rfl ?_
  refine KO.pv (PV.assign rfl) rfl rfl ?_
  refine KO.pv (PV.assign rfl) rfl rfl ?_
  refine KO.nil ?_
  exact KC.ret ⟨rfl, _, (.tmp rfl (.tmp rfl .nil)), pa10, pn10, e10, pv10, pD10, px10, pE10, rfl, m11.pick [1, 2] (by decide) rfl, (by first | omega | (intro h; omega) | (simp only [List.length_nil, true_and, and_true, or_true, true_or] <;> omega)), (by first | omega | (intro h; omega) | (simp only [List.length_nil, true_and, and_true, or_true, true_or] <;> omega) | assumption)⟩
theorem tr_Right (H : AHeap) (ci : Int) (a_cL : Option Addr) (n_cL c_cL : Nat) (cL : List (Int × Int)) (a_cA : Option Addr) (n_cA c_cA : Nat) (cA : List (Int × Int)) (a_cB : Option Addr) (n_cB c_cB : Nat) (cB : List Int) (a_cC : Option Addr) (n_cC c_cC : Nat) (cC : List Int) (a_tF : Option Addr) (n_tF c_tF : Nat) (tF : List Bool) (a_tI : Option Addr) (n_tI c_tI : Nat) (v_tI : List (Option Addr × Nat × Nat)) (tI : List (List Bool)) (w_ci : IntKind.i64.wrap ci = ci) (h_cL : V EP H a_cL n_cL c_cL cL) (h_cA : V EP H a_cA n_cA c_cA cA) (h_cB : V (EI .i64) H a_cB n_cB c_cB cB) (h_cC : V (EI .i64) H a_cC n_cC c_cC cC) (h_tF : V EB H a_tF n_tF c_tF tF) (h_tI : V ES H a_tI n_tI c_tI v_tI) (i_tI : VV EB H v_tI tI) (hF : n_tF ≤ 63000) (hL : n_cL ≤ 63000) : WF E0 88 [.agg #[.int .i64 ci, .slice a_cL n_cL c_cL, .slice a_cA n_cA c_cA, .slice a_cB n_cB c_cB, .slice a_cC n_cC c_cC], .agg #[.slice a_tF n_tF c_tF, .slice a_tI n_tI c_tI]] H fun q => ∃ (z : Int) (e : Int), q.1 = .tuple #[.int .i64 z, .int .i64 e] ∧ Mem [] H q.2 [] := by
  obtain ⟨lo_ci, hi_ci⟩ := rangei64 w_ci
  obtain ⟨len_cL, cap_cL, max_cL, wf_cL⟩ := h_cL.len
  obtain ⟨len_cA, cap_cA, max_cA, wf_cA⟩ := h_cA.len
  obtain ⟨len_cB, cap_cB, max_cB, wf_cB⟩ := h_cB.len
  obtain ⟨len_cC, cap_cC, max_cC, wf_cC⟩ := h_cC.len
  obtain ⟨len_tF, cap_tF, max_tF, wf_tF⟩ := h_tF.len
  obtain ⟨len_tI, cap_tI, max_tI, wf_tI⟩ := h_tI.len
  have len2_tI := i_tI.1
  have len3_tI : tI.length = n_tI := by omega
  have m0 : Mem [] H H [] := Mem.start
  refine WF.kg Tryz.func88 rfl rfl ?_
  refine KC.seq ?_
  refine KC.region ?_
  refine KO.boxM m0 rfl rfl (show _ = [.int .i64 ci, .slice a_cL n_cL c_cL, .slice a_cA n_cA c_cA, .slice a_cB n_cB c_cB, .slice a_cC n_cC c_cC] from rfl) rfl rfl fun H1 m2 => ?_
  refine KO.boxM m2 rfl rfl (show _ = [.slice a_tF n_tF c_tF, .slice a_tI n_tI c_tI] from rfl) rfl rfl fun H3 m4 => ?_
  refine KO.pv (PV.assign rfl) rfl rfl ?_
  refine KO.pv (PV.assign rfl) rfl rfl ?_
  refine KO.nil ?_
  refine KC.seq ?_
  refine KC.region ?_
  refine KO.allocM m4 zt3_B10 rfl rfl fun H5 m6 => ?_
  refine KO.storeM m6 (i := 0) rfl sz3_B10 rfl rfl rfl (show 0 + 1 ≤ 1 by decide) (show _ = [.int .i64 0] from rfl) rfl fun H7 m8 => ?_
  refine KO.nil ?_
  refine KC.seq ?_
  refine KC.region ?_
  refine KO.loadN ag26_B10 sz26_B10 rfl (m8.row (i := 2) rfl) (takeN_of (p := [.int .i64 ci, .slice a_cL n_cL c_cL, .slice a_cA n_cA c_cA, .slice a_cB n_cB c_cB, .slice a_cC n_cC c_cC]) rfl rfl) rfl rfl ?_
  refine KO.loadN ag111_B10 sz111_B10 rfl (m8.row (i := 1) rfl) (takeN_of (p := [.slice a_tF n_tF c_tF, .slice a_tI n_tI c_tI]) rfl rfl) rfl rfl ?_
  refine KO.pv (PV.makeFunc rfl rfl) rfl rfl ?_
  have m9 : Mem [] H H7 [R.row H3.next 3 true [.int .i64 0], R.row H1.next 111 true [.slice a_tF n_tF c_tF, .slice a_tI n_tI c_tI], R.row H.next 26 true [.int .i64 ci, .slice a_cL n_cL c_cL, .slice a_cA n_cA c_cA, .slice a_cB n_cB c_cB, .slice a_cC n_cC c_cC]] := m8.pick [0, 1, 2] (by decide) rfl
  refine KO.call rfl rfl rfl rfl (tr_walkR H7 ci a_cL n_cL c_cL _ a_cA n_cA c_cA _ a_cB n_cB c_cB _ a_cC n_cC c_cC _ a_tF n_tF c_tF _ a_tI n_tI c_tI _ _ H3.next 0 (wrap64 (by omega) (by omega)) (V.mem m9 h_cL) (sepCons (V.sep m9 h_cL (i := 0) rfl) sepEnd) (V.mem m9 h_cA) (sepCons (V.sep m9 h_cA (i := 0) rfl) sepEnd) (V.mem m9 h_cB) (sepCons (V.sep m9 h_cB (i := 0) rfl) sepEnd) (V.mem m9 h_cC) (sepCons (V.sep m9 h_cC (i := 0) rfl) sepEnd) (V.mem m9 h_tF) (sepCons (V.sep m9 h_tF (i := 0) rfl) sepEnd) (V.mem m9 h_tI) (VV.mem m9 i_tI) (sepCons (V.sep m9 h_tI (i := 0) rfl) sepEnd) (fun v hv => (sepCons (VV.sep m9 i_tI (i := 0) rfl v hv) sepEnd)) (m9.ownK (Rs := [R.row H3.next 3 true [.int .i64 0]])) (wrap64 (by omega) (by omega)) (by first | omega | assumption) (by first | omega | assumption) (by first | omega | assumption)) fun v10 H10 q10 => ?_
  obtain ⟨pw10, e10, hv10, mc10, p10_0, p10_1, p10_2⟩ := q10
  dsimp only at hv10 mc10
  subst hv10
  have m11 := m9.seqK (Rs := [R.row H3.next 3 true [.int .i64 0]]) mc10
  refine KO.pv (PV.assign rfl) rfl rfl ?_
  refine KO.nil ?_
  refine KC.seq ?_
  refine KC.region ?_
  refine KO.load1 ag3_B10 rfl (m11.row (i := 0) rfl) rfl rfl rfl ?_
  refine KO.pv (PV.move rfl) rfl rfl ?_
  refine KO.pv (PV.assign rfl) rfl rfl ?_
  refine KO.pv (PV.assign rfl) rfl rfl ?_
  refine KO.nil ?_
  exact KC.ret ⟨rfl, _, (.tmp rfl (.tmp rfl .nil)), pw10, e10, rfl, m11.pick [] (by decide) rfl⟩
theorem tr_Witness (H : AHeap) (ci : Int) (a_cL : Option Addr) (n_cL c_cL : Nat) (cL : List (Int × Int)) (a_cA : Option Addr) (n_cA c_cA : Nat) (cA : List (Int × Int)) (a_cB : Option Addr) (n_cB c_cB : Nat) (cB : List Int) (a_cC : Option Addr) (n_cC c_cC : Nat) (cC : List Int) (a_tF : Option Addr) (n_tF c_tF : Nat) (tF : List Bool) (a_tI : Option Addr) (n_tI c_tI : Nat) (v_tI : List (Option Addr × Nat × Nat)) (tI : List (List Bool)) (w_ci : IntKind.i64.wrap ci = ci) (h_cL : V EP H a_cL n_cL c_cL cL) (h_cA : V EP H a_cA n_cA c_cA cA) (h_cB : V (EI .i64) H a_cB n_cB c_cB cB) (h_cC : V (EI .i64) H a_cC n_cC c_cC cC) (h_tF : V EB H a_tF n_tF c_tF tF) (h_tI : V ES H a_tI n_tI c_tI v_tI) (i_tI : VV EB H v_tI tI) (hF : n_tF ≤ 63000) (hL : n_cL ≤ 63000) (hI : n_tI ≤ 63000) : WF E0 90 [.agg #[.int .i64 ci, .slice a_cL n_cL c_cL, .slice a_cA n_cA c_cA, .slice a_cB n_cB c_cB, .slice a_cC n_cC c_cC], .agg #[.slice a_tF n_tF c_tF, .slice a_tI n_tI c_tI]] H fun q => ∃ (z : Int) (e : Int), q.1 = .tuple #[.int .i64 z, .int .i64 e] ∧ Mem [] H q.2 [] ∧ (0 ≤ e ∧ e ≤ 100) := by
  obtain ⟨lo_ci, hi_ci⟩ := rangei64 w_ci
  obtain ⟨len_cL, cap_cL, max_cL, wf_cL⟩ := h_cL.len
  obtain ⟨len_cA, cap_cA, max_cA, wf_cA⟩ := h_cA.len
  obtain ⟨len_cB, cap_cB, max_cB, wf_cB⟩ := h_cB.len
  obtain ⟨len_cC, cap_cC, max_cC, wf_cC⟩ := h_cC.len
  obtain ⟨len_tF, cap_tF, max_tF, wf_tF⟩ := h_tF.len
  obtain ⟨len_tI, cap_tI, max_tI, wf_tI⟩ := h_tI.len
  have len2_tI := i_tI.1
  have len3_tI : tI.length = n_tI := by omega
  have m0 : Mem [] H H [] := Mem.start
  refine WF.kg Tryz.func90 rfl rfl ?_
  refine KC.seq ?_
  refine KC.region ?_
  refine KO.boxM m0 rfl rfl (show _ = [.int .i64 ci, .slice a_cL n_cL c_cL, .slice a_cA n_cA c_cA, .slice a_cB n_cB c_cB, .slice a_cC n_cC c_cC] from rfl) rfl rfl fun H1 m2 => ?_
  refine KO.boxM m2 rfl rfl (show _ = [.slice a_tF n_tF c_tF, .slice a_tI n_tI c_tI] from rfl) rfl rfl fun H3 m4 => ?_
  refine KO.pv (PV.assign rfl) rfl rfl ?_
  refine KO.pv (PV.assign rfl) rfl rfl ?_
  refine KO.nil ?_
  refine KC.seq ?_
  refine KC.region ?_
  refine KO.allocM m4 zt3_B10 rfl rfl fun H5 m6 => ?_
  refine KO.storeM m6 (i := 0) rfl sz3_B10 rfl rfl rfl (show 0 + 1 ≤ 1 by decide) (show _ = [.int .i64 (-1)] from rfl) rfl fun H7 m8 => ?_
  refine KO.nil ?_
  refine KC.seq ?_
  refine KC.region ?_
  refine KO.loadN ag26_B10 sz26_B10 rfl (m8.row (i := 2) rfl) (takeN_of (p := [.int .i64 ci, .slice a_cL n_cL c_cL, .slice a_cA n_cA c_cA, .slice a_cB n_cB c_cB, .slice a_cC n_cC c_cC]) rfl rfl) rfl rfl ?_
  refine KO.loadN ag111_B10 sz111_B10 rfl (m8.row (i := 1) rfl) (takeN_of (p := [.slice a_tF n_tF c_tF, .slice a_tI n_tI c_tI]) rfl rfl) rfl rfl ?_
  refine KO.pv (PV.makeFunc rfl rfl) rfl rfl ?_
  have m9 : Mem [] H H7 [R.row H1.next 111 true [.slice a_tF n_tF c_tF, .slice a_tI n_tI c_tI], R.row H3.next 3 true [.int .i64 (-1)], R.row H.next 26 true [.int .i64 ci, .slice a_cL n_cL c_cL, .slice a_cA n_cA c_cA, .slice a_cB n_cB c_cB, .slice a_cC n_cC c_cC]] := m8.pick [1, 0, 2] (by decide) rfl
  refine KO.call rfl rfl rfl rfl (tr_walkW H7 ci a_cL n_cL c_cL _ a_cA n_cA c_cA _ a_cB n_cB c_cB _ a_cC n_cC c_cC _ a_tF n_tF c_tF _ a_tI n_tI c_tI _ _ H1.next a_tF n_tF c_tF a_tI n_tI c_tI H3.next (-1) (wrap64 (by omega) (by omega)) (V.mem m9 h_cL) (sepCons (V.sep m9 h_cL (i := 0) rfl) (sepCons (V.sep m9 h_cL (i := 1) rfl) sepEnd)) (V.mem m9 h_cA) (sepCons (V.sep m9 h_cA (i := 0) rfl) (sepCons (V.sep m9 h_cA (i := 1) rfl) sepEnd)) (V.mem m9 h_cB) (sepCons (V.sep m9 h_cB (i := 0) rfl) (sepCons (V.sep m9 h_cB (i := 1) rfl) sepEnd)) (V.mem m9 h_cC) (sepCons (V.sep m9 h_cC (i := 0) rfl) (sepCons (V.sep m9 h_cC (i := 1) rfl) sepEnd)) (V.mem m9 h_tF) (sepCons (V.sep m9 h_tF (i := 0) rfl) (sepCons (V.sep m9 h_tF (i := 1) rfl) sepEnd)) (V.mem m9 h_tI) (VV.mem m9 i_tI) (sepCons (V.sep m9 h_tI (i := 0) rfl) (sepCons (V.sep m9 h_tI (i := 1) rfl) sepEnd)) (fun v hv => (sepCons (VV.sep m9 i_tI (i := 0) rfl v hv) (sepCons (VV.sep m9 i_tI (i := 1) rfl v hv) sepEnd))) (m9.ownK (Rs := [R.row H1.next 111 true [.slice a_tF n_tF c_tF, .slice a_tI n_tI c_tI], R.row H3.next 3 true [.int .i64 (-1)]])) (wrap64 (by omega) (by omega)) (by first | omega | assumption) (by first | omega | assumption) (by first | omega | assumption) (by first | omega | assumption)) fun v10 H10 q10 => ?_
  obtain ⟨pw10, e10, hv10, mc10, p10_0, p10_1, p10_2⟩ := q10
  dsimp only at hv10 mc10
  subst hv10
  have m11 := m9.seqK (Rs := [R.row H1.next 111 true [.slice a_tF n_tF c_tF, .slice a_tI n_tI c_tI], R.row H3.next 3 true [.int .i64 (-1)]]) mc10
  refine KO.pv (PV.assign rfl) rfl rfl ?_
  refine KO.nil ?_
  refine KC.seq ?_
  refine KC.block ?_
  refine KC.seq ?_
  refine KC.region ?_
  refine KO.pv (PV.move rfl) rfl rfl ?_
  refine KO.pv (PV.neqD rfl rfl rfl) rfl rfl ?_
  refine KO.pv (PV.assign rfl) rfl rfl ?_
  refine KO.nil ?_
  refine KC.condD rfl (fun h12 => ?_) (fun h12 => ?_)
  · refine KC.seq ?_
    refine KC.region ?_
    refine KO.pv (PV.move rfl) rfl rfl ?_
    refine KO.pv (PV.assign rfl) rfl rfl ?_
    refine KO.pv (PV.assign rfl) rfl rfl ?_
    refine KO.nil ?_
    exact KC.ret ⟨rfl, _, (.tmp rfl (.tmp rfl .nil)), 0, e10, rfl, m11.pick [] (by decide) rfl, (by first | omega | (intro h; omega) | (simp only [List.length_nil, true_and, and_true, or_true, true_or] <;> omega))⟩
  · have p10_2t := p10_2 (by omega)
    refine KC.seq ?_
    refine KC.region ?_
    refine KO.load1 ag3_B10 rfl (m11.row (i := 1) rfl) rfl rfl rfl ?_
    refine KO.pv (PV.lssD rfl rfl rfl) rfl rfl ?_
    refine KO.pv (PV.assign rfl) rfl rfl ?_
    refine KO.nil ?_
    refine KC.condD rfl (fun h13 => ?_) (fun h13 => ?_)
    · refine KC.seq ?_
      refine KC.region ?_
      refine KO.pv (PV.assign rfl) rfl rfl ?_
      refine KO.pv (PV.assign rfl) rfl rfl ?_
      refine KO.nil ?_
      exact KC.ret ⟨rfl, _, (.tmp rfl (.tmp rfl .nil)), 0, 57, rfl, m11.pick [] (by decide) rfl, (by first | omega | (intro h; omega) | (simp only [List.length_nil, true_and, and_true, or_true, true_or] <;> omega))⟩
    · refine KC.skip ?_
      refine KC.seq ?_
      refine KC.region ?_
      refine KO.load1 ag3_B10 rfl (m11.row (i := 1) rfl) rfl rfl rfl ?_
      refine KO.pv (PV.assign rfl) rfl rfl ?_
      refine KO.pv (PV.assign rfl) rfl rfl ?_
      refine KO.nil ?_
      exact KC.ret ⟨rfl, _, (.tmp rfl (.tmp rfl .nil)), pw10, 0, rfl, m11.pick [] (by decide) rfl, (by first | omega | (intro h; omega) | (simp only [List.length_nil, true_and, and_true, or_true, true_or] <;> omega))⟩
theorem tr_Cut (H : AHeap) (ci : Int) (a_cL : Option Addr) (n_cL c_cL : Nat) (cL : List (Int × Int)) (a_cA : Option Addr) (n_cA c_cA : Nat) (cA : List (Int × Int)) (a_cB : Option Addr) (n_cB c_cB : Nat) (cB : List Int) (a_cC : Option Addr) (n_cC c_cC : Nat) (cC : List Int) (a_tF : Option Addr) (n_tF c_tF : Nat) (tF : List Bool) (a_tI : Option Addr) (n_tI c_tI : Nat) (v_tI : List (Option Addr × Nat × Nat)) (tI : List (List Bool)) (w_ci : IntKind.i64.wrap ci = ci) (h_cL : V EP H a_cL n_cL c_cL cL) (h_cA : V EP H a_cA n_cA c_cA cA) (h_cB : V (EI .i64) H a_cB n_cB c_cB cB) (h_cC : V (EI .i64) H a_cC n_cC c_cC cC) (h_tF : V EB H a_tF n_tF c_tF tF) (h_tI : V ES H a_tI n_tI c_tI v_tI) (i_tI : VV EB H v_tI tI) (hF : n_tF ≤ 63000) (hL : n_cL ≤ 63000) (hI : ∀ c ∈ tI, c.length ≤ 63000) : WF E0 92 [.agg #[.int .i64 ci, .slice a_cL n_cL c_cL, .slice a_cA n_cA c_cA, .slice a_cB n_cB c_cB, .slice a_cC n_cC c_cC], .agg #[.slice a_tF n_tF c_tF, .slice a_tI n_tI c_tI]] H fun q => ∃ (a1 : Option Addr) (n1 : Nat) (c1 : Nat) (l1 : List Bool) (D1 : List Nat) (a2 : Option Addr) (n2 : Nat) (c2 : Nat) (v2 : List (Option Addr × Nat × Nat)) (D2 : List Nat) (l2 : List (List Bool)) (E2 : List Nat) (e : Int), q.1 = .tuple #[.agg #[.slice a1 n1 c1, .slice a2 n2 c2], .int .i64 e] ∧ Mem [] H q.2 [R.own EB a1 n1 c1 l1 D1, R.own ES a2 n2 c2 v2 D2, R.inn EB v2 l2 E2] ∧ (n1 ≤ 63000 ∧ n2 ≤ 100) ∧ (∀ c ∈ l2, c.length ≤ 63000) := by
  obtain ⟨lo_ci, hi_ci⟩ := rangei64 w_ci
  obtain ⟨len_cL, cap_cL, max_cL, wf_cL⟩ := h_cL.len
  obtain ⟨len_cA, cap_cA, max_cA, wf_cA⟩ := h_cA.len
  obtain ⟨len_cB, cap_cB, max_cB, wf_cB⟩ := h_cB.len
  obtain ⟨len_cC, cap_cC, max_cC, wf_cC⟩ := h_cC.len
  obtain ⟨len_tF, cap_tF, max_tF, wf_tF⟩ := h_tF.len
  obtain ⟨len_tI, cap_tI, max_tI, wf_tI⟩ := h_tI.len
  have len2_tI := i_tI.1
  have len3_tI : tI.length = n_tI := by omega
  have m0 : Mem [] H H [] := Mem.start
  refine WF.kg Tryz.func92 rfl rfl ?_
  refine KC.seq ?_
  refine KC.region ?_
  refine KO.boxM m0 rfl rfl (show _ = [.int .i64 ci, .slice a_cL n_cL c_cL, .slice a_cA n_cA c_cA, .slice a_cB n_cB c_cB, .slice a_cC n_cC c_cC] from rfl) rfl rfl fun H1 m2 => ?_
  refine KO.boxM m2 rfl rfl (show _ = [.slice a_tF n_tF c_tF, .slice a_tI n_tI c_tI] from rfl) rfl rfl fun H3 m4 => ?_
  refine KO.allocM m4 zt111_B10 rfl rfl fun H5 m6 => ?_
  refine KO.pv (PV.assign rfl) rfl rfl ?_
  refine KO.nil ?_
  refine KC.seq ?_
  refine KC.region ?_
  refine KO.allocM m6 zt3_B10 rfl rfl fun H7 m8 => ?_
  refine KO.storeM m8 (i := 0) rfl sz3_B10 rfl rfl rfl (show 0 + 1 ≤ 1 by decide) (show _ = [.int .i64 0] from rfl) rfl fun H9 m10 => ?_
  refine KO.nil ?_
  refine KC.seq ?_
  refine KC.region ?_
  refine KO.loadN ag26_B10 sz26_B10 rfl (m10.row (i := 3) rfl) (takeN_of (p := [.int .i64 ci, .slice a_cL n_cL c_cL, .slice a_cA n_cA c_cA, .slice a_cB n_cB c_cB, .slice a_cC n_cC c_cC]) rfl rfl) rfl rfl ?_
  refine KO.loadN ag111_B10 sz111_B10 rfl (m10.row (i := 2) rfl) (takeN_of (p := [.slice a_tF n_tF c_tF, .slice a_tI n_tI c_tI]) rfl rfl) rfl rfl ?_
  refine KO.pv (PV.makeFunc rfl rfl) rfl rfl ?_
  have m11 : Mem [] H H9 [R.row H5.next 3 true [.int .i64 0], R.row H3.next 111 true [.slice none 0 0, .slice none 0 0], R.row H1.next 111 true [.slice a_tF n_tF c_tF, .slice a_tI n_tI c_tI], R.row H.next 26 true [.int .i64 ci, .slice a_cL n_cL c_cL, .slice a_cA n_cA c_cA, .slice a_cB n_cB c_cB, .slice a_cC n_cC c_cC]] := m10.pick [0, 1, 2, 3] (by decide) rfl
  refine KO.call rfl rfl rfl rfl (tr_walkC H9 ci a_cL n_cL c_cL _ a_cA n_cA c_cA _ a_cB n_cB c_cB _ a_cC n_cC c_cC _ a_tF n_tF c_tF _ a_tI n_tI c_tI _ _ H5.next 0 (wrap64 (by omega) (by omega)) (V.mem m11 h_cL) (sepCons (V.sep m11 h_cL (i := 0) rfl) sepEnd) (V.mem m11 h_cA) (sepCons (V.sep m11 h_cA (i := 0) rfl) sepEnd) (V.mem m11 h_cB) (sepCons (V.sep m11 h_cB (i := 0) rfl) sepEnd) (V.mem m11 h_cC) (sepCons (V.sep m11 h_cC (i := 0) rfl) sepEnd) (V.mem m11 h_tF) (sepCons (V.sep m11 h_tF (i := 0) rfl) sepEnd) (V.mem m11 h_tI) (VV.mem m11 i_tI) (sepCons (V.sep m11 h_tI (i := 0) rfl) sepEnd) (fun v hv => (sepCons (VV.sep m11 i_tI (i := 0) rfl v hv) sepEnd)) (m11.ownK (Rs := [R.row H5.next 3 true [.int .i64 0]])) (wrap64 (by omega) (by omega)) (by first | omega | assumption) (by first | omega | assumption) (by first | omega | assumption)) fun v12 H12 q12 => ?_
  obtain ⟨pw12, e12, hv12, mc12, p12_0, p12_1, p12_2⟩ := q12
  dsimp only at hv12 mc12
  subst hv12
  have m13 := m11.seqK (Rs := [R.row H5.next 3 true [.int .i64 0]]) mc12
  refine KO.pv (PV.assign rfl) rfl rfl ?_
  refine KO.nil ?_
  refine KC.seq ?_
  refine KC.seq ?_
  refine KC.region ?_
  refine KO.pv (PV.move rfl) rfl rfl ?_
  refine KO.pv (PV.neqD rfl rfl rfl) rfl rfl ?_
  refine KO.nil ?_
  refine KC.condD rfl (fun h14 => ?_) (fun h14 => ?_)
  · refine KC.seq ?_
    refine KC.region ?_
    refine KO.pv (PV.build rfl bl111__B10) rfl rfl ?_
    refine KO.pv (PV.move rfl) rfl rfl ?_
    refine KO.storeM m13 (i := 1) rfl sz111_B10 rfl rfl rfl (show 0 + 2 ≤ 2 by decide) (show _ = [.slice none 0 0, .slice none 0 0] from rfl) rfl fun H15 m16 => ?_
    refine KO.pv (PV.assign rfl) rfl rfl ?_
    refine KO.nil ?_
    have m17 := m16.ownNil (C := EB)
    have m18 := m17.ownNil (C := ES)
    have m19 := m18.innNil (C := EB)
    exact KC.ret ⟨rfl, _, (.cell rfl (ldN (m16.row (i := 1) rfl) ag111_B10 sz111_B10 rfl rfl) (.tmp rfl .nil)), none, 0, 0, [], [], none, 0, 0, [], [], [], [], e12, rfl, m19.pick [2, 1, 0] (by decide) rfl, (by first | omega | (intro h; omega) | (simp only [List.length_nil, true_and, and_true, or_true, true_or] <;> omega)), (by first | omega | (intro h; omega) | (simp only [List.length_nil, true_and, and_true, or_true, true_or] <;> omega) | exact all_nil | assumption)⟩
  · have p12_2t := p12_2 (by omega)
    refine KC.skip ?_
    refine KC.seq ?_
    refine KC.seq ?_
    refine KC.region ?_
    refine KO.load1 ag3_B10 rfl (m13.row (i := 0) rfl) rfl rfl rfl ?_
    refine KO.pv (PV.eqlD rfl rfl rfl) rfl rfl ?_
    refine KO.nil ?_
    refine KC.condD rfl (fun h20 => ?_) (fun h20 => ?_)
    · refine KC.seq ?_
      refine KC.region ?_
      refine KO.pv (PV.build rfl bl111__B10) rfl rfl ?_
      refine KO.storeM m13 (i := 1) rfl sz111_B10 rfl rfl rfl (show 0 + 2 ≤ 2 by decide) (show _ = [.slice none 0 0, .slice none 0 0] from rfl) rfl fun H21 m22 => ?_
      refine KO.pv (PV.assign rfl) rfl rfl ?_
      refine KO.nil ?_
      have m23 := m22.ownNil (C := EB)
      have m24 := m23.ownNil (C := ES)
      have m25 := m24.innNil (C := EB)
      exact KC.ret ⟨rfl, _, (.cell rfl (ldN (m22.row (i := 1) rfl) ag111_B10 sz111_B10 rfl rfl) (.tmp rfl .nil)), none, 0, 0, [], [], none, 0, 0, [], [], [], [], 6, rfl, m25.pick [2, 1, 0] (by decide) rfl, (by first | omega | (intro h; omega) | (simp only [List.length_nil, true_and, and_true, or_true, true_or] <;> omega)), (by first | omega | (intro h; omega) | (simp only [List.length_nil, true_and, and_true, or_true, true_or] <;> omega) | exact all_nil | assumption)⟩
    · refine KC.skip ?_
      refine KC.seq ?_
      refine KC.region ?_
      refine KO.pv (PV.fieldAddr fo111_0_B10 rfl) rfl rfl ?_
      refine KO.load1 ag89_B10 rfl (m13.row (i := 2) rfl) rfl rfl rfl ?_
      refine KO.call rfl rfl rfl rfl (Clone_bool H12 a_tF n_tF c_tF _ (V.mem m13 h_tF) (by first | omega | assumption)) fun v26 H26 q26 => ?_
      obtain ⟨a26, n26, xs26, D26, hv26, mc26, p26_0, p26_1, p26_2⟩ := q26
      dsimp only at hv26 mc26
      subst hv26
      have m27 := m13.seq mc26
      refine KO.pv (PV.build rfl (bl111_0s_B10 _ _ _)) rfl rfl ?_
      refine KO.allocM m27 zt111_B10 rfl rfl fun H28 m29 => ?_
      refine KO.storeM m29 (i := 0) rfl sz111_B10 rfl rfl rfl (show 0 + 2 ≤ 2 by decide) (show _ = [.slice a26 n26 n26, .slice none 0 0] from rfl) rfl fun H30 m31 => ?_
      refine KO.nil ?_
      refine KC.seq ?_
      refine KC.seq ?_
      refine KC.region ?_
      refine KO.pv (PV.fieldAddr fo111_1_B10 rfl) rfl rfl ?_
      refine KO.load1 ag109_B10 rfl (m31.row (i := 4) rfl) rfl rfl rfl ?_
      refine KO.load1 ag3_B10 rfl (m31.row (i := 2) rfl) rfl rfl rfl ?_
      refine KO.pv (PV.slice rfl (fun _ h => by cases h) (fun _ => rfl) (fun _ h => by cases h; exact ⟨_, rfl, rfl⟩) (fun h => by cases h) (fun _ h => by cases h) (fun _ => rfl) (sliceTo un109_B10 sz89_B10 (V.mem m31 h_tI) (by omega) (by omega))) rfl rfl ?_
      refine KO.pv (PV.len un109_B10 rfl) rfl rfl ?_
      refine KO.pv (PV.move rfl) rfl rfl ?_
      refine KO.nil ?_
      refine KC.block ?_
      refine KC.sub (l' := [(4, .pointer (some ⟨H3.next, 0, none⟩)), (8, .pointer (some ⟨H26.next, 0, none⟩)), (29, .slice a_tI ((pw12).toNat) c_tI), (30, .int .i64 ((pw12).toNat : Int)), (31, .int .i64 0)]) (.cons rfl (.cons rfl (.cons rfl (.cons rfl (.cons rfl .nil))))) ?_
      have m32 := m31.lnilC ES (e := 89) none rfl
      have m33 := m32.innNil (C := EB)
      refine KC.loopN (fun kq lq A => ∃ (x31 : Int) (a_c8_1 : Option Addr) (n_c8_1 : Nat) (l_c8_1 : List (Option Addr × Nat × Nat)) (D_c8_1 : List Nat) (i_c8_1 : List (List Bool)) (E_c8_1 : List Nat), kq = (((pw12).toNat : Int) - x31).toNat ∧ lq = [(4, .pointer (some ⟨H3.next, 0, none⟩)), (8, .pointer (some ⟨H26.next, 0, none⟩)), (29, .slice a_tI ((pw12).toNat) c_tI), (30, .int .i64 ((pw12).toNat : Int)), (31, .int .i64 x31)] ∧ Mem [] H A [R.row H26.next 111 true [.slice a26 n26 n26, .slice a_c8_1 n_c8_1 n_c8_1], R.lst 4 1 a26 n26 (cells EB xs26) D26, R.row H3.next 111 true [.slice none 0 0, .slice none 0 0], R.lst 89 1 a_c8_1 n_c8_1 (cells ES l_c8_1) D_c8_1, R.inn EB l_c8_1 i_c8_1 E_c8_1] ∧ (0 ≤ x31 ∧ x31 ≤ ((pw12).toNat : Int)) ∧ ((n_c8_1 : Int) = x31) ∧ (l_c8_1.length = n_c8_1) ∧ (∀ c ∈ i_c8_1, c.length ≤ 63000)) ?_ ((((pw12).toNat : Int) - 0).toNat) ⟨0, none, 0, [], [], [], [], rfl, rfl, (m33.pick [2, 3, 5, 1, 0] (by decide) rfl), (by first | omega | assumption | (constructor <;> omega)), (by first | omega | (simp only [splice, List.length_append, List.length_set, List.length_replicate, List.length_map, List.length_take, List.length_drop, List.length_cons, List.length_nil] <;> omega)), (by first | omega | (simp only [splice, List.length_append, List.length_set, List.length_replicate, List.length_map, List.length_take, List.length_drop, List.length_cons, List.length_nil] <;> omega)), all_nil⟩
      rintro kq lq A34 ⟨x31, a_c8_1, n_c8_1, l_c8_1, D_c8_1, i_c8_1, E_c8_1, rfl, rfl, m35, hr9, hn81, hl_l_c8_1, hk_l_c8_1⟩
      refine KC.seq ?_
      refine KC.region ?_
      refine KO.pv (PV.lssD rfl rfl rfl) rfl rfl ?_
      refine KO.nil ?_
      refine KC.seq ?_
      refine KC.condD rfl (fun h36 => ?_) (fun h36 => ?_)
      · refine KC.skip ?_
        refine KC.seq ?_
        refine KC.block ?_
        refine KC.seq ?_
        refine KC.region ?_
        obtain ⟨b37, o37, p37, r37, e37, ha37, hb37, hr37, hx37, hw37, hc37, ht37⟩ := V.at_ h_tI (z := x31) (by omega) (by omega)
        have hc37_0 : r37.cs[o37 + (x31).toNat * 1 + 0]? = some (.slice e37.1 e37.2.1 e37.2.2) := hc37 0 (by decide)
        obtain ⟨xs37, hxs37, hV37⟩ := VV.at_ i_tI hx37
        obtain ⟨len37, cap37, max37, wf37⟩ := hV37.len
        have hI37 := hI _ (List.mem_of_getElem? hxs37)
        refine KO.pv (PV.indexAddrZ un109_B10 sz89_B10 rfl ha37 rfl (by omega) (by omega)) rfl rfl ?_
        refine KO.load1 ag89_B10 rfl (m35.row0 hb37 hr37) hc37_0 rfl rfl ?_
        refine KO.pv (PV.assign rfl) rfl rfl ?_
        refine KO.nil ?_
        refine KC.drawG (n := 8) (anc := [0, 1, 0, 4, 12, 31, 63, 127]) (hv := [3, 5, 7]) (ord := [2, 3, 0, 1, 4, 5, 6, 7]) (by kernel_rfl) (by kernel_rfl) (by kernel_rfl) (by kernel_rfl) (by kernel_rfl) fun H38 n39 g40 => ?_
        have m41 := m35.room n39 g40 [4] (by decide) (by decide)
        refine KD.pv 4 (PV.move rfl) rfl rfl rfl (by kernel_rfl) rfl rfl rfl ?_
        refine KD.call 12 rfl rfl rfl (by kernel_rfl) rfl rfl rfl (Clone_bool H38 e37.1 e37.2.1 e37.2.2 _ (V.mem m41 hV37) (by first | omega | assumption)) fun v42 H42 q42 => ?_
        obtain ⟨a42, n42, xs42, D42, hv42, mc42, p42_0, p42_1, p42_2⟩ := q42
        dsimp only at hv42 mc42
        subst hv42
        have m43 := m41.seq mc42
        refine KD.pv 13 (PV.fieldAddr fo111_1_B10 rfl) rfl rfl rfl (by kernel_rfl) rfl rfl rfl ?_
        refine KD.load 15 rfl (m43.row (i := 2) rfl) (by rw [read1 ag109_B10]; exact rfl) (pastGo (k := 2) (l := [H42, H38]) (by kernel_rfl) rfl (pastCons ⟨_, (m43.row (i := 2) rfl), (by rw [read1 ag109_B10]; exact rfl)⟩ (pastCons ⟨_, (m41.row (i := 1) rfl), (by rw [read1 ag109_B10]; exact rfl)⟩ pastNil))) veq_sl rfl (by kernel_rfl) rfl rfl rfl ?_
        refine KD.buildSliceM 31 m43 (j := 1) rfl el109_B10 ez89_B10 rfl rfl (show _ = some [.slice a42 n42 n42] from rfl) rfl (by kernel_rfl) rfl rfl rfl fun H44 m45 => ?_
        refine KD.appendC 63 (C := ES) m45 (j := 5) rfl el109_B10 ez89_B10 sb89_B10 un109_B10 rfl rfl (newElems_row1 (C := ES) (y := (a42, n42, n42)) (m45.row (i := 1) rfl) rfl) rfl (by first | omega | (simp only [splice, List.length_append, List.length_set, List.length_replicate, List.length_map, List.length_take, List.length_drop, List.length_cons, List.length_nil] <;> omega)) rfl (by kernel_rfl) rfl rfl rfl fun a47 D48 H46 m49 => ?_
        have m50 := m49.ownLst (C := EB) (i := 0) rfl (fun _ _ => trivial) (by first | omega | (simp only [splice, List.length_append, List.length_set, List.length_replicate, List.length_map, List.length_take, List.length_drop, List.length_cons, List.length_nil] <;> omega))
        have m51 : Mem [] H H46 [R.inn EB l_c8_1 i_c8_1 E_c8_1, R.own EB a42 n42 n42 xs42 D42, R.row (A34.next + 4) 89 true [.slice a42 n42 n42], R.row H26.next 111 true [.slice a26 n26 n26, .slice a_c8_1 n_c8_1 n_c8_1], R.lst 4 1 a26 n26 (cells EB xs26) D26, R.row H3.next 111 true [.slice none 0 0, .slice none 0 0], R.lst 89 1 a47 (n_c8_1 + 1) (cells ES (l_c8_1 ++ [(a42, n42, n42)])) D48] := m50.pick [6, 0, 1, 2, 3, 4, 5] (by decide) rfl
        have m52 := m51.push
        refine KD.pv 127 (PV.fieldAddr fo111_1_B10 rfl) rfl rfl rfl (by kernel_rfl) rfl rfl rfl ?_
        refine KD.storeM 255 m52 (j := 2) rfl sz109_B10 rfl rfl rfl (show 1 + 1 ≤ 2 by decide) (show _ = [.slice a26 n26 n26, .slice a47 (n_c8_1 + 1) (n_c8_1 + 1)] from rfl) rfl (by kernel_rfl) rfl rfl fun H53 m54 => ?_
        refine KD.nil ⟨rfl, ?_⟩
        refine KC.region ?_
        refine KO.pv (PV.add rfl rfl (wrap64 (by omega) (by omega))) rfl rfl ?_
        refine KO.pv (PV.move rfl) rfl rfl ?_
        refine KO.nil ?_
        exact ⟨_, _, (by omega), (.cons rfl (.cons rfl (.cons rfl (.cons rfl (.cons rfl .nil))))), (x31 + 1), a47, (n_c8_1 + 1), (l_c8_1 ++ [(a42, n42, n42)]), D48, (i_c8_1 ++ [xs42]), (E_c8_1 ++ D42), rfl, rfl, (m54.pick [2, 3, 4, 5, 0] (by decide) rfl), (by first | omega | assumption | (constructor <;> omega)), (by first | omega | (simp only [splice, List.length_append, List.length_set, List.length_replicate, List.length_map, List.length_take, List.length_drop, List.length_cons, List.length_nil] <;> omega)), (by first | omega | (simp only [splice, List.length_append, List.length_set, List.length_replicate, List.length_map, List.length_take, List.length_drop, List.length_cons, List.length_nil] <;> omega)), (all_app hk_l_c8_1 (all_one (by first | omega | assumption | (constructor <;> omega))))⟩
      · refine KC.exit ?_
        refine KC.seq ?_
        refine KC.region ?_
        refine KO.loadN ag111_B10 sz111_B10 rfl (m35.row (i := 0) rfl) (takeN_of (p := [.slice a26 n26 n26, .slice a_c8_1 n_c8_1 n_c8_1]) rfl rfl) rfl rfl ?_
        refine KO.storeM m35 (i := 2) rfl sz111_B10 rfl rfl rfl (show 0 + 2 ≤ 2 by decide) (show _ = [.slice a26 n26 n26, .slice a_c8_1 n_c8_1 n_c8_1] from rfl) rfl fun H55 m56 => ?_
        refine KO.pv (PV.assign rfl) rfl rfl ?_
        refine KO.nil ?_
        have m57 := m56.ownLst (C := EB) (i := 1) rfl (fun _ _ => trivial) (by first | omega | (simp only [splice, List.length_append, List.length_set, List.length_replicate, List.length_map, List.length_take, List.length_drop, List.length_cons, List.length_nil] <;> omega))
        have m58 := m57.ownLst (C := ES) (i := 3) rfl (fun _ _ => trivial) (by first | omega | (simp only [splice, List.length_append, List.length_set, List.length_replicate, List.length_map, List.length_take, List.length_drop, List.length_cons, List.length_nil] <;> omega))
        exact KC.ret ⟨rfl, _, (.cell rfl (ldN (m56.row (i := 2) rfl) ag111_B10 sz111_B10 rfl rfl) (.tmp rfl .nil)), a26, n26, n26, xs26, D26, a_c8_1, n_c8_1, n_c8_1, l_c8_1, D_c8_1, i_c8_1, E_c8_1, 0, rfl, m58.pick [1, 3, 4] (by decide) rfl, (by first | omega | (intro h; omega) | (simp only [List.length_nil, true_and, and_true, or_true, true_or] <;> omega)), (by first | omega | (intro h; omega) | (simp only [List.length_nil, true_and, and_true, or_true, true_or] <;> omega) | exact all_nil | assumption)⟩
end Go.Eng
