/- Functions of the program and of the library keep their contracts. Conditions: none beyond each theorem's own. -/
import Derived.Test.YtbjiommpeeanmaaGreatDoorGatesB11
import Derived.KernelRfl
set_option linter.all false
namespace Go.Eng
open Go Go.Proofs
theorem ag4_B23 : isAggT E0.P 4 = some false := by kernel_rfl
theorem ag3_B23 : isAggT E0.P 3 = some false := by kernel_rfl
theorem sz3_B23 : sizeT E0.P 3 = some 1 := by kernel_rfl
theorem ag24_B23 : isAggT E0.P 24 = some false := by kernel_rfl
theorem el24_B23 : elemT E0.P 24 = some 3 := by kernel_rfl
theorem ez3_B23 : elemZ E0.P 3 = some (1, [.int .i64 0]) := by kernel_rfl
theorem sb3_B23 : smallBytes E0.P 3 = true := by kernel_rfl
theorem un24_B23 : E0.P.underlying 24 = some (.slice 3) := by kernel_rfl
theorem sz24_B23 : sizeT E0.P 24 = some 1 := by kernel_rfl
theorem sz4_B23 : sizeT E0.P 4 = some 1 := by kernel_rfl
theorem el105_B23 : elemT E0.P 105 = some 4 := by kernel_rfl
theorem ez4_B23 : elemZ E0.P 4 = some (1, [.bool false]) := by kernel_rfl
theorem sb4_B23 : smallBytes E0.P 4 = true := by kernel_rfl
theorem un105_B23 : E0.P.underlying 105 = some (.slice 4) := by kernel_rfl
theorem zt179_B23 : zeroT E0.P 179 = some [.int .i64 0, .int .i64 0, .int .i64 0, .int .i64 0] := by kernel_rfl
theorem fo26_2_B23 : foff E0.P 26 2 = some 2 := by kernel_rfl
theorem ag23_B23 : isAggT E0.P 23 = some false := by kernel_rfl
theorem un23_B23 : E0.P.underlying 23 = some (.slice 187) := by kernel_rfl
theorem sz179_B23 : sizeT E0.P 179 = some 4 := by kernel_rfl
theorem un179_B23 : E0.P.underlying 179 = some (.array 4 3) := by kernel_rfl
theorem ag26_B23 : isAggT E0.P 26 = some true := by kernel_rfl
theorem sz26_B23 : sizeT E0.P 26 = some 5 := by kernel_rfl
theorem sz187_B23 : sizeT E0.P 187 = some 2 := by kernel_rfl
theorem ag187_B23 : isAggT E0.P 187 = some true := by kernel_rfl
theorem zt187_B23 : zeroT E0.P 187 = some [.int .i64 0, .int .i64 0] := by kernel_rfl
theorem fo187_1_B23 : foff E0.P 187 1 = some 1 := by kernel_rfl
theorem fo187_0_B23 : foff E0.P 187 0 = some 0 := by kernel_rfl
theorem sz105_B23 : sizeT E0.P 105 = some 1 := by kernel_rfl
theorem ag105_B23 : isAggT E0.P 105 = some false := by kernel_rfl
theorem zt3_B23 : zeroT E0.P 3 = some [.int .i64 0] := by kernel_rfl
theorem zt24_B23 : zeroT E0.P 24 = some [.slice none 0 0] := by kernel_rfl
theorem bl258_0i64_1i64_B23 (v0 : Int) (v1 : Int) : buildA E0.P 258 [(0, .int .i64 v0), (1, .int .i64 v1)] = some (.agg #[.int .i64 v0, .int .i64 v1]) := by kernel_rfl
theorem un258_B23 : E0.P.underlying 258 = some (.array 2 3) := by kernel_rfl
theorem ag155_B23 : isAggT E0.P 155 = some false := by kernel_rfl
theorem zt105_B23 : zeroT E0.P 105 = some [.slice none 0 0] := by kernel_rfl
theorem zt155_B23 : zeroT E0.P 155 = some [.nilFunc] := by kernel_rfl
theorem sz155_B23 : sizeT E0.P 155 = some 1 := by kernel_rfl
theorem li_Var (H : AHeap) (l : Int) (w_l : IntKind.i64.wrap l = l) : WF E0 118 [.int .i64 l] H fun q => ∃ (z : Int) (o : Bool) (e : Int), q.1 = .tuple #[.int .i64 z, .bool o, .int .i64 e] ∧ Mem [] H q.2 [] ∧ (e = 0 → z = l / 2 ∧ 0 ≤ l ∧ l ≤ 2001) ∧ (z = l / 2 ∧ 0 ≤ l ∧ l ≤ 2001 ∨ z = 0) ∧ (0 ≤ e ∧ e ≤ 100) := by
  obtain ⟨lo_l, hi_l⟩ := rangei64 w_l
  have m0 : Mem [] H H [] := Mem.start
  refine WF.kg Tryz.func118 rfl rfl ?_
  refine KC.seq ?_
  refine KC.region ?_
  refine KO.pv (PV.assign rfl) rfl rfl ?_
  refine KO.pv (PV.assign rfl) rfl rfl ?_
  refine KO.pv (PV.assign rfl) rfl rfl ?_
  refine KO.nil ?_
  refine KC.seq ?_
  refine KC.seq ?_
  refine KC.region ?_
  refine KO.pv (PV.move rfl) rfl rfl ?_
  refine KO.buildSliceM m0 el24_B23 ez3_B23 rfl rfl (show _ = some [.int .i64 l] from rfl) rfl rfl fun H1 m2 => ?_
  refine KO.call rfl rfl rfl rfl (li_check H1 (some ⟨H.next, 0, none⟩) 1 1 _ (m2.vrow (E := (EI .i64)) (xs := [l]) (i := 0) rfl (by simp only [List.mem_cons, List.not_mem_nil, or_false, forall_eq_or_imp, forall_eq]; first | exact wfI (by first | decide | (constructor <;> omega)) | (refine ⟨?_, ?_⟩ <;> exact wfI (by constructor <;> omega)) | (refine ⟨?_, ?_, ?_⟩ <;> exact wfI (by constructor <;> omega))) rfl (by decide) (by decide))) fun v3 H3 q3 => ?_
  obtain ⟨e3, hv3, mc3, p3_0, p3_1⟩ := q3
  dsimp only at hv3 mc3
  subst hv3
  have m4 := m2.seq mc3
  refine KO.pv (PV.assign rfl) rfl rfl ?_
  refine KO.nil ?_
  refine KC.seq ?_
  refine KC.region ?_
  refine KO.pv (PV.move rfl) rfl rfl ?_
  refine KO.pv (PV.neqD rfl rfl rfl) rfl rfl ?_
  refine KO.nil ?_
  refine KC.condD rfl (fun h5 => ?_) (fun h5 => ?_)
  · refine KC.seq ?_
    refine KC.region ?_
    refine KO.pv (PV.move rfl) rfl rfl ?_
    refine KO.pv (PV.assign rfl) rfl rfl ?_
    refine KO.pv (PV.assign rfl) rfl rfl ?_
    refine KO.pv (PV.assign rfl) rfl rfl ?_
    refine KO.nil ?_
    exact KC.ret ⟨rfl, _, (.tmp rfl (.tmp rfl (.tmp rfl .nil))), 0, false, e3, rfl, m4.pick [] (by decide) rfl, (by first | omega | (intro h; omega) | (simp only [List.length_nil, true_and, and_true, or_true, true_or] <;> omega)), (by first | omega | (intro h; omega) | (simp only [List.length_nil, true_and, and_true, or_true, true_or] <;> omega)), (by first | omega | (intro h; omega) | (simp only [List.length_nil, true_and, and_true, or_true, true_or] <;> omega))⟩
  · have p3_0t := p3_0 (by omega)
    have hl := p3_0 (by omega) l (by simp)
    refine KC.skip ?_
    refine KC.seq ?_
    refine KC.region ?_
    refine KO.pv (PV.move rfl) rfl rfl ?_
    refine KO.pv (PV.shr1 rfl rfl rfl) rfl rfl ?_
    refine KO.pv (PV.move rfl) rfl rfl ?_
    refine KO.pv (PV.and1 rfl rfl (by omega) (by omega)) rfl rfl ?_
    refine KO.pv (PV.eqlD rfl rfl rfl) rfl rfl ?_
    refine KO.pv (PV.assign rfl) rfl rfl ?_
    refine KO.pv (PV.assign rfl) rfl rfl ?_
    refine KO.pv (PV.assign rfl) rfl rfl ?_
    refine KO.nil ?_
    exact KC.ret ⟨rfl, _, (.tmp rfl (.tmp rfl (.tmp rfl .nil))), (l / 2), (decide ((l % 2) = 1)), 0, rfl, m4.pick [] (by decide) rfl, (by first | omega | (intro h; omega) | (simp only [List.length_nil, true_and, and_true, or_true, true_or] <;> omega)), (by first | omega | (intro h; omega) | (simp only [List.length_nil, true_and, and_true, or_true, true_or] <;> omega)), (by first | omega | (intro h; omega) | (simp only [List.length_nil, true_and, and_true, or_true, true_or] <;> omega))⟩
theorem Max_int (H : AHeap) (a_s : Option Addr) (n_s c_s : Nat) (s : List Int) (h_s : V (EI .i64) H a_s n_s c_s s) (h1 : 1 ≤ n_s) : WF E0 124 [.slice a_s n_s c_s] H fun q => ∃ (z : Int), q.1 = .int .i64 z ∧ Mem [] H q.2 [] ∧ (IntKind.i64.wrap z = z) := by
  obtain ⟨len_s, cap_s, max_s, wf_s⟩ := h_s.len
  have m0 : Mem [] H H [] := Mem.start
  refine WF.kg Tryz.func124 rfl rfl ?_
  refine KC.seq ?_
  refine KC.region ?_
  refine KO.pv (PV.assign rfl) rfl rfl ?_
  refine KO.nil ?_
  refine KC.seq ?_
  refine KC.seq ?_
  refine KC.region ?_
  refine KO.pv (PV.move rfl) rfl rfl ?_
  refine KO.pv (PV.len un24_B23 rfl) rfl rfl ?_
  refine KO.pv (PV.lssD rfl rfl rfl) rfl rfl ?_
  refine KO.nil ?_
  refine KC.condD rfl (fun h1 => ?_) (fun h1 => ?_)
  · exfalso
    omega
  · refine KC.skip ?_
    refine KC.seq ?_
    refine KC.region ?_
    refine KO.pv (PV.move rfl) rfl rfl ?_
    obtain ⟨b2, o2, p2, r2, e2, ha2, hb2, hr2, hx2, hw2, hc2, ht2⟩ := V.at_ h_s (z := (0 : Int)) (by omega) (by omega)
    have hc2_0 : r2.cs[o2 + ((0 : Int)).toNat * 1 + 0]? = some (.int .i64 e2) := hc2 0 (by decide)
    have hw2 : IntKind.i64.wrap e2 = e2 := hw2
    obtain ⟨lo2, hi2⟩ := rangei64 hw2
    refine KO.pv (PV.indexAddrZ un24_B23 sz3_B23 rfl ha2 rfl (by omega) (by omega)) rfl rfl ?_
    refine KO.load1 ag3_B23 rfl (m0.row0 hb2 hr2) hc2_0 rfl rfl ?_
    refine KO.pv (PV.assign rfl) rfl rfl ?_
    refine KO.nil ?_
    refine KC.seq ?_
    refine KC.seq ?_
    refine KC.region ?_
    refine KO.pv (PV.assign rfl) rfl rfl ?_
    refine KO.nil ?_
    refine KC.block ?_
    refine KC.sub (l' := [(0, .slice a_s n_s c_s), (3, .int .i64 e2), (4, .int .i64 1)]) (.cons rfl (.cons rfl (.cons rfl .nil))) ?_
    refine KC.loopN (fun kq lq A => ∃ (x3 : Int) (x4 : Int), kq = ((n_s : Int) - x4).toNat ∧ lq = [(0, .slice a_s n_s c_s), (3, .int .i64 x3), (4, .int .i64 x4)] ∧ Mem [] H A [] ∧ (1 ≤ x4 ∧ x4 ≤ (n_s : Int)) ∧ (1 ≤ x4 ∧ x4 ≤ n_s) ∧ (-9223372036854775808 ≤ x3 ∧ x3 < 9223372036854775808)) ?_ (((n_s : Int) - 1).toNat) ⟨e2, 1, rfl, rfl, (m0.pick [] (by decide) rfl), (by first | omega | assumption | (constructor <;> omega)), (by first | omega | assumption | (constructor <;> omega)), (by first | omega | assumption | (constructor <;> omega))⟩
    rintro kq lq A3 ⟨x3, x4, rfl, rfl, m4, hr5, hx4, hx3⟩
    refine KC.seq ?_
    refine KC.seq ?_
    refine KC.region ?_
    refine KO.pv (PV.move rfl) rfl rfl ?_
    refine KO.pv (PV.move rfl) rfl rfl ?_
    refine KO.pv (PV.len un24_B23 rfl) rfl rfl ?_
    refine KO.pv (PV.lssD rfl rfl rfl) rfl rfl ?_
    refine KO.nil ?_
    refine KC.condD rfl (fun h5 => ?_) (fun h5 => ?_)
    · refine KC.skip ?_
      refine KC.seq ?_
      refine KC.block ?_
      refine KC.region ?_
      refine KO.pv (PV.move rfl) rfl rfl ?_
      refine KO.pv (PV.move rfl) rfl rfl ?_
      refine KO.pv (PV.move rfl) rfl rfl ?_
      obtain ⟨b6, o6, p6, r6, e6, ha6, hb6, hr6, hx6, hw6, hc6, ht6⟩ := V.at_ h_s (z := x4) (by omega) (by omega)
      have hc6_0 : r6.cs[o6 + (x4).toNat * 1 + 0]? = some (.int .i64 e6) := hc6 0 (by decide)
      have hw6 : IntKind.i64.wrap e6 = e6 := hw6
      obtain ⟨lo6, hi6⟩ := rangei64 hw6
      refine KO.pv (PV.indexAddrZ un24_B23 sz3_B23 rfl ha6 rfl (by omega) (by omega)) rfl rfl ?_
      refine KO.load1 ag3_B23 rfl (m4.row0 hb6 hr6) hc6_0 rfl rfl ?_
      obtain ⟨x7, hx7, dx7⟩ := maxD x3 e6
      refine KO.pv (PV.maxE rfl rfl hx7) rfl rfl ?_
      refine KO.pv (PV.assign rfl) rfl rfl ?_
      refine KO.nil ?_
      refine KC.region ?_
      refine KO.pv (PV.move rfl) rfl rfl ?_
      refine KO.pv (PV.add rfl rfl (wrap64 (by omega) (by omega))) rfl rfl ?_
      refine KO.pv (PV.assign rfl) rfl rfl ?_
      refine KO.nil ?_
      exact ⟨_, _, (by omega), (.cons rfl (.cons rfl (.cons rfl .nil))), x7, (x4 + 1), rfl, rfl, (m4.pick [] (by decide) rfl), (by first | omega | assumption | (constructor <;> omega)), (by first | omega | assumption | (constructor <;> omega)), (by first | omega | assumption | (constructor <;> omega))⟩
    · refine KC.exit ?_
      refine KC.seq ?_
      refine KC.region ?_
      refine KO.pv (PV.move rfl) rfl rfl ?_
      refine KO.pv (PV.assign rfl) rfl rfl ?_
      refine KO.nil ?_
      exact KC.ret ⟨rfl, _, (.tmp rfl .nil), x3, rfl, m4.pick [] (by decide) rfl, (by first | omega | (intro h; omega) | (simp only [List.length_nil, true_and, and_true, or_true, true_or] <;> omega) | (exact wrap64 (by omega) (by omega)))⟩
set_option maxHeartbeats 4000000 in
theorem gates_Kind (H : AHeap) (ci : Int) (a_cL : Option Addr) (n_cL c_cL : Nat) (cL : List (Int × Int)) (a_cA : Option Addr) (n_cA c_cA : Nat) (cA : List (Int × Int)) (a_cB : Option Addr) (n_cB c_cB : Nat) (cB : List Int) (a_cC : Option Addr) (n_cC c_cC : Nat) (cC : List Int) (v : Int) (w_ci : IntKind.i64.wrap ci = ci) (h_cL : V EP H a_cL n_cL c_cL cL) (h_cA : V EP H a_cA n_cA c_cA cA) (h_cB : V (EI .i64) H a_cB n_cB c_cB cB) (h_cC : V (EI .i64) H a_cC n_cC c_cC cC) (w_v : IntKind.i64.wrap v = v) : WF E0 46 [.agg #[.int .i64 ci, .slice a_cL n_cL c_cL, .slice a_cA n_cA c_cA, .slice a_cB n_cB c_cB, .slice a_cC n_cC c_cC], .int .i64 v] H fun q => ∃ (k : Int) (i : Int) (e : Int), q.1 = .tuple #[.int .i64 k, .int .i64 i, .int .i64 e] ∧ Mem [] H q.2 [] ∧ (0 ≤ k ∧ k ≤ 3 ∧ 0 ≤ i ∧ i ≤ 1000) ∧ (0 ≤ e ∧ e ≤ 100) ∧ (e = 0 → CirOK ci cL cA cB cC) := by
  obtain ⟨lo_ci, hi_ci⟩ := rangei64 w_ci
  obtain ⟨len_cL, cap_cL, max_cL, wf_cL⟩ := h_cL.len
  obtain ⟨len_cA, cap_cA, max_cA, wf_cA⟩ := h_cA.len
  obtain ⟨len_cB, cap_cB, max_cB, wf_cB⟩ := h_cB.len
  obtain ⟨len_cC, cap_cC, max_cC, wf_cC⟩ := h_cC.len
  obtain ⟨lo_v, hi_v⟩ := rangei64 w_v
  have m0 : Mem [] H H [] := Mem.start
  refine WF.kg Tryz.func46 rfl rfl ?_
  refine KC.seq ?_
  refine KC.region ?_
  refine KO.boxM m0 rfl rfl (show _ = [.int .i64 ci, .slice a_cL n_cL c_cL, .slice a_cA n_cA c_cA, .slice a_cB n_cB c_cB, .slice a_cC n_cC c_cC] from rfl) rfl rfl fun H1 m2 => ?_
  refine KO.pv (PV.assign rfl) rfl rfl ?_
  refine KO.pv (PV.assign rfl) rfl rfl ?_
  refine KO.pv (PV.assign rfl) rfl rfl ?_
  refine KO.nil ?_
  refine KC.seq ?_
  refine KC.seq ?_
  refine KC.region ?_
  refine KO.loadN ag26_B23 sz26_B23 rfl (m2.row (i := 0) rfl) (takeN_of (p := [.int .i64 ci, .slice a_cL n_cL c_cL, .slice a_cA n_cA c_cA, .slice a_cB n_cB c_cB, .slice a_cC n_cC c_cC]) rfl  rfl) rfl rfl ?_
  refine KO.call rfl rfl rfl rfl (gates_Check H1 ci a_cL n_cL c_cL _ a_cA n_cA c_cA _ a_cB n_cB c_cB _ a_cC n_cC c_cC _ (wrap64 (by omega) (by omega)) (V.mem m2 h_cL) (V.mem m2 h_cA) (V.mem m2 h_cB) (V.mem m2 h_cC)) fun v3 H3 q3 => ?_
  obtain ⟨e3, hv3, mc3, p3_0, p3_1, p3_2⟩ := q3
  dsimp only at hv3 mc3
  subst hv3
  have m4 := m2.seq mc3
  refine KO.pv (PV.assign rfl) rfl rfl ?_
  refine KO.nil ?_
  refine KC.seq ?_
  refine KC.region ?_
  refine KO.pv (PV.move rfl) rfl rfl ?_
  refine KO.pv (PV.neqD rfl rfl rfl) rfl rfl ?_
  refine KO.nil ?_
  refine KC.condD rfl (fun h5 => ?_) (fun h5 => ?_)
  · refine KC.seq ?_
    refine KC.region ?_
    refine KO.pv (PV.move rfl) rfl rfl ?_
    refine KO.pv (PV.assign rfl) rfl rfl ?_
    refine KO.pv (PV.assign rfl) rfl rfl ?_
    refine KO.pv (PV.assign rfl) rfl rfl ?_
    refine KO.nil ?_
    exact KC.ret ⟨rfl, _, (.tmp rfl (.tmp rfl (.tmp rfl .nil))), 0, 0, e3, rfl, m4.pick [] (by decide) rfl, (by first | omega | (intro h; omega) | (simp only [List.length_nil, true_and, and_true, or_true, true_or] <;> omega)), (by first | omega | (intro h; omega) | (simp only [List.length_nil, true_and, and_true, or_true, true_or] <;> omega)), (by first | omega | (intro h; omega) | (simp only [List.length_nil, true_and, and_true, or_true, true_or] <;> omega) | (exact fun _ => by assumption))⟩
  · have p3_0t := p3_0 (by omega)
    obtain ⟨p3_0_i0, p3_0_al, p3_0_b, p3_0_c, p3_0_hb, p3_0_hc, p3_0_hl, p3_0_ha⟩ := id p3_0t
    refine KC.skip ?_
    refine KC.seq ?_
    refine KC.region ?_
    refine KO.loadN ag26_B23 sz26_B23 rfl (m4.row (i := 0) rfl) (takeN_of (p := [.int .i64 ci, .slice a_cL n_cL c_cL, .slice a_cA n_cA c_cA, .slice a_cB n_cB c_cB, .slice a_cC n_cC c_cC]) rfl  rfl) rfl rfl ?_
    refine KO.call rfl rfl rfl rfl (gates_starts H3 ci a_cL n_cL c_cL _ a_cA n_cA c_cA _ a_cB n_cB c_cB _ a_cC n_cC c_cC _ (wrap64 (by omega) (by omega)) (V.mem m4 h_cL) (V.mem m4 h_cA) (V.mem m4 h_cB) (V.mem m4 h_cC) (by first | omega | assumption) (by first | omega | assumption)) fun v6 H6 q6 => ?_
    obtain ⟨hv6, mc6⟩ := q6
    dsimp only at hv6 mc6
    subst hv6
    have m7 := m4.seq mc6
    refine KO.allocM m7 zt179_B23 rfl rfl fun H8 m9 => ?_
    refine KO.storeM m9 (i := 0) rfl sz179_B23 rfl rfl rfl (show 0 + 4 ≤ 4 by decide) (show _ = [.int .i64 1, .int .i64 (1 + ci), .int .i64 ((1 + ci) + (n_cL : Int)), .int .i64 (((1 + ci) + (n_cL : Int)) + (n_cA : Int))] from rfl) rfl fun H10 m11 => ?_
    refine KO.nil ?_
    refine KC.seq ?_
    refine KC.seq ?_
    refine KC.region ?_
    refine KO.pv (PV.move rfl) rfl rfl ?_
    by_cases h12 : v < 0
    · refine KO.pv (PV.lssD rfl rfl (decide_eq_true h12)) rfl rfl ?_
      refine KO.pv (PV.move rfl) rfl rfl ?_
      refine KO.no rfl rfl rfl ?_
      refine KO.no rfl rfl rfl ?_
      refine KO.no rfl rfl rfl ?_
      refine KO.no rfl rfl rfl ?_
      refine KO.pv (PV.pickT rfl rfl rfl) rfl rfl ?_
      refine KO.nil ?_
      refine KC.condT rfl ?_
      refine KC.seq ?_
      refine KC.region ?_
      refine KO.pv (PV.assign rfl) rfl rfl ?_
      refine KO.pv (PV.assign rfl) rfl rfl ?_
      refine KO.pv (PV.assign rfl) rfl rfl ?_
      refine KO.nil ?_
      exact KC.ret ⟨rfl, _, (.tmp rfl (.tmp rfl (.tmp rfl .nil))), 0, 0, 2, rfl, m11.pick [] (by decide) rfl, (by first | omega | (intro h; omega) | (simp only [List.length_nil, true_and, and_true, or_true, true_or] <;> omega)), (by first | omega | (intro h; omega) | (simp only [List.length_nil, true_and, and_true, or_true, true_or] <;> omega)), (by first | omega | (intro h; omega) | (simp only [List.length_nil, true_and, and_true, or_true, true_or] <;> omega) | (exact fun _ => by assumption))⟩
    · refine KO.pv (PV.lssD rfl rfl (decide_eq_false h12)) rfl rfl ?_
      refine KO.pv (PV.move rfl) rfl rfl ?_
      refine KO.pv (PV.move rfl) rfl rfl ?_
      refine KO.pv (PV.indexArrZ un179_B23 sz3_B23 rfl (z := 3) rfl (by decide) (by decide)) rfl rfl ?_
      refine KO.load1 ag3_B23 rfl (m11.row (i := 0) rfl) rfl rfl rfl ?_
      refine KO.pv (PV.geqD rfl rfl rfl) rfl rfl ?_
      refine KO.pv (PV.pickF rfl rfl rfl) rfl rfl ?_
      refine KO.nil ?_
      refine KC.condD rfl (fun h13 => ?_) (fun h13 => ?_)
      · refine KC.seq ?_
        refine KC.region ?_
        refine KO.pv (PV.assign rfl) rfl rfl ?_
        refine KO.pv (PV.assign rfl) rfl rfl ?_
        refine KO.pv (PV.assign rfl) rfl rfl ?_
        refine KO.nil ?_
        exact KC.ret ⟨rfl, _, (.tmp rfl (.tmp rfl (.tmp rfl .nil))), 0, 0, 2, rfl, m11.pick [] (by decide) rfl, (by first | omega | (intro h; omega) | (simp only [List.length_nil, true_and, and_true, or_true, true_or] <;> omega)), (by first | omega | (intro h; omega) | (simp only [List.length_nil, true_and, and_true, or_true, true_or] <;> omega)), (by first | omega | (intro h; omega) | (simp only [List.length_nil, true_and, and_true, or_true, true_or] <;> omega) | (exact fun _ => by assumption))⟩
      · refine KC.skip ?_
        refine KC.seq ?_
        refine KC.seq ?_
        refine KC.region ?_
        refine KO.pv (PV.move rfl) rfl rfl ?_
        refine KO.nil ?_
        refine KC.block ?_
        refine KC.loop ?_
        refine KC.seq ?_
        refine KC.region ?_
        refine KO.pv (PV.lssD rfl rfl (show decide ((0 : Int) < 3) = true from by decide)) rfl rfl ?_
        refine KO.nil ?_
        refine KC.seq ?_
        refine KC.condT rfl ?_
        refine KC.skip ?_
        refine KC.seq ?_
        refine KC.block ?_
        refine KC.seq ?_
        refine KC.region ?_
        refine KO.pv (PV.move rfl) rfl rfl ?_
        refine KO.pv (PV.assign rfl) rfl rfl ?_
        refine KO.nil ?_
        refine KC.seq ?_
        refine KC.region ?_
        refine KO.pv (PV.move rfl) rfl rfl ?_
        refine KO.pv (PV.move rfl) rfl rfl ?_
        refine KO.pv (PV.indexArrZ un179_B23 sz3_B23 rfl (z := 0) rfl (by decide) (by decide)) rfl rfl ?_
        refine KO.load1 ag3_B23 rfl (m11.row (i := 0) rfl) rfl rfl rfl ?_
        refine KO.pv (PV.geqD rfl rfl rfl) rfl rfl ?_
        refine KO.nil ?_
        refine KC.condD rfl (fun h14 => ?_) (fun h14 => ?_)
        · refine KC.drawG (n := 9) (anc := [0, 1, 0, 0, 8, 24, 60, 3, 255]) (hv := []) (ord := [0, 1, 2, 3, 4, 5, 6, 7, 8]) (by kernel_rfl) (by kernel_rfl) (by kernel_rfl) (by kernel_rfl) (by kernel_rfl) fun H15 n16 g17 => ?_
          have m18 := m11.room n16 g17 [] (by decide) (by decide)
          refine KD.pv 1 (PV.move rfl) rfl rfl rfl (by kernel_rfl) rfl rfl rfl ?_
          refine KD.pv 3 (PV.add rfl rfl (wrap64 (by omega) (by omega))) rfl rfl rfl (by kernel_rfl) rfl rfl rfl ?_
          refine KD.pv 7 (PV.move rfl) rfl rfl rfl (by kernel_rfl) rfl rfl rfl ?_
          refine KD.pv 15 (PV.move rfl) rfl rfl rfl (by kernel_rfl) rfl rfl rfl ?_
          refine KD.pv 31 (PV.indexArrZ un179_B23 sz3_B23 rfl (z := 0) rfl (by decide) (by decide)) rfl rfl rfl (by kernel_rfl) rfl rfl rfl ?_
          refine KD.load 63 rfl (m18.row (i := 0) rfl) (by rw [read1 ag3_B23]; exact rfl) (pastGo (k := 1) (l := [H15]) (by kernel_rfl) rfl (pastCons ⟨_, (m18.row (i := 0) rfl), (by rw [read1 ag3_B23]; exact rfl)⟩ pastNil)) veq_int rfl (by kernel_rfl) rfl rfl rfl ?_
          refine KD.pv 127 (PV.sub rfl rfl (wrap64 (by omega) (by omega))) rfl rfl rfl (by kernel_rfl) rfl rfl rfl ?_
          refine KD.pv 255 (PV.assign rfl) rfl rfl rfl (by kernel_rfl) rfl rfl rfl ?_
          refine KD.pv 511 (PV.assign rfl) rfl rfl rfl (by kernel_rfl) rfl rfl rfl ?_
          refine KD.nil ⟨rfl, ?_⟩
          refine KC.region ?_
          refine KO.pv (PV.add rfl rfl (wrap64 (by omega) (by omega))) rfl rfl ?_
          refine KO.pv (PV.move rfl) rfl rfl ?_
          refine KO.nil ?_
          refine KC.loop ?_
          refine KC.seq ?_
          refine KC.region ?_
          refine KO.pv (PV.lssD rfl rfl (show decide ((1 : Int) < 3) = true from by decide)) rfl rfl ?_
          refine KO.nil ?_
          refine KC.seq ?_
          refine KC.condT rfl ?_
          refine KC.skip ?_
          refine KC.seq ?_
          refine KC.block ?_
          refine KC.seq ?_
          refine KC.region ?_
          refine KO.pv (PV.move rfl) rfl rfl ?_
          refine KO.pv (PV.assign rfl) rfl rfl ?_
          refine KO.nil ?_
          refine KC.seq ?_
          refine KC.region ?_
          refine KO.pv (PV.move rfl) rfl rfl ?_
          refine KO.pv (PV.move rfl) rfl rfl ?_
          refine KO.pv (PV.indexArrZ un179_B23 sz3_B23 rfl (z := 1) rfl (by decide) (by decide)) rfl rfl ?_
          refine KO.load1 ag3_B23 rfl (m18.row (i := 0) rfl) rfl rfl rfl ?_
          refine KO.pv (PV.geqD rfl rfl rfl) rfl rfl ?_
          refine KO.nil ?_
          refine KC.condD rfl (fun h19 => ?_) (fun h19 => ?_)
          · refine KC.drawG (n := 9) (anc := [0, 1, 0, 0, 8, 24, 60, 3, 255]) (hv := []) (ord := [0, 1, 2, 3, 4, 5, 6, 7, 8]) (by kernel_rfl) (by kernel_rfl) (by kernel_rfl) (by kernel_rfl) (by kernel_rfl) fun H20 n21 g22 => ?_
            have m23 := m18.room n21 g22 [] (by decide) (by decide)
            refine KD.pv 1 (PV.move rfl) rfl rfl rfl (by kernel_rfl) rfl rfl rfl ?_
            refine KD.pv 3 (PV.add rfl rfl (wrap64 (by omega) (by omega))) rfl rfl rfl (by kernel_rfl) rfl rfl rfl ?_
            refine KD.pv 7 (PV.move rfl) rfl rfl rfl (by kernel_rfl) rfl rfl rfl ?_
            refine KD.pv 15 (PV.move rfl) rfl rfl rfl (by kernel_rfl) rfl rfl rfl ?_
            refine KD.pv 31 (PV.indexArrZ un179_B23 sz3_B23 rfl (z := 1) rfl (by decide) (by decide)) rfl rfl rfl (by kernel_rfl) rfl rfl rfl ?_
            refine KD.load 63 rfl (m23.row (i := 0) rfl) (by rw [read1 ag3_B23]; exact rfl) (pastGo (k := 1) (l := [H20]) (by kernel_rfl) rfl (pastCons ⟨_, (m23.row (i := 0) rfl), (by rw [read1 ag3_B23]; exact rfl)⟩ pastNil)) veq_int rfl (by kernel_rfl) rfl rfl rfl ?_
            refine KD.pv 127 (PV.sub rfl rfl (wrap64 (by omega) (by omega))) rfl rfl rfl (by kernel_rfl) rfl rfl rfl ?_
            refine KD.pv 255 (PV.assign rfl) rfl rfl rfl (by kernel_rfl) rfl rfl rfl ?_
            refine KD.pv 511 (PV.assign rfl) rfl rfl rfl (by kernel_rfl) rfl rfl rfl ?_
            refine KD.nil ⟨rfl, ?_⟩
            refine KC.region ?_
            refine KO.pv (PV.add rfl rfl (wrap64 (by omega) (by omega))) rfl rfl ?_
            refine KO.pv (PV.move rfl) rfl rfl ?_
            refine KO.nil ?_
            refine KC.loop ?_
            refine KC.seq ?_
            refine KC.region ?_
            refine KO.pv (PV.lssD rfl rfl (show decide ((2 : Int) < 3) = true from by decide)) rfl rfl ?_
            refine KO.nil ?_
            refine KC.seq ?_
            refine KC.condT rfl ?_
            refine KC.skip ?_
            refine KC.seq ?_
            refine KC.block ?_
            refine KC.seq ?_
            refine KC.region ?_
            refine KO.pv (PV.move rfl) rfl rfl ?_
            refine KO.pv (PV.assign rfl) rfl rfl ?_
            refine KO.nil ?_
            refine KC.seq ?_
            refine KC.region ?_
            refine KO.pv (PV.move rfl) rfl rfl ?_
            refine KO.pv (PV.move rfl) rfl rfl ?_
            refine KO.pv (PV.indexArrZ un179_B23 sz3_B23 rfl (z := 2) rfl (by decide) (by decide)) rfl rfl ?_
            refine KO.load1 ag3_B23 rfl (m23.row (i := 0) rfl) rfl rfl rfl ?_
            refine KO.pv (PV.geqD rfl rfl rfl) rfl rfl ?_
            refine KO.nil ?_
            refine KC.condD rfl (fun h24 => ?_) (fun h24 => ?_)
            · refine KC.drawG (n := 9) (anc := [0, 1, 0, 0, 8, 24, 60, 3, 255]) (hv := []) (ord := [0, 1, 2, 3, 4, 5, 6, 7, 8]) (by kernel_rfl) (by kernel_rfl) (by kernel_rfl) (by kernel_rfl) (by kernel_rfl) fun H25 n26 g27 => ?_
              have m28 := m23.room n26 g27 [] (by decide) (by decide)
              refine KD.pv 1 (PV.move rfl) rfl rfl rfl (by kernel_rfl) rfl rfl rfl ?_
              refine KD.pv 3 (PV.add rfl rfl (wrap64 (by omega) (by omega))) rfl rfl rfl (by kernel_rfl) rfl rfl rfl ?_
              refine KD.pv 7 (PV.move rfl) rfl rfl rfl (by kernel_rfl) rfl rfl rfl ?_
              refine KD.pv 15 (PV.move rfl) rfl rfl rfl (by kernel_rfl) rfl rfl rfl ?_
              refine KD.pv 31 (PV.indexArrZ un179_B23 sz3_B23 rfl (z := 2) rfl (by decide) (by decide)) rfl rfl rfl (by kernel_rfl) rfl rfl rfl ?_
              refine KD.load 63 rfl (m28.row (i := 0) rfl) (by rw [read1 ag3_B23]; exact rfl) (pastGo (k := 1) (l := [H25]) (by kernel_rfl) rfl (pastCons ⟨_, (m28.row (i := 0) rfl), (by rw [read1 ag3_B23]; exact rfl)⟩ pastNil)) veq_int rfl (by kernel_rfl) rfl rfl rfl ?_
              refine KD.pv 127 (PV.sub rfl rfl (wrap64 (by omega) (by omega))) rfl rfl rfl (by kernel_rfl) rfl rfl rfl ?_
              refine KD.pv 255 (PV.assign rfl) rfl rfl rfl (by kernel_rfl) rfl rfl rfl ?_
              refine KD.pv 511 (PV.assign rfl) rfl rfl rfl (by kernel_rfl) rfl rfl rfl ?_
              refine KD.nil ⟨rfl, ?_⟩
              refine KC.region ?_
              refine KO.pv (PV.add rfl rfl (wrap64 (by omega) (by omega))) rfl rfl ?_
              refine KO.pv (PV.move rfl) rfl rfl ?_
              refine KO.nil ?_
              refine KC.loop ?_
              refine KC.seq ?_
              refine KC.region ?_
              refine KO.pv (PV.lssD rfl rfl (show decide ((3 : Int) < 3) = false from by decide)) rfl rfl ?_
              refine KO.nil ?_
              refine KC.seq ?_
              refine KC.condF rfl ?_
              refine KC.exit ?_
              refine KC.seq ?_
              refine KC.region ?_
              refine KO.pv (PV.move rfl) rfl rfl ?_
              refine KO.pv (PV.move rfl) rfl rfl ?_
              refine KO.pv (PV.assign rfl) rfl rfl ?_
              refine KO.pv (PV.assign rfl) rfl rfl ?_
              refine KO.pv (PV.assign rfl) rfl rfl ?_
              refine KO.nil ?_
              exact KC.ret ⟨rfl, _, (.tmp rfl (.tmp rfl (.tmp rfl .nil))), 3, (v - ((1 + ci) + (n_cL : Int))), 0, rfl, m28.pick [] (by decide) rfl, (by first | omega | (intro h; omega) | (simp only [List.length_nil, true_and, and_true, or_true, true_or] <;> omega)), (by first | omega | (intro h; omega) | (simp only [List.length_nil, true_and, and_true, or_true, true_or] <;> omega)), (by first | omega | (intro h; omega) | (simp only [List.length_nil, true_and, and_true, or_true, true_or] <;> omega) | (exact fun _ => by assumption))⟩
            · refine KC.skip ?_
              refine KC.region ?_
              refine KO.pv (PV.add rfl rfl (wrap64 (by omega) (by omega))) rfl rfl ?_
              refine KO.pv (PV.move rfl) rfl rfl ?_
              refine KO.nil ?_
              refine KC.loop ?_
              refine KC.seq ?_
              refine KC.region ?_
              refine KO.pv (PV.lssD rfl rfl (show decide ((3 : Int) < 3) = false from by decide)) rfl rfl ?_
              refine KO.nil ?_
              refine KC.seq ?_
              refine KC.condF rfl ?_
              refine KC.exit ?_
              refine KC.seq ?_
              refine KC.region ?_
              refine KO.pv (PV.move rfl) rfl rfl ?_
              refine KO.pv (PV.move rfl) rfl rfl ?_
              refine KO.pv (PV.assign rfl) rfl rfl ?_
              refine KO.pv (PV.assign rfl) rfl rfl ?_
              refine KO.pv (PV.assign rfl) rfl rfl ?_
              refine KO.nil ?_
              exact KC.ret ⟨rfl, _, (.tmp rfl (.tmp rfl (.tmp rfl .nil))), 2, (v - (1 + ci)), 0, rfl, m23.pick [] (by decide) rfl, (by first | omega | (intro h; omega) | (simp only [List.length_nil, true_and, and_true, or_true, true_or] <;> omega)), (by first | omega | (intro h; omega) | (simp only [List.length_nil, true_and, and_true, or_true, true_or] <;> omega)), (by first | omega | (intro h; omega) | (simp only [List.length_nil, true_and, and_true, or_true, true_or] <;> omega) | (exact fun _ => by assumption))⟩
          · refine KC.skip ?_
            refine KC.region ?_
            refine KO.pv (PV.add rfl rfl (wrap64 (by omega) (by omega))) rfl rfl ?_
            refine KO.pv (PV.move rfl) rfl rfl ?_
            refine KO.nil ?_
            refine KC.loop ?_
            refine KC.seq ?_
            refine KC.region ?_
            refine KO.pv (PV.lssD rfl rfl (show decide ((2 : Int) < 3) = true from by decide)) rfl rfl ?_
            refine KO.nil ?_
            refine KC.seq ?_
            refine KC.condT rfl ?_
            refine KC.skip ?_
            refine KC.seq ?_
            refine KC.block ?_
            refine KC.seq ?_
            refine KC.region ?_
            refine KO.pv (PV.move rfl) rfl rfl ?_
            refine KO.pv (PV.assign rfl) rfl rfl ?_
            refine KO.nil ?_
            refine KC.seq ?_
            refine KC.region ?_
            refine KO.pv (PV.move rfl) rfl rfl ?_
            refine KO.pv (PV.move rfl) rfl rfl ?_
            refine KO.pv (PV.indexArrZ un179_B23 sz3_B23 rfl (z := 2) rfl (by decide) (by decide)) rfl rfl ?_
            refine KO.load1 ag3_B23 rfl (m18.row (i := 0) rfl) rfl rfl rfl ?_
            refine KO.pv (PV.geqD rfl rfl rfl) rfl rfl ?_
            refine KO.nil ?_
            refine KC.condD rfl (fun h29 => ?_) (fun h29 => ?_)
            · refine KC.drawG (n := 9) (anc := [0, 1, 0, 0, 8, 24, 60, 3, 255]) (hv := []) (ord := [0, 1, 2, 3, 4, 5, 6, 7, 8]) (by kernel_rfl) (by kernel_rfl) (by kernel_rfl) (by kernel_rfl) (by kernel_rfl) fun H30 n31 g32 => ?_
              have m33 := m18.room n31 g32 [] (by decide) (by decide)
              refine KD.pv 1 (PV.move rfl) rfl rfl rfl (by kernel_rfl) rfl rfl rfl ?_
              refine KD.pv 3 (PV.add rfl rfl (wrap64 (by omega) (by omega))) rfl rfl rfl (by kernel_rfl) rfl rfl rfl ?_
              refine KD.pv 7 (PV.move rfl) rfl rfl rfl (by kernel_rfl) rfl rfl rfl ?_
              refine KD.pv 15 (PV.move rfl) rfl rfl rfl (by kernel_rfl) rfl rfl rfl ?_
              refine KD.pv 31 (PV.indexArrZ un179_B23 sz3_B23 rfl (z := 2) rfl (by decide) (by decide)) rfl rfl rfl (by kernel_rfl) rfl rfl rfl ?_
              refine KD.load 63 rfl (m33.row (i := 0) rfl) (by rw [read1 ag3_B23]; exact rfl) (pastGo (k := 1) (l := [H30]) (by kernel_rfl) rfl (pastCons ⟨_, (m33.row (i := 0) rfl), (by rw [read1 ag3_B23]; exact rfl)⟩ pastNil)) veq_int rfl (by kernel_rfl) rfl rfl rfl ?_
              refine KD.pv 127 (PV.sub rfl rfl (wrap64 (by omega) (by omega))) rfl rfl rfl (by kernel_rfl) rfl rfl rfl ?_
              refine KD.pv 255 (PV.assign rfl) rfl rfl rfl (by kernel_rfl) rfl rfl rfl ?_
              refine KD.pv 511 (PV.assign rfl) rfl rfl rfl (by kernel_rfl) rfl rfl rfl ?_
              refine KD.nil ⟨rfl, ?_⟩
              refine KC.region ?_
              refine KO.pv (PV.add rfl rfl (wrap64 (by omega) (by omega))) rfl rfl ?_
              refine KO.pv (PV.move rfl) rfl rfl ?_
              refine KO.nil ?_
              refine KC.loop ?_
              refine KC.seq ?_
              refine KC.region ?_
              refine KO.pv (PV.lssD rfl rfl (show decide ((3 : Int) < 3) = false from by decide)) rfl rfl ?_
              refine KO.nil ?_
              refine KC.seq ?_
              refine KC.condF rfl ?_
              refine KC.exit ?_
              refine KC.seq ?_
              refine KC.region ?_
              refine KO.pv (PV.move rfl) rfl rfl ?_
              refine KO.pv (PV.move rfl) rfl rfl ?_
              refine KO.pv (PV.assign rfl) rfl rfl ?_
              refine KO.pv (PV.assign rfl) rfl rfl ?_
              refine KO.pv (PV.assign rfl) rfl rfl ?_
              refine KO.nil ?_
              exact KC.ret ⟨rfl, _, (.tmp rfl (.tmp rfl (.tmp rfl .nil))), 3, (v - ((1 + ci) + (n_cL : Int))), 0, rfl, m33.pick [] (by decide) rfl, (by first | omega | (intro h; omega) | (simp only [List.length_nil, true_and, and_true, or_true, true_or] <;> omega)), (by first | omega | (intro h; omega) | (simp only [List.length_nil, true_and, and_true, or_true, true_or] <;> omega)), (by first | omega | (intro h; omega) | (simp only [List.length_nil, true_and, and_true, or_true, true_or] <;> omega) | (exact fun _ => by assumption))⟩
            · refine KC.skip ?_
              refine KC.region ?_
              refine KO.pv (PV.add rfl rfl (wrap64 (by omega) (by omega))) rfl rfl ?_
              refine KO.pv (PV.move rfl) rfl rfl ?_
              refine KO.nil ?_
              refine KC.loop ?_
              refine KC.seq ?_
              refine KC.region ?_
              refine KO.pv (PV.lssD rfl rfl (show decide ((3 : Int) < 3) = false from by decide)) rfl rfl ?_
              refine KO.nil ?_
              refine KC.seq ?_
              refine KC.condF rfl ?_
              refine KC.exit ?_
              refine KC.seq ?_
              refine KC.region ?_
              refine KO.pv (PV.move rfl) rfl rfl ?_
              refine KO.pv (PV.move rfl) rfl rfl ?_
              refine KO.pv (PV.assign rfl) rfl rfl ?_
              refine KO.pv (PV.assign rfl) rfl rfl ?_
              refine KO.pv (PV.assign rfl) rfl rfl ?_
              refine KO.nil ?_
              exact KC.ret ⟨rfl, _, (.tmp rfl (.tmp rfl (.tmp rfl .nil))), 1, (v - 1), 0, rfl, m18.pick [] (by decide) rfl, (by first | omega | (intro h; omega) | (simp only [List.length_nil, true_and, and_true, or_true, true_or] <;> omega)), (by first | omega | (intro h; omega) | (simp only [List.length_nil, true_and, and_true, or_true, true_or] <;> omega)), (by first | omega | (intro h; omega) | (simp only [List.length_nil, true_and, and_true, or_true, true_or] <;> omega) | (exact fun _ => by assumption))⟩
        · refine KC.skip ?_
          refine KC.region ?_
          refine KO.pv (PV.add rfl rfl (wrap64 (by omega) (by omega))) rfl rfl ?_
          refine KO.pv (PV.move rfl) rfl rfl ?_
          refine KO.nil ?_
          refine KC.loop ?_
          refine KC.seq ?_
          refine KC.region ?_
          refine KO.pv (PV.lssD rfl rfl (show decide ((1 : Int) < 3) = true from by decide)) rfl rfl ?_
          refine KO.nil ?_
          refine KC.seq ?_
          refine KC.condT rfl ?_
          refine KC.skip ?_
          refine KC.seq ?_
          refine KC.block ?_
          refine KC.seq ?_
          refine KC.region ?_
          refine KO.pv (PV.move rfl) rfl rfl ?_
          refine KO.pv (PV.assign rfl) rfl rfl ?_
          refine KO.nil ?_
          refine KC.seq ?_
          refine KC.region ?_
          refine KO.pv (PV.move rfl) rfl rfl ?_
          refine KO.pv (PV.move rfl) rfl rfl ?_
          refine KO.pv (PV.indexArrZ un179_B23 sz3_B23 rfl (z := 1) rfl (by decide) (by decide)) rfl rfl ?_
          refine KO.load1 ag3_B23 rfl (m11.row (i := 0) rfl) rfl rfl rfl ?_
          refine KO.pv (PV.geqD rfl rfl rfl) rfl rfl ?_
          refine KO.nil ?_
          refine KC.condD rfl (fun h34 => ?_) (fun h34 => ?_)
          · refine KC.drawG (n := 9) (anc := [0, 1, 0, 0, 8, 24, 60, 3, 255]) (hv := []) (ord := [0, 1, 2, 3, 4, 5, 6, 7, 8]) (by kernel_rfl) (by kernel_rfl) (by kernel_rfl) (by kernel_rfl) (by kernel_rfl) fun H35 n36 g37 => ?_
            have m38 := m11.room n36 g37 [] (by decide) (by decide)
            refine KD.pv 1 (PV.move rfl) rfl rfl rfl (by kernel_rfl) rfl rfl rfl ?_
            refine KD.pv 3 (PV.add rfl rfl (wrap64 (by omega) (by omega))) rfl rfl rfl (by kernel_rfl) rfl rfl rfl ?_
            refine KD.pv 7 (PV.move rfl) rfl rfl rfl (by kernel_rfl) rfl rfl rfl ?_
            refine KD.pv 15 (PV.move rfl) rfl rfl rfl (by kernel_rfl) rfl rfl rfl ?_
            refine KD.pv 31 (PV.indexArrZ un179_B23 sz3_B23 rfl (z := 1) rfl (by decide) (by decide)) rfl rfl rfl (by kernel_rfl) rfl rfl rfl ?_
            refine KD.load 63 rfl (m38.row (i := 0) rfl) (by rw [read1 ag3_B23]; exact rfl) (pastGo (k := 1) (l := [H35]) (by kernel_rfl) rfl (pastCons ⟨_, (m38.row (i := 0) rfl), (by rw [read1 ag3_B23]; exact rfl)⟩ pastNil)) veq_int rfl (by kernel_rfl) rfl rfl rfl ?_
            refine KD.pv 127 (PV.sub rfl rfl (wrap64 (by omega) (by omega))) rfl rfl rfl (by kernel_rfl) rfl rfl rfl ?_
            refine KD.pv 255 (PV.assign rfl) rfl rfl rfl (by kernel_rfl) rfl rfl rfl ?_
            refine KD.pv 511 (PV.assign rfl) rfl rfl rfl (by kernel_rfl) rfl rfl rfl ?_
            refine KD.nil ⟨rfl, ?_⟩
            refine KC.region ?_
            refine KO.pv (PV.add rfl rfl (wrap64 (by omega) (by omega))) rfl rfl ?_
            refine KO.pv (PV.move rfl) rfl rfl ?_
            refine KO.nil ?_
            refine KC.loop ?_
            refine KC.seq ?_
            refine KC.region ?_
            refine KO.pv (PV.lssD rfl rfl (show decide ((2 : Int) < 3) = true from by decide)) rfl rfl ?_
            refine KO.nil ?_
            refine KC.seq ?_
            refine KC.condT rfl ?_
            refine KC.skip ?_
            refine KC.seq ?_
            refine KC.block ?_
            refine KC.seq ?_
            refine KC.region ?_
            refine KO.pv (PV.move rfl) rfl rfl ?_
            refine KO.pv (PV.assign rfl) rfl rfl ?_
            refine KO.nil ?_
            refine KC.seq ?_
            refine KC.region ?_
            refine KO.pv (PV.move rfl) rfl rfl ?_
            refine KO.pv (PV.move rfl) rfl rfl ?_
            refine KO.pv (PV.indexArrZ un179_B23 sz3_B23 rfl (z := 2) rfl (by decide) (by decide)) rfl rfl ?_
            refine KO.load1 ag3_B23 rfl (m38.row (i := 0) rfl) rfl rfl rfl ?_
            refine KO.pv (PV.geqD rfl rfl rfl) rfl rfl ?_
            refine KO.nil ?_
            refine KC.condD rfl (fun h39 => ?_) (fun h39 => ?_)
            · refine KC.drawG (n := 9) (anc := [0, 1, 0, 0, 8, 24, 60, 3, 255]) (hv := []) (ord := [0, 1, 2, 3, 4, 5, 6, 7, 8]) (by kernel_rfl) (by kernel_rfl) (by kernel_rfl) (by kernel_rfl) (by kernel_rfl) fun H40 n41 g42 => ?_
              have m43 := m38.room n41 g42 [] (by decide) (by decide)
              refine KD.pv 1 (PV.move rfl) rfl rfl rfl (by kernel_rfl) rfl rfl rfl ?_
              refine KD.pv 3 (PV.add rfl rfl (wrap64 (by omega) (by omega))) rfl rfl rfl (by kernel_rfl) rfl rfl rfl ?_
              refine KD.pv 7 (PV.move rfl) rfl rfl rfl (by kernel_rfl) rfl rfl rfl ?_
              refine KD.pv 15 (PV.move rfl) rfl rfl rfl (by kernel_rfl) rfl rfl rfl ?_
              refine KD.pv 31 (PV.indexArrZ un179_B23 sz3_B23 rfl (z := 2) rfl (by decide) (by decide)) rfl rfl rfl (by kernel_rfl) rfl rfl rfl ?_
              refine KD.load 63 rfl (m43.row (i := 0) rfl) (by rw [read1 ag3_B23]; exact rfl) (pastGo (k := 1) (l := [H40]) (by kernel_rfl) rfl (pastCons ⟨_, (m43.row (i := 0) rfl), (by rw [read1 ag3_B23]; exact rfl)⟩ pastNil)) veq_int rfl (by kernel_rfl) rfl rfl rfl ?_
              refine KD.pv 127 (PV.sub rfl rfl (wrap64 (by omega) (by omega))) rfl rfl rfl (by kernel_rfl) rfl rfl rfl ?_
              refine KD.pv 255 (PV.assign rfl) rfl rfl rfl (by kernel_rfl) rfl rfl rfl ?_
              refine KD.pv 511 (PV.assign rfl) rfl rfl rfl (by kernel_rfl) rfl rfl rfl ?_
              refine KD.nil ⟨rfl, ?_⟩
              refine KC.region ?_
              refine KO.pv (PV.add rfl rfl (wrap64 (by omega) (by omega))) rfl rfl ?_
              refine KO.pv (PV.move rfl) rfl rfl ?_
              refine KO.nil ?_
              refine KC.loop ?_
              refine KC.seq ?_
              refine KC.region ?_
              refine KO.pv (PV.lssD rfl rfl (show decide ((3 : Int) < 3) = false from by decide)) rfl rfl ?_
              refine KO.nil ?_
              refine KC.seq ?_
              refine KC.condF rfl ?_
              refine KC.exit ?_
              refine KC.seq ?_
              refine KC.region ?_
              refine KO.pv (PV.move rfl) rfl rfl ?_
              refine KO.pv (PV.move rfl) rfl rfl ?_
              refine KO.pv (PV.assign rfl) rfl rfl ?_
              refine KO.pv (PV.assign rfl) rfl rfl ?_
              refine KO.pv (PV.assign rfl) rfl rfl ?_
              refine KO.nil ?_
              exact KC.ret ⟨rfl, _, (.tmp rfl (.tmp rfl (.tmp rfl .nil))), 3, (v - ((1 + ci) + (n_cL : Int))), 0, rfl, m43.pick [] (by decide) rfl, (by first | omega | (intro h; omega) | (simp only [List.length_nil, true_and, and_true, or_true, true_or] <;> omega)), (by first | omega | (intro h; omega) | (simp only [List.length_nil, true_and, and_true, or_true, true_or] <;> omega)), (by first | omega | (intro h; omega) | (simp only [List.length_nil, true_and, and_true, or_true, true_or] <;> omega) | (exact fun _ => by assumption))⟩
            · refine KC.skip ?_
              refine KC.region ?_
              refine KO.pv (PV.add rfl rfl (wrap64 (by omega) (by omega))) rfl rfl ?_
              refine KO.pv (PV.move rfl) rfl rfl ?_
              refine KO.nil ?_
              refine KC.loop ?_
              refine KC.seq ?_
              refine KC.region ?_
              refine KO.pv (PV.lssD rfl rfl (show decide ((3 : Int) < 3) = false from by decide)) rfl rfl ?_
              refine KO.nil ?_
              refine KC.seq ?_
              refine KC.condF rfl ?_
              refine KC.exit ?_
              refine KC.seq ?_
              refine KC.region ?_
              refine KO.pv (PV.move rfl) rfl rfl ?_
              refine KO.pv (PV.move rfl) rfl rfl ?_
              refine KO.pv (PV.assign rfl) rfl rfl ?_
              refine KO.pv (PV.assign rfl) rfl rfl ?_
              refine KO.pv (PV.assign rfl) rfl rfl ?_
              refine KO.nil ?_
              exact KC.ret ⟨rfl, _, (.tmp rfl (.tmp rfl (.tmp rfl .nil))), 2, (v - (1 + ci)), 0, rfl, m38.pick [] (by decide) rfl, (by first | omega | (intro h; omega) | (simp only [List.length_nil, true_and, and_true, or_true, true_or] <;> omega)), (by first | omega | (intro h; omega) | (simp only [List.length_nil, true_and, and_true, or_true, true_or] <;> omega)), (by first | omega | (intro h; omega) | (simp only [List.length_nil, true_and, and_true, or_true, true_or] <;> omega) | (exact fun _ => by assumption))⟩
          · refine KC.skip ?_
            refine KC.region ?_
            refine KO.pv (PV.add rfl rfl (wrap64 (by omega) (by omega))) rfl rfl ?_
            refine KO.pv (PV.move rfl) rfl rfl ?_
            refine KO.nil ?_
            refine KC.loop ?_
            refine KC.seq ?_
            refine KC.region ?_
            refine KO.pv (PV.lssD rfl rfl (show decide ((2 : Int) < 3) = true from by decide)) rfl rfl ?_
            refine KO.nil ?_
            refine KC.seq ?_
            refine KC.condT rfl ?_
            refine KC.skip ?_
            refine KC.seq ?_
            refine KC.block ?_
            refine KC.seq ?_
            refine KC.region ?_
            refine KO.pv (PV.move rfl) rfl rfl ?_
            refine KO.pv (PV.assign rfl) rfl rfl ?_
            refine KO.nil ?_
            refine KC.seq ?_
            refine KC.region ?_
            refine KO.pv (PV.move rfl) rfl rfl ?_
            refine KO.pv (PV.move rfl) rfl rfl ?_
            refine KO.pv (PV.indexArrZ un179_B23 sz3_B23 rfl (z := 2) rfl (by decide) (by decide)) rfl rfl ?_
            refine KO.load1 ag3_B23 rfl (m11.row (i := 0) rfl) rfl rfl rfl ?_
            refine KO.pv (PV.geqD rfl rfl rfl) rfl rfl ?_
            refine KO.nil ?_
            refine KC.condD rfl (fun h44 => ?_) (fun h44 => ?_)
            · refine KC.drawG (n := 9) (anc := [0, 1, 0, 0, 8, 24, 60, 3, 255]) (hv := []) (ord := [0, 1, 2, 3, 4, 5, 6, 7, 8]) (by kernel_rfl) (by kernel_rfl) (by kernel_rfl) (by kernel_rfl) (by kernel_rfl) fun H45 n46 g47 => ?_
              have m48 := m11.room n46 g47 [] (by decide) (by decide)
              refine KD.pv 1 (PV.move rfl) rfl rfl rfl (by kernel_rfl) rfl rfl rfl ?_
              refine KD.pv 3 (PV.add rfl rfl (wrap64 (by omega) (by omega))) rfl rfl rfl (by kernel_rfl) rfl rfl rfl ?_
              refine KD.pv 7 (PV.move rfl) rfl rfl rfl (by kernel_rfl) rfl rfl rfl ?_
              refine KD.pv 15 (PV.move rfl) rfl rfl rfl (by kernel_rfl) rfl rfl rfl ?_
              refine KD.pv 31 (PV.indexArrZ un179_B23 sz3_B23 rfl (z := 2) rfl (by decide) (by decide)) rfl rfl rfl (by kernel_rfl) rfl rfl rfl ?_
              refine KD.load 63 rfl (m48.row (i := 0) rfl) (by rw [read1 ag3_B23]; exact rfl) (pastGo (k := 1) (l := [H45]) (by kernel_rfl) rfl (pastCons ⟨_, (m48.row (i := 0) rfl), (by rw [read1 ag3_B23]; exact rfl)⟩ pastNil)) veq_int rfl (by kernel_rfl) rfl rfl rfl ?_
              refine KD.pv 127 (PV.sub rfl rfl (wrap64 (by omega) (by omega))) rfl rfl rfl (by kernel_rfl) rfl rfl rfl ?_
              refine KD.pv 255 (PV.assign rfl) rfl rfl rfl (by kernel_rfl) rfl rfl rfl ?_
              refine KD.pv 511 (PV.assign rfl) rfl rfl rfl (by kernel_rfl) rfl rfl rfl ?_
              refine KD.nil ⟨rfl, ?_⟩
              refine KC.region ?_
              refine KO.pv (PV.add rfl rfl (wrap64 (by omega) (by omega))) rfl rfl ?_
              refine KO.pv (PV.move rfl) rfl rfl ?_
              refine KO.nil ?_
              refine KC.loop ?_
              refine KC.seq ?_
              refine KC.region ?_
              refine KO.pv (PV.lssD rfl rfl (show decide ((3 : Int) < 3) = false from by decide)) rfl rfl ?_
              refine KO.nil ?_
              refine KC.seq ?_
              refine KC.condF rfl ?_
              refine KC.exit ?_
              refine KC.seq ?_
              refine KC.region ?_
              refine KO.pv (PV.move rfl) rfl rfl ?_
              refine KO.pv (PV.move rfl) rfl rfl ?_
              refine KO.pv (PV.assign rfl) rfl rfl ?_
              refine KO.pv (PV.assign rfl) rfl rfl ?_
              refine KO.pv (PV.assign rfl) rfl rfl ?_
              refine KO.nil ?_
              exact KC.ret ⟨rfl, _, (.tmp rfl (.tmp rfl (.tmp rfl .nil))), 3, (v - ((1 + ci) + (n_cL : Int))), 0, rfl, m48.pick [] (by decide) rfl, (by first | omega | (intro h; omega) | (simp only [List.length_nil, true_and, and_true, or_true, true_or] <;> omega)), (by first | omega | (intro h; omega) | (simp only [List.length_nil, true_and, and_true, or_true, true_or] <;> omega)), (by first | omega | (intro h; omega) | (simp only [List.length_nil, true_and, and_true, or_true, true_or] <;> omega) | (exact fun _ => by assumption))⟩
            · refine KC.skip ?_
              refine KC.region ?_
              refine KO.pv (PV.add rfl rfl (wrap64 (by omega) (by omega))) rfl rfl ?_
              refine KO.pv (PV.move rfl) rfl rfl ?_
              refine KO.nil ?_
              refine KC.loop ?_
              refine KC.seq ?_
              refine KC.region ?_
              refine KO.pv (PV.lssD rfl rfl (show decide ((3 : Int) < 3) = false from by decide)) rfl rfl ?_
              refine KO.nil ?_
              refine KC.seq ?_
              refine KC.condF rfl ?_
              refine KC.exit ?_
              refine KC.seq ?_
              refine KC.region ?_
              refine KO.pv (PV.move rfl) rfl rfl ?_
              refine KO.pv (PV.move rfl) rfl rfl ?_
              refine KO.pv (PV.assign rfl) rfl rfl ?_
              refine KO.pv (PV.assign rfl) rfl rfl ?_
              refine KO.pv (PV.assign rfl) rfl rfl ?_
              refine KO.nil ?_
              exact KC.ret ⟨rfl, _, (.tmp rfl (.tmp rfl (.tmp rfl .nil))), 0, 0, 0, rfl, m11.pick [] (by decide) rfl, (by first | omega | (intro h; omega) | (simp only [List.length_nil, true_and, and_true, or_true, true_or] <;> omega)), (by first | omega | (intro h; omega) | (simp only [List.length_nil, true_and, and_true, or_true, true_or] <;> omega)), (by first | omega | (intro h; omega) | (simp only [List.length_nil, true_and, and_true, or_true, true_or] <;> omega) | (exact fun _ => by assumption))⟩
theorem count_tfG : ∀ l : List Bool, l.count true + l.count false = l.length
  | [] => rfl
  | b :: l => by have := count_tfG l; cases b <;> simp [List.count_cons] <;> omega
theorem count_markG {has : List Bool} {i : Nat} (hb : has[i]? = some false) : (has.set i true).count false + 1 = has.count false := by
  have h1 := count_mark hb
  have h2 := count_tfG has
  have h3 := count_tfG (has.set i true)
  rw [List.length_set] at h3
  omega
theorem gates_visitR (k : Nat) : ∀ (H : AHeap) (v : Int) (b_s : Nat) (r_seen n_seen : Nat) (seen : List Bool) (b_t : Nat) (a_todo : Option Addr) (n_todo : Nat) (todo : List Int) (D_todo : List Nat) (b_c : Nat) (ci : Int) (a_cL : Option Addr) (n_cL c_cL : Nat) (a_cA : Option Addr) (n_cA c_cA : Nat) (a_cB : Option Addr) (n_cB c_cB : Nat) (a_cC : Option Addr) (n_cC c_cC : Nat) (b_f : Nat)    (cL : List (Int × Int)) (cA : List (Int × Int)) (cB : List Int) (cC : List Int) (w_v : IntKind.i64.wrap v = v) (h_g : Mem ([b_s] ++ ([r_seen] ++ ([b_t] ++ (D_todo ++ ([b_c] ++ ([b_f] ++ [])))))) H H [R.row b_s 105 true [.slice (some ⟨r_seen, 0, none⟩) n_seen n_seen], R.row r_seen 4 true (cells EB seen), R.row b_t 24 true [.slice a_todo n_todo n_todo], R.lst 3 1 a_todo n_todo (cells (EI .i64) todo) D_todo, R.row b_c 26 true [.int .i64 ci, .slice a_cL n_cL c_cL, .slice a_cA n_cA c_cA, .slice a_cB n_cB c_cB, .slice a_cC n_cC c_cC], R.row b_f 155 true [.func (.func 119) #[] #[.pointer (some ⟨b_s, 0, none⟩), .pointer (some ⟨b_t, 0, none⟩), .pointer (some ⟨b_c, 0, none⟩), .pointer (some ⟨b_f, 0, none⟩)]]]) (len_seen : seen.length = n_seen) (max_seen : n_seen ≤ 330000000) (wf_todo : ∀ u ∈ todo, (EI .i64).wf u) (w_ci : IntKind.i64.wrap ci = ci) (h_cL : V EP H a_cL n_cL c_cL cL) (s_cL : 0 < n_cL → ∀ y, a_cL = some y → y.block ∉ ([b_s] ++ ([r_seen] ++ ([b_t] ++ (D_todo ++ ([b_c] ++ ([b_f] ++ []))))))) (h_cA : V EP H a_cA n_cA c_cA cA) (s_cA : 0 < n_cA → ∀ y, a_cA = some y → y.block ∉ ([b_s] ++ ([r_seen] ++ ([b_t] ++ (D_todo ++ ([b_c] ++ ([b_f] ++ []))))))) (h_cB : V (EI .i64) H a_cB n_cB c_cB cB) (s_cB : 0 < n_cB → ∀ y, a_cB = some y → y.block ∉ ([b_s] ++ ([r_seen] ++ ([b_t] ++ (D_todo ++ ([b_c] ++ ([b_f] ++ []))))))) (h_cC : V (EI .i64) H a_cC n_cC c_cC cC) (s_cC : 0 < n_cC → ∀ y, a_cC = some y → y.block ∉ ([b_s] ++ ([r_seen] ++ ([b_t] ++ (D_todo ++ ([b_c] ++ ([b_f] ++ []))))))) (ok : CirOK ci cL cA cB cC) (h0 : 0 ≤ v ∧ v < n_seen ∧ (n_seen : Int) = 1 + ci + n_cL + n_cA) (hk : n_todo + seen.count false ≤ 1001) (hk : v.toNat ≤ k), WF E0 119 [.int .i64 v, .pointer (some ⟨b_s, 0, none⟩), .pointer (some ⟨b_t, 0, none⟩), .pointer (some ⟨b_c, 0, none⟩), .pointer (some ⟨b_f, 0, none⟩)] H fun q => ∃ (ys : List Bool) (a : Option Addr) (n : Nat) (xs : List Int) (D : List Nat), q.1 = .tuple #[] ∧ Mem ([b_s] ++ ([r_seen] ++ ([b_t] ++ (D_todo ++ ([b_c] ++ ([b_f] ++ [])))))) H q.2 [R.row b_s 105 true [.slice (some ⟨r_seen, 0, none⟩) n_seen n_seen], R.row r_seen 4 true (cells EB ys), R.row b_t 24 true [.slice a n n], R.lst 3 1 a n (cells (EI .i64) xs) D, R.row b_c 26 true [.int .i64 ci, .slice a_cL n_cL c_cL, .slice a_cA n_cA c_cA, .slice a_cB n_cB c_cB, .slice a_cC n_cC c_cC], R.row b_f 155 true [.func (.func 119) #[] #[.pointer (some ⟨b_s, 0, none⟩), .pointer (some ⟨b_t, 0, none⟩), .pointer (some ⟨b_c, 0, none⟩), .pointer (some ⟨b_f, 0, none⟩)]]] ∧ (n + ys.count false ≤ 1001 ∧ ys.length = n_seen) ∧ (∀ u ∈ xs, (EI .i64).wf u) := by
  induction k using Nat.strongRecOn with
  | _ k ih =>
    intro H v b_s r_seen n_seen seen b_t a_todo n_todo todo D_todo b_c ci a_cL n_cL c_cL a_cA n_cA c_cA a_cB n_cB c_cB a_cC n_cC c_cC b_f cL cA cB cC w_v h_g len_seen max_seen wf_todo w_ci h_cL s_cL h_cA s_cA h_cB s_cB h_cC s_cC ok h0 hk hk
    obtain ⟨lo_v, hi_v⟩ := rangei64 w_v
    have len_todo : todo.length = n_todo := h_g.lstLen (E := (EI .i64)) (i := 3) rfl
    obtain ⟨lo_ci, hi_ci⟩ := rangei64 w_ci
    obtain ⟨len_cL, cap_cL, max_cL, wf_cL⟩ := h_cL.len
    obtain ⟨len_cA, cap_cA, max_cA, wf_cA⟩ := h_cA.len
    obtain ⟨len_cB, cap_cB, max_cB, wf_cB⟩ := h_cB.len
    obtain ⟨len_cC, cap_cC, max_cC, wf_cC⟩ := h_cC.len
    obtain ⟨ok_i0, ok_al, ok_b, ok_c, ok_hb, ok_hc, ok_hl, ok_ha⟩ := id ok
    have m0 := h_g
    refine WF.kg Tryz.func119 rfl rfl ?_
    refine KC.seq ?_
    refine KC.seq ?_
    refine KC.region ?_
    refine KO.pv (PV.move rfl) rfl rfl ?_
    by_cases h1 : v = 0
    · refine KO.pv (PV.eqlD rfl rfl (decide_eq_true h1)) rfl rfl ?_
      refine KO.pv (PV.move rfl) rfl rfl ?_
      refine KO.no rfl rfl rfl ?_
      refine KO.no rfl rfl rfl ?_
      refine KO.no rfl rfl rfl ?_
      refine KO.no rfl rfl rfl ?_
      refine KO.pv (PV.pickT rfl rfl rfl) rfl rfl ?_
      refine KO.nil ?_
      refine KC.condT rfl ?_
      exact KC.ret ⟨rfl, _, .nil, seen, a_todo, n_todo, todo, D_todo, rfl, m0.pick [0, 1, 2, 3, 4, 5] (by decide) rfl, (by first | omega | (intro h; omega) | (simp only [List.length_nil, true_and, and_true, or_true, true_or] <;> omega) | (exact ⟨by omega, by rw [List.length_set]; omega⟩)), (by first | omega | (intro h; omega) | (simp only [List.length_nil, true_and, and_true, or_true, true_or] <;> omega) | exact wf_todo | assumption | (exact all_app wf_todo (all_one (wf64 (by omega) (by omega)))))⟩
    · refine KO.pv (PV.eqlD rfl rfl (decide_eq_false h1)) rfl rfl ?_
      refine KO.pv (PV.move rfl) rfl rfl ?_
      refine KO.load1 ag105_B23 rfl (m0.row (i := 0) rfl) rfl rfl rfl ?_
      refine KO.pv (PV.move rfl) rfl rfl ?_
      refine KO.pv (PV.indexAddrZ un105_B23 sz4_B23 rfl rfl rfl (by omega) (by omega)) rfl rfl ?_
      obtain ⟨e3, hx3⟩ : ∃ x, (seen)[(v).toNat]? = some x := ⟨_, List.getElem?_eq_getElem (by first | omega | (simp only [splice, List.length_append, List.length_set, List.length_replicate, List.length_map, List.length_take, List.length_drop, List.length_cons, List.length_nil] <;> omega))⟩
      refine KO.load1 ag4_B23 rfl (m0.row (i := 1) rfl) (cells_at1 hx3 rfl) rfl rfl ?_
      refine KO.pv (PV.pickF rfl rfl rfl) rfl rfl ?_
      refine KO.nil ?_
      refine KC.cond rfl (fun h4 => ?_) (fun h4 => ?_)
      · subst h4
        exact KC.ret ⟨rfl, _, .nil, seen, a_todo, n_todo, todo, D_todo, rfl, m0.pick [0, 1, 2, 3, 4, 5] (by decide) rfl, (by first | omega | (intro h; omega) | (simp only [List.length_nil, true_and, and_true, or_true, true_or] <;> omega) | (exact ⟨by omega, by rw [List.length_set]; omega⟩)), (by first | omega | (intro h; omega) | (simp only [List.length_nil, true_and, and_true, or_true, true_or] <;> omega) | exact wf_todo | assumption | (exact all_app wf_todo (all_one (wf64 (by omega) (by omega)))))⟩
      · subst h4
        refine KC.skip ?_
        refine KC.seq ?_
        refine KC.region ?_
        refine KO.load1 ag105_B23 rfl (m0.row (i := 0) rfl) rfl rfl rfl ?_
        refine KO.pv (PV.move rfl) rfl rfl ?_
        refine KO.pv (PV.indexAddrZ un105_B23 sz4_B23 rfl rfl rfl (by omega) (by omega)) rfl rfl ?_
        refine KO.storeM m0 (i := 1) rfl sz4_B23 rfl rfl rfl (cells_room (C := EB) (xs := seen) (i := (v).toNat) (by first | omega | (simp only [splice, List.length_append, List.length_set, List.length_replicate, List.length_map, List.length_take, List.length_drop, List.length_cons, List.length_nil] <;> omega)) rfl) (cells_put0 (C := EB) (xs := seen) (i := (v).toNat) true (by first | omega | (simp only [splice, List.length_append, List.length_set, List.length_replicate, List.length_map, List.length_take, List.length_drop, List.length_cons, List.length_nil] <;> omega))) rfl fun H6 m7 => ?_
        have hcm := count_markG (has := seen) (i := (v).toNat) (by assumption)
        refine KO.nil ?_
        refine KC.seq ?_
        refine KC.region ?_
        refine KO.load1 ag24_B23 rfl (m7.row (i := 2) rfl) rfl rfl rfl ?_
        refine KO.pv (PV.move rfl) rfl rfl ?_
        refine KO.buildSliceM m7 el24_B23 ez3_B23 rfl rfl (show _ = some [.int .i64 v] from rfl) rfl rfl fun H8 m9 => ?_
        refine KO.appendC (C := (EI .i64)) m9 (i := 4) rfl el24_B23 ez3_B23 sb3_B23 un24_B23 rfl rfl (newElems_row1 (C := (EI .i64)) (y := v) (m9.row (i := 0) rfl) rfl) rfl (by first | omega | (simp only [splice, List.length_append, List.length_set, List.length_replicate, List.length_map, List.length_take, List.length_drop, List.length_cons, List.length_nil] <;> omega)) rfl rfl fun a11 D12 H10 m13 => ?_
        refine KO.storeM m13 (i := 3) rfl sz24_B23 rfl rfl rfl (show 0 + 1 ≤ 1 by decide) (show _ = [.slice a11 (n_todo + 1) (n_todo + 1)] from rfl) rfl fun H14 m15 => ?_
        refine KO.nil ?_
        refine KC.region ?_
        refine KO.loadN ag26_B23 sz26_B23 rfl (m15.row (i := 5) rfl) (takeN_of (p := [.int .i64 ci, .slice a_cL n_cL c_cL, .slice a_cA n_cA c_cA, .slice a_cB n_cB c_cB, .slice a_cC n_cC c_cC]) rfl  rfl) rfl rfl ?_
        refine KO.pv (PV.move rfl) rfl rfl ?_
        refine KO.load1 ag155_B23 rfl (m15.row (i := 6) rfl) rfl rfl rfl ?_
        refine KO.inline rfl rfl rfl rfl ?_
        refine WF.kg Tryz.func120 rfl rfl ?_
        refine KC.seq ?_
        refine KC.region ?_
        refine KO.boxM m15 rfl rfl (show _ = [.int .i64 ci, .slice a_cL n_cL c_cL, .slice a_cA n_cA c_cA, .slice a_cB n_cB c_cB, .slice a_cC n_cC c_cC] from rfl) rfl rfl fun H16 m17 => ?_
        refine KO.nil ?_
        refine KC.seq ?_
        refine KC.region ?_
        refine KO.loadN ag26_B23 sz26_B23 rfl (m17.row (i := 0) rfl) (takeN_of (p := [.int .i64 ci, .slice a_cL n_cL c_cL, .slice a_cA n_cA c_cA, .slice a_cB n_cB c_cB, .slice a_cC n_cC c_cC]) rfl  rfl) rfl rfl ?_
        refine KO.call rfl rfl rfl rfl (gates_starts H16 ci a_cL n_cL c_cL _ a_cA n_cA c_cA _ a_cB n_cB c_cB _ a_cC n_cC c_cC _ (wrap64 (by omega) (by omega)) (V.mem m17 h_cL s_cL) (V.mem m17 h_cA s_cA) (V.mem m17 h_cB s_cB) (V.mem m17 h_cC s_cC) (by first | omega | assumption) (by first | omega | assumption)) fun v18 H18 q18 => ?_
        obtain ⟨hv18, mc18⟩ := q18
        dsimp only at hv18 mc18
        subst hv18
        have m19 := m17.seq mc18
        refine KO.pv (PV.index un179_B23 sz3_B23 rfl (j := 2) (show _ = some (Value.int .i64 ((2 : Nat) : Int)) from rfl) (by decide) (by rw [read1 ag3_B23]; rfl)) rfl rfl ?_
        refine KO.pv (PV.assign rfl) rfl rfl ?_
        refine KO.nil ?_
        refine KC.seq ?_
        refine KC.region ?_
        refine KO.pv (PV.move rfl) rfl rfl ?_
        refine KO.pv (PV.move rfl) rfl rfl ?_
        refine KO.pv (PV.geqD rfl rfl rfl) rfl rfl ?_
        refine KO.nil ?_
        refine KC.condD rfl (fun h20 => ?_) (fun h20 => ?_)
        · refine KC.seq ?_
          refine KC.region ?_
          refine KO.pv (PV.fieldAddr fo26_2_B23 rfl) rfl rfl ?_
          refine KO.load1 ag23_B23 rfl (m19.row (i := 0) rfl) rfl rfl rfl ?_
          refine KO.pv (PV.move rfl) rfl rfl ?_
          refine KO.pv (PV.move rfl) rfl rfl ?_
          refine KO.pv (PV.sub rfl rfl (wrap64 (by omega) (by omega))) rfl rfl ?_
          obtain ⟨b21, o21, p21, r21, e21, ha21, hb21, hr21, hx21, hw21, hc21, ht21⟩ := V.at_ h_cA (z := (v - ((1 + ci) + (n_cL : Int)))) (by omega) (by omega)
          have hs21 : b21 ∉ ([b_s] ++ ([r_seen] ++ ([b_t] ++ (D_todo ++ ([b_c] ++ ([b_f] ++ [])))))) := s_cA (by omega) _ ha21
          have hc21_0 : r21.cs[o21 + ((v - ((1 + ci) + (n_cL : Int)))).toNat * 2 + 0]? = some (.int .i64 e21.1) := hc21 0 (by decide)
          have hc21_1 : r21.cs[o21 + ((v - ((1 + ci) + (n_cL : Int)))).toNat * 2 + 1]? = some (.int .i64 e21.2) := hc21 1 (by decide)
          obtain ⟨hwa21, hwb21⟩ := hw21
          obtain ⟨loa21, hia21⟩ := rangei64 hwa21
          obtain ⟨lob21, hib21⟩ := rangei64 hwb21
          have gok_ha_21 := ok_ha _ _ hx21
          refine KO.pv (PV.indexAddrZ un23_B23 sz187_B23 rfl ha21 rfl (by omega) (by omega)) rfl rfl ?_
          refine KO.loadN ag187_B23 sz187_B23 rfl (m19.row0M hb21 (by assumption) hr21) ht21 rfl rfl ?_
          refine KO.allocM m19 zt187_B23 rfl rfl fun H22 m23 => ?_
          refine KO.storeM m23 (i := 0) rfl sz187_B23 rfl rfl rfl (show 0 + 2 ≤ 2 by decide) (show _ = [.int .i64 e21.1, .int .i64 e21.2] from rfl) rfl fun H24 m25 => ?_
          refine KO.nil ?_
          refine KC.seq ?_
          refine KC.region ?_
          refine KO.pv (PV.fieldAddr fo187_0_B23 rfl) rfl rfl ?_
          refine KO.load1 ag3_B23 rfl (m25.row (i := 0) rfl) rfl rfl rfl ?_
          refine KO.pv (PV.fieldAddr fo187_1_B23 rfl) rfl rfl ?_
          refine KO.load1 ag3_B23 rfl (m25.row (i := 0) rfl) rfl rfl rfl ?_
          refine KO.pv (PV.build rfl (bl258_0i64_1i64_B23 _ _)) rfl rfl ?_
          refine KO.pv (PV.move rfl) rfl rfl ?_
          refine KO.nil ?_
          refine KC.block ?_
          refine KC.loop ?_
          refine KC.seq ?_
          refine KC.region ?_
          refine KO.pv (PV.lssD rfl rfl (show decide ((0 : Int) < 2) = true from by decide)) rfl rfl ?_
          refine KO.nil ?_
          refine KC.seq ?_
          refine KC.condT rfl ?_
          refine KC.skip ?_
          refine KC.seq ?_
          refine KC.block ?_
          refine KC.seq ?_
          refine KC.region ?_
          refine KO.pv (PV.index un258_B23 sz3_B23 rfl (j := 0) (show _ = some (Value.int .i64 ((0 : Nat) : Int)) from rfl) (by decide) (by rw [read1 ag3_B23]; rfl)) rfl rfl ?_
          refine KO.pv (PV.assign rfl) rfl rfl ?_
          refine KO.nil ?_
          refine KC.seq ?_
          refine KC.region ?_
          refine KO.pv (PV.move rfl) rfl rfl ?_
          refine KO.call rfl rfl rfl rfl (li_Var H24 e21.1 (wrap64 (by omega) (by omega))) fun v26 H26 q26 => ?_
          obtain ⟨z26, o26, e26, hv26, mc26, p26_0, p26_1, p26_2⟩ := q26
          dsimp only at hv26 mc26
          subst hv26
          have m27 := m25.seq mc26
          refine KO.pv (PV.move rfl) rfl rfl ?_
          refine KO.pv (PV.extract rfl rfl) rfl rfl ?_
          refine KO.pv (PV.extract rfl rfl) rfl rfl ?_
          refine KO.pv (PV.extract rfl rfl) rfl rfl ?_
          refine KO.pv (PV.assign rfl) rfl rfl ?_
          refine KO.pv (PV.assign rfl) rfl rfl ?_
          refine KO.pv (PV.assign rfl) rfl rfl ?_
          refine KO.nil ?_
          refine KC.region ?_
          refine KO.pv (PV.move rfl) rfl rfl ?_
          refine KO.pv (PV.move rfl) rfl rfl ?_
          have m28 : Mem ([b_s] ++ ([r_seen] ++ ([b_t] ++ (D_todo ++ ([b_c] ++ ([b_f] ++ [])))))) H H26 [R.row b_s 105 true [.slice (some ⟨r_seen, 0, none⟩) n_seen n_seen], R.row r_seen 4 true (cells EB (seen.set ((v).toNat) true)), R.row b_t 24 true [.slice a11 (n_todo + 1) (n_todo + 1)], R.lst 3 1 a11 (n_todo + 1) (cells (EI .i64) (todo ++ [v])) D12, R.row b_c 26 true [.int .i64 ci, .slice a_cL n_cL c_cL, .slice a_cA n_cA c_cA, .slice a_cB n_cB c_cB, .slice a_cC n_cC c_cC], R.row b_f 155 true [.func (.func 119) #[] #[.pointer (some ⟨b_s, 0, none⟩), .pointer (some ⟨b_t, 0, none⟩), .pointer (some ⟨b_c, 0, none⟩), .pointer (some ⟨b_f, 0, none⟩)]], R.row H18.next 187 true [.int .i64 e21.1, .int .i64 e21.2], R.row H14.next 26 true [.int .i64 ci, .slice a_cL n_cL c_cL, .slice a_cA n_cA c_cA, .slice a_cB n_cB c_cB, .slice a_cC n_cC c_cC], R.row H6.next 3 true [.int .i64 v]] := m27.pick [3, 4, 5, 6, 7, 8, 0, 1, 2] (by decide) rfl
          refine KO.callV rfl rfl rfl rfl rfl (ih (k - 1) (by omega) H26 z26 b_s r_seen n_seen _ b_t _ _ _ D12 b_c ci a_cL n_cL c_cL a_cA n_cA c_cA a_cB n_cB c_cB a_cC n_cC c_cC b_f _ _ _ _ (wrap64 (by omega) (by omega)) (m28.ownK (Rs := [R.row b_s 105 true [.slice (some ⟨r_seen, 0, none⟩) n_seen n_seen], R.row r_seen 4 true (cells EB (seen.set ((v).toNat) true)), R.row b_t 24 true [.slice a11 (n_todo + 1) (n_todo + 1)], R.lst 3 1 a11 (n_todo + 1) (cells (EI .i64) (todo ++ [v])) D12, R.row b_c 26 true [.int .i64 ci, .slice a_cL n_cL c_cL, .slice a_cA n_cA c_cA, .slice a_cB n_cB c_cB, .slice a_cC n_cC c_cC], R.row b_f 155 true [.func (.func 119) #[] #[.pointer (some ⟨b_s, 0, none⟩), .pointer (some ⟨b_t, 0, none⟩), .pointer (some ⟨b_c, 0, none⟩), .pointer (some ⟨b_f, 0, none⟩)]]])) (by first | omega | (simp only [splice, List.length_append, List.length_set, List.length_replicate, List.length_map, List.length_take, List.length_drop, List.length_cons, List.length_nil] <;> omega)) (by omega) (all_app wf_todo (all_one (wf64 (by omega) (by omega)))) (wrap64 (by omega) (by omega)) (V.mem m28 h_cL s_cL) (sepCons (V.sepM m28 h_cL s_cL (i := 0) rfl) (sepCons (V.sepM m28 h_cL s_cL (i := 1) rfl) (sepCons (V.sepM m28 h_cL s_cL (i := 2) rfl) (sepCons (V.sepM m28 h_cL s_cL (i := 3) rfl) (sepCons (V.sepM m28 h_cL s_cL (i := 4) rfl) (sepCons (V.sepM m28 h_cL s_cL (i := 5) rfl) sepEnd)))))) (V.mem m28 h_cA s_cA) (sepCons (V.sepM m28 h_cA s_cA (i := 0) rfl) (sepCons (V.sepM m28 h_cA s_cA (i := 1) rfl) (sepCons (V.sepM m28 h_cA s_cA (i := 2) rfl) (sepCons (V.sepM m28 h_cA s_cA (i := 3) rfl) (sepCons (V.sepM m28 h_cA s_cA (i := 4) rfl) (sepCons (V.sepM m28 h_cA s_cA (i := 5) rfl) sepEnd)))))) (V.mem m28 h_cB s_cB) (sepCons (V.sepM m28 h_cB s_cB (i := 0) rfl) (sepCons (V.sepM m28 h_cB s_cB (i := 1) rfl) (sepCons (V.sepM m28 h_cB s_cB (i := 2) rfl) (sepCons (V.sepM m28 h_cB s_cB (i := 3) rfl) (sepCons (V.sepM m28 h_cB s_cB (i := 4) rfl) (sepCons (V.sepM m28 h_cB s_cB (i := 5) rfl) sepEnd)))))) (V.mem m28 h_cC s_cC) (sepCons (V.sepM m28 h_cC s_cC (i := 0) rfl) (sepCons (V.sepM m28 h_cC s_cC (i := 1) rfl) (sepCons (V.sepM m28 h_cC s_cC (i := 2) rfl) (sepCons (V.sepM m28 h_cC s_cC (i := 3) rfl) (sepCons (V.sepM m28 h_cC s_cC (i := 4) rfl) (sepCons (V.sepM m28 h_cC s_cC (i := 5) rfl) sepEnd)))))) (by first | omega | assumption) (by first | omega | assumption) (by first | omega | assumption) (by first | omega | assumption)) fun v29 H29 q29 => ?_
          obtain ⟨ys29, a29, n29, xs29, D29, hv29, mc29, p29_0, p29_1⟩ := q29
          dsimp only at hv29 mc29
          subst hv29
          have m30 := m28.seqK (Rs := [R.row b_s 105 true [.slice (some ⟨r_seen, 0, none⟩) n_seen n_seen], R.row r_seen 4 true (cells EB (seen.set ((v).toNat) true)), R.row b_t 24 true [.slice a11 (n_todo + 1) (n_todo + 1)], R.lst 3 1 a11 (n_todo + 1) (cells (EI .i64) (todo ++ [v])) D12, R.row b_c 26 true [.int .i64 ci, .slice a_cL n_cL c_cL, .slice a_cA n_cA c_cA, .slice a_cB n_cB c_cB, .slice a_cC n_cC c_cC], R.row b_f 155 true [.func (.func 119) #[] #[.pointer (some ⟨b_s, 0, none⟩), .pointer (some ⟨b_t, 0, none⟩), .pointer (some ⟨b_c, 0, none⟩), .pointer (some ⟨b_f, 0, none⟩)]]]) mc29
          have ll29_3 : xs29.length = n29 := m30.lstLen (E := (EI .i64)) (i := 3) rfl
          refine KO.nil ?_
          refine KC.region ?_
          refine KO.pv (PV.add rfl rfl (wrap64 (by omega) (by omega))) rfl rfl ?_
          refine KO.pv (PV.move rfl) rfl rfl ?_
          refine KO.nil ?_
          refine KC.loop ?_
          refine KC.seq ?_
          refine KC.region ?_
          refine KO.pv (PV.lssD rfl rfl (show decide ((1 : Int) < 2) = true from by decide)) rfl rfl ?_
          refine KO.nil ?_
          refine KC.seq ?_
          refine KC.condT rfl ?_
          refine KC.skip ?_
          refine KC.seq ?_
          refine KC.block ?_
          refine KC.seq ?_
          refine KC.region ?_
          refine KO.pv (PV.index un258_B23 sz3_B23 rfl (j := 1) (show _ = some (Value.int .i64 ((1 : Nat) : Int)) from rfl) (by decide) (by rw [read1 ag3_B23]; rfl)) rfl rfl ?_
          refine KO.pv (PV.assign rfl) rfl rfl ?_
          refine KO.nil ?_
          refine KC.seq ?_
          refine KC.region ?_
          refine KO.pv (PV.move rfl) rfl rfl ?_
          refine KO.call rfl rfl rfl rfl (li_Var H29 e21.2 (wrap64 (by omega) (by omega))) fun v31 H31 q31 => ?_
          obtain ⟨z31, o31, e31, hv31, mc31, p31_0, p31_1, p31_2⟩ := q31
          dsimp only at hv31 mc31
          subst hv31
          have m32 := m30.seq mc31
          refine KO.pv (PV.move rfl) rfl rfl ?_
          refine KO.pv (PV.extract rfl rfl) rfl rfl ?_
          refine KO.pv (PV.extract rfl rfl) rfl rfl ?_
          refine KO.pv (PV.extract rfl rfl) rfl rfl ?_
          refine KO.pv (PV.assign rfl) rfl rfl ?_
          refine KO.pv (PV.assign rfl) rfl rfl ?_
          refine KO.pv (PV.assign rfl) rfl rfl ?_
          refine KO.nil ?_
          refine KC.region ?_
          refine KO.pv (PV.move rfl) rfl rfl ?_
          refine KO.pv (PV.move rfl) rfl rfl ?_
          have m33 : Mem ([b_s] ++ ([r_seen] ++ ([b_t] ++ (D_todo ++ ([b_c] ++ ([b_f] ++ [])))))) H H31 [R.row b_s 105 true [.slice (some ⟨r_seen, 0, none⟩) n_seen n_seen], R.row r_seen 4 true (cells EB ys29), R.row b_t 24 true [.slice a29 n29 n29], R.lst 3 1 a29 n29 (cells (EI .i64) xs29) D29, R.row b_c 26 true [.int .i64 ci, .slice a_cL n_cL c_cL, .slice a_cA n_cA c_cA, .slice a_cB n_cB c_cB, .slice a_cC n_cC c_cC], R.row b_f 155 true [.func (.func 119) #[] #[.pointer (some ⟨b_s, 0, none⟩), .pointer (some ⟨b_t, 0, none⟩), .pointer (some ⟨b_c, 0, none⟩), .pointer (some ⟨b_f, 0, none⟩)]], R.row H18.next 187 true [.int .i64 e21.1, .int .i64 e21.2], R.row H14.next 26 true [.int .i64 ci, .slice a_cL n_cL c_cL, .slice a_cA n_cA c_cA, .slice a_cB n_cB c_cB, .slice a_cC n_cC c_cC], R.row H6.next 3 true [.int .i64 v]] := m32.pick [0, 1, 2, 3, 4, 5, 6, 7, 8] (by decide) rfl
          refine KO.callV rfl rfl rfl rfl rfl (ih (k - 1) (by omega) H31 z31 b_s r_seen n_seen _ b_t _ _ _ D29 b_c ci a_cL n_cL c_cL a_cA n_cA c_cA a_cB n_cB c_cB a_cC n_cC c_cC b_f _ _ _ _ (wrap64 (by omega) (by omega)) (m33.ownK (Rs := [R.row b_s 105 true [.slice (some ⟨r_seen, 0, none⟩) n_seen n_seen], R.row r_seen 4 true (cells EB ys29), R.row b_t 24 true [.slice a29 n29 n29], R.lst 3 1 a29 n29 (cells (EI .i64) xs29) D29, R.row b_c 26 true [.int .i64 ci, .slice a_cL n_cL c_cL, .slice a_cA n_cA c_cA, .slice a_cB n_cB c_cB, .slice a_cC n_cC c_cC], R.row b_f 155 true [.func (.func 119) #[] #[.pointer (some ⟨b_s, 0, none⟩), .pointer (some ⟨b_t, 0, none⟩), .pointer (some ⟨b_c, 0, none⟩), .pointer (some ⟨b_f, 0, none⟩)]]])) (by first | omega | (simp only [splice, List.length_append, List.length_set, List.length_replicate, List.length_map, List.length_take, List.length_drop, List.length_cons, List.length_nil] <;> omega)) (by omega) (by assumption) (wrap64 (by omega) (by omega)) (V.mem m33 h_cL s_cL) (sepCons (V.sepM m33 h_cL s_cL (i := 0) rfl) (sepCons (V.sepM m33 h_cL s_cL (i := 1) rfl) (sepCons (V.sepM m33 h_cL s_cL (i := 2) rfl) (sepCons (V.sepM m33 h_cL s_cL (i := 3) rfl) (sepCons (V.sepM m33 h_cL s_cL (i := 4) rfl) (sepCons (V.sepM m33 h_cL s_cL (i := 5) rfl) sepEnd)))))) (V.mem m33 h_cA s_cA) (sepCons (V.sepM m33 h_cA s_cA (i := 0) rfl) (sepCons (V.sepM m33 h_cA s_cA (i := 1) rfl) (sepCons (V.sepM m33 h_cA s_cA (i := 2) rfl) (sepCons (V.sepM m33 h_cA s_cA (i := 3) rfl) (sepCons (V.sepM m33 h_cA s_cA (i := 4) rfl) (sepCons (V.sepM m33 h_cA s_cA (i := 5) rfl) sepEnd)))))) (V.mem m33 h_cB s_cB) (sepCons (V.sepM m33 h_cB s_cB (i := 0) rfl) (sepCons (V.sepM m33 h_cB s_cB (i := 1) rfl) (sepCons (V.sepM m33 h_cB s_cB (i := 2) rfl) (sepCons (V.sepM m33 h_cB s_cB (i := 3) rfl) (sepCons (V.sepM m33 h_cB s_cB (i := 4) rfl) (sepCons (V.sepM m33 h_cB s_cB (i := 5) rfl) sepEnd)))))) (V.mem m33 h_cC s_cC) (sepCons (V.sepM m33 h_cC s_cC (i := 0) rfl) (sepCons (V.sepM m33 h_cC s_cC (i := 1) rfl) (sepCons (V.sepM m33 h_cC s_cC (i := 2) rfl) (sepCons (V.sepM m33 h_cC s_cC (i := 3) rfl) (sepCons (V.sepM m33 h_cC s_cC (i := 4) rfl) (sepCons (V.sepM m33 h_cC s_cC (i := 5) rfl) sepEnd)))))) (by first | omega | assumption) (by first | omega | assumption) (by first | omega | assumption) (by first | omega | assumption)) fun v34 H34 q34 => ?_
          obtain ⟨ys34, a34, n34, xs34, D34, hv34, mc34, p34_0, p34_1⟩ := q34
          dsimp only at hv34 mc34
          subst hv34
          have m35 := m33.seqK (Rs := [R.row b_s 105 true [.slice (some ⟨r_seen, 0, none⟩) n_seen n_seen], R.row r_seen 4 true (cells EB ys29), R.row b_t 24 true [.slice a29 n29 n29], R.lst 3 1 a29 n29 (cells (EI .i64) xs29) D29, R.row b_c 26 true [.int .i64 ci, .slice a_cL n_cL c_cL, .slice a_cA n_cA c_cA, .slice a_cB n_cB c_cB, .slice a_cC n_cC c_cC], R.row b_f 155 true [.func (.func 119) #[] #[.pointer (some ⟨b_s, 0, none⟩), .pointer (some ⟨b_t, 0, none⟩), .pointer (some ⟨b_c, 0, none⟩), .pointer (some ⟨b_f, 0, none⟩)]]]) mc34
          have ll34_3 : xs34.length = n34 := m35.lstLen (E := (EI .i64)) (i := 3) rfl
          refine KO.nil ?_
          refine KC.region ?_
          refine KO.pv (PV.add rfl rfl (wrap64 (by omega) (by omega))) rfl rfl ?_
          refine KO.pv (PV.move rfl) rfl rfl ?_
          refine KO.nil ?_
          refine KC.loop ?_
          refine KC.seq ?_
          refine KC.region ?_
          refine KO.pv (PV.lssD rfl rfl (show decide ((2 : Int) < 2) = false from by decide)) rfl rfl ?_
          refine KO.nil ?_
          refine KC.seq ?_
          refine KC.condF rfl ?_
          refine KC.exit ?_
          refine ⟨rfl, _, .nil, ?_⟩
          refine KO.nil ?_
          exact ⟨rfl, _, .nil, ys34, a34, n34, xs34, D34, rfl, m35.pick [0, 1, 2, 3, 4, 5] (by decide) rfl, (by first | omega | (intro h; omega) | (simp only [List.length_nil, true_and, and_true, or_true, true_or] <;> omega) | (exact ⟨by omega, by rw [List.length_set]; omega⟩)), (by first | omega | (intro h; omega) | (simp only [List.length_nil, true_and, and_true, or_true, true_or] <;> omega) | exact wf_todo | assumption | (exact all_app wf_todo (all_one (wf64 (by omega) (by omega)))))⟩
        · refine KC.skip ?_
          refine ⟨rfl, _, .nil, ?_⟩
          refine KO.nil ?_
          exact ⟨rfl, _, .nil, (seen.set ((v).toNat) true), a11, (n_todo + 1), (todo ++ [v]), D12, rfl, m19.pick [2, 3, 4, 5, 6, 7] (by decide) rfl, (by first | omega | (intro h; omega) | (simp only [List.length_nil, true_and, and_true, or_true, true_or] <;> omega) | (exact ⟨by omega, by rw [List.length_set]; omega⟩)), (by first | omega | (intro h; omega) | (simp only [List.length_nil, true_and, and_true, or_true, true_or] <;> omega) | exact wf_todo | assumption | (exact all_app wf_todo (all_one (wf64 (by omega) (by omega)))))⟩
theorem gates_visit (H : AHeap) (v : Int) (b_s : Nat) (r_seen n_seen : Nat) (seen : List Bool) (b_t : Nat) (a_todo : Option Addr) (n_todo : Nat) (todo : List Int) (D_todo : List Nat) (b_c : Nat) (ci : Int) (a_cL : Option Addr) (n_cL c_cL : Nat) (a_cA : Option Addr) (n_cA c_cA : Nat) (a_cB : Option Addr) (n_cB c_cB : Nat) (a_cC : Option Addr) (n_cC c_cC : Nat) (b_f : Nat)    (cL : List (Int × Int)) (cA : List (Int × Int)) (cB : List Int) (cC : List Int) (w_v : IntKind.i64.wrap v = v) (h_g : Mem ([b_s] ++ ([r_seen] ++ ([b_t] ++ (D_todo ++ ([b_c] ++ ([b_f] ++ [])))))) H H [R.row b_s 105 true [.slice (some ⟨r_seen, 0, none⟩) n_seen n_seen], R.row r_seen 4 true (cells EB seen), R.row b_t 24 true [.slice a_todo n_todo n_todo], R.lst 3 1 a_todo n_todo (cells (EI .i64) todo) D_todo, R.row b_c 26 true [.int .i64 ci, .slice a_cL n_cL c_cL, .slice a_cA n_cA c_cA, .slice a_cB n_cB c_cB, .slice a_cC n_cC c_cC], R.row b_f 155 true [.func (.func 119) #[] #[.pointer (some ⟨b_s, 0, none⟩), .pointer (some ⟨b_t, 0, none⟩), .pointer (some ⟨b_c, 0, none⟩), .pointer (some ⟨b_f, 0, none⟩)]]]) (len_seen : seen.length = n_seen) (max_seen : n_seen ≤ 330000000) (wf_todo : ∀ u ∈ todo, (EI .i64).wf u) (w_ci : IntKind.i64.wrap ci = ci) (h_cL : V EP H a_cL n_cL c_cL cL) (s_cL : 0 < n_cL → ∀ y, a_cL = some y → y.block ∉ ([b_s] ++ ([r_seen] ++ ([b_t] ++ (D_todo ++ ([b_c] ++ ([b_f] ++ []))))))) (h_cA : V EP H a_cA n_cA c_cA cA) (s_cA : 0 < n_cA → ∀ y, a_cA = some y → y.block ∉ ([b_s] ++ ([r_seen] ++ ([b_t] ++ (D_todo ++ ([b_c] ++ ([b_f] ++ []))))))) (h_cB : V (EI .i64) H a_cB n_cB c_cB cB) (s_cB : 0 < n_cB → ∀ y, a_cB = some y → y.block ∉ ([b_s] ++ ([r_seen] ++ ([b_t] ++ (D_todo ++ ([b_c] ++ ([b_f] ++ []))))))) (h_cC : V (EI .i64) H a_cC n_cC c_cC cC) (s_cC : 0 < n_cC → ∀ y, a_cC = some y → y.block ∉ ([b_s] ++ ([r_seen] ++ ([b_t] ++ (D_todo ++ ([b_c] ++ ([b_f] ++ []))))))) (ok : CirOK ci cL cA cB cC) (h0 : 0 ≤ v ∧ v < n_seen ∧ (n_seen : Int) = 1 + ci + n_cL + n_cA) (hk : n_todo + seen.count false ≤ 1001) : WF E0 119 [.int .i64 v, .pointer (some ⟨b_s, 0, none⟩), .pointer (some ⟨b_t, 0, none⟩), .pointer (some ⟨b_c, 0, none⟩), .pointer (some ⟨b_f, 0, none⟩)] H fun q => ∃ (ys : List Bool) (a : Option Addr) (n : Nat) (xs : List Int) (D : List Nat), q.1 = .tuple #[] ∧ Mem ([b_s] ++ ([r_seen] ++ ([b_t] ++ (D_todo ++ ([b_c] ++ ([b_f] ++ [])))))) H q.2 [R.row b_s 105 true [.slice (some ⟨r_seen, 0, none⟩) n_seen n_seen], R.row r_seen 4 true (cells EB ys), R.row b_t 24 true [.slice a n n], R.lst 3 1 a n (cells (EI .i64) xs) D, R.row b_c 26 true [.int .i64 ci, .slice a_cL n_cL c_cL, .slice a_cA n_cA c_cA, .slice a_cB n_cB c_cB, .slice a_cC n_cC c_cC], R.row b_f 155 true [.func (.func 119) #[] #[.pointer (some ⟨b_s, 0, none⟩), .pointer (some ⟨b_t, 0, none⟩), .pointer (some ⟨b_c, 0, none⟩), .pointer (some ⟨b_f, 0, none⟩)]]] ∧ (n + ys.count false ≤ 1001 ∧ ys.length = n_seen) ∧ (∀ u ∈ xs, (EI .i64).wf u) := gates_visitR _ H v b_s r_seen n_seen seen b_t a_todo n_todo todo D_todo b_c ci a_cL n_cL c_cL a_cA n_cA c_cA a_cB n_cB c_cB a_cC n_cC c_cC b_f cL cA cB cC w_v h_g len_seen max_seen wf_todo w_ci h_cL s_cL h_cA s_cA h_cB s_cB h_cC s_cC ok h0 hk (Nat.le_refl _)
theorem gates_Cone (H : AHeap) (ci : Int) (a_cL : Option Addr) (n_cL c_cL : Nat) (cL : List (Int × Int)) (a_cA : Option Addr) (n_cA c_cA : Nat) (cA : List (Int × Int)) (a_cB : Option Addr) (n_cB c_cB : Nat) (cB : List Int) (a_cC : Option Addr) (n_cC c_cC : Nat) (cC : List Int) (l : Int) (w_ci : IntKind.i64.wrap ci = ci) (h_cL : V EP H a_cL n_cL c_cL cL) (h_cA : V EP H a_cA n_cA c_cA cA) (h_cB : V (EI .i64) H a_cB n_cB c_cB cB) (h_cC : V (EI .i64) H a_cC n_cC c_cC cC) (w_l : IntKind.i64.wrap l = l) : WF E0 48 [.agg #[.int .i64 ci, .slice a_cL n_cL c_cL, .slice a_cA n_cA c_cA, .slice a_cB n_cB c_cB, .slice a_cC n_cC c_cC], .int .i64 l] H fun q => ∃ (a : Option Addr) (n : Nat) (k : Nat) (xs : List Int) (D : List Nat) (e : Int), q.1 = .tuple #[.slice a n k, .int .i64 e] ∧ Mem [] H q.2 [R.own (EI .i64) a n k xs D] ∧ (0 ≤ e ∧ e ≤ 100) ∧ (n ≤ 1001) := by
  obtain ⟨lo_ci, hi_ci⟩ := rangei64 w_ci
  obtain ⟨len_cL, cap_cL, max_cL, wf_cL⟩ := h_cL.len
  obtain ⟨len_cA, cap_cA, max_cA, wf_cA⟩ := h_cA.len
  obtain ⟨len_cB, cap_cB, max_cB, wf_cB⟩ := h_cB.len
  obtain ⟨len_cC, cap_cC, max_cC, wf_cC⟩ := h_cC.len
  obtain ⟨lo_l, hi_l⟩ := rangei64 w_l
  have m0 : Mem [] H H [] := Mem.start
  refine WF.kg Tryz.func48 rfl rfl ?_
  refine KC.seq ?_
  refine KC.region ?_
  refine KO.boxM m0 rfl rfl (show _ = [.int .i64 ci, .slice a_cL n_cL c_cL, .slice a_cA n_cA c_cA, .slice a_cB n_cB c_cB, .slice a_cC n_cC c_cC] from rfl) rfl rfl fun H1 m2 => ?_
  refine KO.pv (PV.assign rfl) rfl rfl ?_
  refine KO.pv (PV.assign rfl) rfl rfl ?_
  refine KO.nil ?_
  refine KC.seq ?_
  refine KC.region ?_
  refine KO.loadN ag26_B23 sz26_B23 rfl (m2.row (i := 0) rfl) (takeN_of (p := [.int .i64 ci, .slice a_cL n_cL c_cL, .slice a_cA n_cA c_cA, .slice a_cB n_cB c_cB, .slice a_cC n_cC c_cC]) rfl  rfl) rfl rfl ?_
  refine KO.call rfl rfl rfl rfl (gates_Vars H1 ci a_cL n_cL c_cL _ a_cA n_cA c_cA _ a_cB n_cB c_cB _ a_cC n_cC c_cC _ (wrap64 (by omega) (by omega)) (V.mem m2 h_cL) (V.mem m2 h_cA) (V.mem m2 h_cB) (V.mem m2 h_cC)) fun v3 H3 q3 => ?_
  obtain ⟨n3, e3, hv3, mc3, p3_0, p3_1, p3_2⟩ := q3
  dsimp only at hv3 mc3
  subst hv3
  have m4 := m2.seq mc3
  refine KO.pv (PV.move rfl) rfl rfl ?_
  refine KO.pv (PV.extract rfl rfl) rfl rfl ?_
  refine KO.pv (PV.extract rfl rfl) rfl rfl ?_
  refine KO.pv (PV.assign rfl) rfl rfl ?_
  refine KO.pv (PV.assign rfl) rfl rfl ?_
  refine KO.nil ?_
  refine KC.seq ?_
  refine KC.seq ?_
  refine KC.region ?_
  refine KO.pv (PV.move rfl) rfl rfl ?_
  refine KO.pv (PV.neqD rfl rfl rfl) rfl rfl ?_
  refine KO.nil ?_
  refine KC.condD rfl (fun h5 => ?_) (fun h5 => ?_)
  · refine KC.seq ?_
    refine KC.region ?_
    refine KO.pv (PV.move rfl) rfl rfl ?_
    refine KO.pv (PV.assign rfl) rfl rfl ?_
    refine KO.pv (PV.assign rfl) rfl rfl ?_
    refine KO.nil ?_
    have m6 := m4.ownNil (C := (EI .i64))
    exact KC.ret ⟨rfl, _, (.tmp rfl (.tmp rfl .nil)), none, 0, 0, [], [], e3, rfl, m6.pick [0] (by decide) rfl, (by first | omega | (intro h; omega) | (simp only [List.length_nil, true_and, and_true, or_true, true_or] <;> omega)), (by first | omega | (intro h; omega) | (simp only [List.length_nil, true_and, and_true, or_true, true_or] <;> omega))⟩
  · have p3_0t := p3_0 (by omega)
    obtain ⟨p3_0s, p3_0u⟩ := id p3_0t
    obtain ⟨p3_0_i0, p3_0_al, p3_0_b, p3_0_c, p3_0_hb, p3_0_hc, p3_0_hl, p3_0_ha⟩ := id p3_0s
    refine KC.skip ?_
    refine KC.seq ?_
    refine KC.region ?_
    refine KO.pv (PV.move rfl) rfl rfl ?_
    refine KO.call rfl rfl rfl rfl (li_Var H3 l (wrap64 (by omega) (by omega))) fun v7 H7 q7 => ?_
    obtain ⟨z7, o7, e7, hv7, mc7, p7_0, p7_1, p7_2⟩ := q7
    dsimp only at hv7 mc7
    subst hv7
    have m8 := m4.seq mc7
    refine KO.pv (PV.move rfl) rfl rfl ?_
    refine KO.pv (PV.extract rfl rfl) rfl rfl ?_
    refine KO.pv (PV.extract rfl rfl) rfl rfl ?_
    refine KO.pv (PV.extract rfl rfl) rfl rfl ?_
    refine KO.pv (PV.assign rfl) rfl rfl ?_
    refine KO.pv (PV.assign rfl) rfl rfl ?_
    refine KO.pv (PV.assign rfl) rfl rfl ?_
    refine KO.nil ?_
    refine KC.seq ?_
    refine KC.seq ?_
    refine KC.region ?_
    refine KO.pv (PV.move rfl) rfl rfl ?_
    by_cases h9 : e7 ≠ 0
    · refine KO.pv (PV.neqD rfl rfl (decide_eq_true h9)) rfl rfl ?_
      refine KO.pv (PV.move rfl) rfl rfl ?_
      refine KO.no rfl rfl rfl ?_
      refine KO.no rfl rfl rfl ?_
      refine KO.no rfl rfl rfl ?_
      refine KO.pv (PV.pickT rfl rfl rfl) rfl rfl ?_
      refine KO.nil ?_
      refine KC.condT rfl ?_
      refine KC.seq ?_
      refine KC.region ?_
      refine KO.pv (PV.assign rfl) rfl rfl ?_
      refine KO.pv (PV.assign rfl) rfl rfl ?_
      refine KO.nil ?_
      have m10 := m8.ownNil (C := (EI .i64))
      exact KC.ret ⟨rfl, _, (.tmp rfl (.tmp rfl .nil)), none, 0, 0, [], [], 2, rfl, m10.pick [0] (by decide) rfl, (by first | omega | (intro h; omega) | (simp only [List.length_nil, true_and, and_true, or_true, true_or] <;> omega)), (by first | omega | (intro h; omega) | (simp only [List.length_nil, true_and, and_true, or_true, true_or] <;> omega))⟩
    · refine KO.pv (PV.neqD rfl rfl (decide_eq_false h9)) rfl rfl ?_
      refine KO.pv (PV.move rfl) rfl rfl ?_
      refine KO.pv (PV.move rfl) rfl rfl ?_
      refine KO.pv (PV.move rfl) rfl rfl ?_
      refine KO.pv (PV.gtrD rfl rfl rfl) rfl rfl ?_
      refine KO.pv (PV.pickF rfl rfl rfl) rfl rfl ?_
      refine KO.nil ?_
      refine KC.condD rfl (fun h11 => ?_) (fun h11 => ?_)
      · refine KC.seq ?_
        refine KC.region ?_
        refine KO.pv (PV.assign rfl) rfl rfl ?_
        refine KO.pv (PV.assign rfl) rfl rfl ?_
        refine KO.nil ?_
        have m12 := m8.ownNil (C := (EI .i64))
        exact KC.ret ⟨rfl, _, (.tmp rfl (.tmp rfl .nil)), none, 0, 0, [], [], 2, rfl, m12.pick [0] (by decide) rfl, (by first | omega | (intro h; omega) | (simp only [List.length_nil, true_and, and_true, or_true, true_or] <;> omega)), (by first | omega | (intro h; omega) | (simp only [List.length_nil, true_and, and_true, or_true, true_or] <;> omega))⟩
      · refine KC.skip ?_
        refine KC.seq ?_
        refine KC.region ?_
        refine KO.pv (PV.move rfl) rfl rfl ?_
        refine KO.pv (PV.add rfl rfl (wrap64 (by omega) (by omega))) rfl rfl ?_
        refine KO.makeSliceM (C := EB) false m8 el105_B23 ez4_B23 sb4_B23 rfl rfl (by omega) (by omega) (by omega) rfl rfl fun H13 m14 => ?_
        refine KO.allocM m14 zt105_B23 rfl rfl fun H15 m16 => ?_
        refine KO.storeM m16 (i := 0) rfl sz105_B23 rfl rfl rfl (show 0 + 1 ≤ 1 by decide) (show _ = [.slice (some ⟨H7.next, 0, none⟩) (((n3 + 1)).toNat) (((n3 + 1)).toNat)] from rfl) rfl fun H17 m18 => ?_
        refine KO.nil ?_
        refine KC.seq ?_
        refine KC.region ?_
        refine KO.allocM m18 zt24_B23 rfl rfl fun H19 m20 => ?_
        refine KO.nil ?_
        refine KC.seq ?_
        refine KC.region ?_
        refine KO.allocM m20 zt155_B23 rfl rfl fun H21 m22 => ?_
        refine KO.nil ?_
        refine KC.seq ?_
        refine KC.region ?_
        refine KO.pv (PV.makeFunc rfl rfl) rfl rfl ?_
        refine KO.storeM m22 (i := 0) rfl sz155_B23 rfl rfl rfl (show 0 + 1 ≤ 1 by decide) (show _ = [.func (.func 119) #[] #[.pointer (some ⟨H13.next, 0, none⟩), .pointer (some ⟨H17.next, 0, none⟩), .pointer (some ⟨H.next, 0, none⟩), .pointer (some ⟨H19.next, 0, none⟩)]] from rfl) rfl fun H23 m24 => ?_
        refine KO.nil ?_
        refine KC.seq ?_
        refine KC.region ?_
        refine KO.load1 ag155_B23 rfl (m24.row (i := 0) rfl) rfl rfl rfl ?_
        refine KO.pv (PV.move rfl) rfl rfl ?_
        have m25 := m24.lnilC (EI .i64) (e := 3) none rfl
        have m26 : Mem [] H H23 [R.row H13.next 105 true [.slice (some ⟨H7.next, 0, none⟩) (((n3 + 1)).toNat) (((n3 + 1)).toNat)], R.row H7.next 4 true (cells EB (List.replicate (((n3 + 1)).toNat) false)), R.row H17.next 24 true [.slice none 0 0], R.lst 3 1 none 0 (cells (EI .i64) []) [], R.row H.next 26 true [.int .i64 ci, .slice a_cL n_cL c_cL, .slice a_cA n_cA c_cA, .slice a_cB n_cB c_cB, .slice a_cC n_cC c_cC], R.row H19.next 155 true [.func (.func 119) #[] #[.pointer (some ⟨H13.next, 0, none⟩), .pointer (some ⟨H17.next, 0, none⟩), .pointer (some ⟨H.next, 0, none⟩), .pointer (some ⟨H19.next, 0, none⟩)]]] := m25.pick [3, 4, 2, 0, 5, 1] (by decide) rfl
        refine KO.callV rfl rfl rfl rfl rfl (gates_visit H23 z7 H13.next H7.next (((n3 + 1)).toNat) _ H17.next _ _ _ [] H.next ci a_cL n_cL c_cL a_cA n_cA c_cA a_cB n_cB c_cB a_cC n_cC c_cC H19.next _ _ _ _ (wrap64 (by omega) (by omega)) (m26.ownK (Rs := [R.row H13.next 105 true [.slice (some ⟨H7.next, 0, none⟩) (((n3 + 1)).toNat) (((n3 + 1)).toNat)], R.row H7.next 4 true (cells EB (List.replicate (((n3 + 1)).toNat) false)), R.row H17.next 24 true [.slice none 0 0], R.lst 3 1 none 0 (cells (EI .i64) []) [], R.row H.next 26 true [.int .i64 ci, .slice a_cL n_cL c_cL, .slice a_cA n_cA c_cA, .slice a_cB n_cB c_cB, .slice a_cC n_cC c_cC], R.row H19.next 155 true [.func (.func 119) #[] #[.pointer (some ⟨H13.next, 0, none⟩), .pointer (some ⟨H17.next, 0, none⟩), .pointer (some ⟨H.next, 0, none⟩), .pointer (some ⟨H19.next, 0, none⟩)]]])) (by first | omega | (simp only [splice, List.length_append, List.length_set, List.length_replicate, List.length_map, List.length_take, List.length_drop, List.length_cons, List.length_nil] <;> omega)) (by omega) (fun _ h => absurd h List.not_mem_nil) (wrap64 (by omega) (by omega)) (V.mem m26 h_cL) (sepCons (V.sep m26 h_cL (i := 0) rfl) (sepCons (V.sep m26 h_cL (i := 1) rfl) (sepCons (V.sep m26 h_cL (i := 2) rfl) (sepCons (V.sep m26 h_cL (i := 3) rfl) (sepCons (V.sep m26 h_cL (i := 4) rfl) (sepCons (V.sep m26 h_cL (i := 5) rfl) sepEnd)))))) (V.mem m26 h_cA) (sepCons (V.sep m26 h_cA (i := 0) rfl) (sepCons (V.sep m26 h_cA (i := 1) rfl) (sepCons (V.sep m26 h_cA (i := 2) rfl) (sepCons (V.sep m26 h_cA (i := 3) rfl) (sepCons (V.sep m26 h_cA (i := 4) rfl) (sepCons (V.sep m26 h_cA (i := 5) rfl) sepEnd)))))) (V.mem m26 h_cB) (sepCons (V.sep m26 h_cB (i := 0) rfl) (sepCons (V.sep m26 h_cB (i := 1) rfl) (sepCons (V.sep m26 h_cB (i := 2) rfl) (sepCons (V.sep m26 h_cB (i := 3) rfl) (sepCons (V.sep m26 h_cB (i := 4) rfl) (sepCons (V.sep m26 h_cB (i := 5) rfl) sepEnd)))))) (V.mem m26 h_cC) (sepCons (V.sep m26 h_cC (i := 0) rfl) (sepCons (V.sep m26 h_cC (i := 1) rfl) (sepCons (V.sep m26 h_cC (i := 2) rfl) (sepCons (V.sep m26 h_cC (i := 3) rfl) (sepCons (V.sep m26 h_cC (i := 4) rfl) (sepCons (V.sep m26 h_cC (i := 5) rfl) sepEnd)))))) (by first | omega | assumption) (by first | omega | assumption) (by simp only [List.count_replicate_self]; omega)) fun v27 H27 q27 => ?_
        obtain ⟨ys27, a27, n27, xs27, D27, hv27, mc27, p27_0, p27_1⟩ := q27
        dsimp only at hv27 mc27
        subst hv27
        have m28 := m26.seqK (Rs := [R.row H13.next 105 true [.slice (some ⟨H7.next, 0, none⟩) (((n3 + 1)).toNat) (((n3 + 1)).toNat)], R.row H7.next 4 true (cells EB (List.replicate (((n3 + 1)).toNat) false)), R.row H17.next 24 true [.slice none 0 0], R.lst 3 1 none 0 (cells (EI .i64) []) [], R.row H.next 26 true [.int .i64 ci, .slice a_cL n_cL c_cL, .slice a_cA n_cA c_cA, .slice a_cB n_cB c_cB, .slice a_cC n_cC c_cC], R.row H19.next 155 true [.func (.func 119) #[] #[.pointer (some ⟨H13.next, 0, none⟩), .pointer (some ⟨H17.next, 0, none⟩), .pointer (some ⟨H.next, 0, none⟩), .pointer (some ⟨H19.next, 0, none⟩)]]]) mc27
        have ll27_3 : xs27.length = n27 := m28.lstLen (E := (EI .i64)) (i := 3) rfl
        refine KO.nil ?_
        refine KC.seq ?_
        refine KC.region ?_
        refine KO.load1 ag24_B23 rfl (m28.row (i := 2) rfl) rfl rfl rfl ?_
        refine KO.call rfl rfl rfl rfl (Sort_int H27 a27 n27 _ _ (m28.res (i := 3) rfl) (m28.lt (i := 3) rfl) (by assumption) (by first | omega | assumption)) fun v29 H29 q29 => ?_
        obtain ⟨ys29, hv29, mc29, p29_0, p29_1, p29_2, p29_3⟩ := q29
        dsimp only at hv29 mc29
        subst hv29
        have m30 := m28.seqR (i := 3) rfl mc29
        refine KO.nil ?_
        refine KC.seq ?_
        refine KC.region ?_
        refine KO.load1 ag24_B23 rfl (m30.row (i := 3) rfl) rfl rfl rfl ?_
        refine KO.pv (PV.assign rfl) rfl rfl ?_
        refine KO.pv (PV.assign rfl) rfl rfl ?_
        refine KO.nil ?_
        have m31 := m30.ownLst (C := (EI .i64)) (i := 0) rfl (by assumption) (by first | omega | (simp only [splice, List.length_append, List.length_set, List.length_replicate, List.length_map, List.length_take, List.length_drop, List.length_cons, List.length_nil] <;> omega))
        exact KC.ret ⟨rfl, _, (.tmp rfl (.tmp rfl .nil)), a27, n27, n27, ys29, D27, 0, rfl, m31.pick [0] (by decide) rfl, (by first | omega | (intro h; omega) | (simp only [List.length_nil, true_and, and_true, or_true, true_or] <;> omega)), (by first | omega | (intro h; omega) | (simp only [List.length_nil, true_and, and_true, or_true, true_or] <;> omega))⟩
theorem gates_dep (H : AHeap) (p : Int) (b_s : Nat) (r_w n_w : Nat) (w : List Int) (b_v : Nat) (vv : Int)  (K : Int) (w_p : IntKind.i64.wrap p = p) (h_g : Mem ([b_s] ++ ([r_w] ++ ([b_v] ++ []))) H H [R.row b_s 24 true [.slice (some ⟨r_w, 0, none⟩) n_w n_w], R.row r_w 3 true (cells (EI .i64) w), R.row b_v 3 true [.int .i64 vv]]) (len_w : w.length = n_w) (max_w : n_w ≤ 330000000) (wf_w : ∀ u ∈ w, (EI .i64).wf u) (w_vv : IntKind.i64.wrap vv = vv) (h0 : 0 ≤ p ∧ p < n_w ∧ 0 ≤ vv ∧ vv < n_w ∧ 0 ≤ K ∧ K ≤ 100000) (hK : ∀ u ∈ w, 0 ≤ u ∧ u ≤ K) : WF E0 123 [.int .i64 p, .pointer (some ⟨b_s, 0, none⟩), .pointer (some ⟨b_v, 0, none⟩)] H fun q => ∃ (ys : List Int), q.1 = .tuple #[] ∧ Mem ([b_s] ++ ([r_w] ++ ([b_v] ++ []))) H q.2 [R.row b_s 24 true [.slice (some ⟨r_w, 0, none⟩) n_w n_w], R.row r_w 3 true (cells (EI .i64) ys), R.row b_v 3 true [.int .i64 vv]] ∧ (ys.length = n_w) ∧ (∀ u ∈ ys, 0 ≤ u ∧ u ≤ K + 1) ∧ (∀ u ∈ ys, (EI .i64).wf u) := by
  obtain ⟨lo_p, hi_p⟩ := rangei64 w_p
  obtain ⟨lo_vv, hi_vv⟩ := rangei64 w_vv
  have m0 := h_g
  refine WF.kg Tryz.func123 rfl rfl ?_
  refine KC.drawG (n := 14) (anc := [0, 0, 0, 0, 12, 28, 0, 0, 192, 448, 960, 2044, 4095, 8191]) (hv := [13]) (ord := [0, 1, 2, 3, 4, 5, 6, 7, 8, 9, 10, 11, 12, 13]) (by kernel_rfl) (by kernel_rfl) (by kernel_rfl) (by kernel_rfl) (by kernel_rfl) fun H1 n2 g3 => ?_
  have m4 := m0.room n2 g3 [] (by decide) (by decide)
  refine KD.load 1 rfl (m4.row (i := 0) rfl) (by rw [read1 ag24_B23]; exact rfl) (pastGo (k := 1) (l := [H1]) (by kernel_rfl) rfl (pastCons ⟨_, (m4.row (i := 0) rfl), (by rw [read1 ag24_B23]; exact rfl)⟩ pastNil)) veq_sl rfl (by kernel_rfl) rfl rfl rfl ?_
  refine KD.load 3 rfl (m4.row (i := 2) rfl) (by rw [read1 ag3_B23]; exact rfl) (pastGo (k := 1) (l := [H1]) (by kernel_rfl) rfl (pastCons ⟨_, (m4.row (i := 2) rfl), (by rw [read1 ag3_B23]; exact rfl)⟩ pastNil)) veq_int rfl (by kernel_rfl) rfl rfl rfl ?_
  refine KD.load 7 rfl (m4.row (i := 0) rfl) (by rw [read1 ag24_B23]; exact rfl) (pastGo (k := 1) (l := [H1]) (by kernel_rfl) rfl (pastCons ⟨_, (m4.row (i := 0) rfl), (by rw [read1 ag24_B23]; exact rfl)⟩ pastNil)) veq_sl rfl (by kernel_rfl) rfl rfl rfl ?_
  refine KD.load 15 rfl (m4.row (i := 2) rfl) (by rw [read1 ag3_B23]; exact rfl) (pastGo (k := 1) (l := [H1]) (by kernel_rfl) rfl (pastCons ⟨_, (m4.row (i := 2) rfl), (by rw [read1 ag3_B23]; exact rfl)⟩ pastNil)) veq_int rfl (by kernel_rfl) rfl rfl rfl ?_
  refine KD.pv 31 (PV.indexAddrZ un24_B23 sz3_B23 rfl rfl rfl (by omega) (by omega)) rfl rfl rfl (by kernel_rfl) rfl rfl rfl ?_
  obtain ⟨e6, hx6⟩ : ∃ x, (w)[(vv).toNat]? = some x := ⟨_, List.getElem?_eq_getElem (by first | omega | (simp only [splice, List.length_append, List.length_set, List.length_replicate, List.length_map, List.length_take, List.length_drop, List.length_cons, List.length_nil] <;> omega))⟩
  have hw6 := wf_w _ (List.mem_of_getElem? hx6)
  have hw6 : IntKind.i64.wrap e6 = e6 := hw6
  obtain ⟨lo6, hi6⟩ := rangei64 hw6
  have hK6 := hK _ (List.mem_of_getElem? hx6)
  refine KD.load 63 rfl (m4.row (i := 1) rfl) (by rw [read1 ag3_B23]; exact (cells_at1 hx6 rfl)) (pastGo (k := 1) (l := [H1]) (by kernel_rfl) rfl (pastCons ⟨_, (m4.row (i := 1) rfl), (by rw [read1 ag3_B23]; exact (cells_at1 hx6 rfl))⟩ pastNil)) veq_int rfl (by kernel_rfl) rfl rfl rfl ?_
  refine KD.load 127 rfl (m4.row (i := 0) rfl) (by rw [read1 ag24_B23]; exact rfl) (pastGo (k := 1) (l := [H1]) (by kernel_rfl) rfl (pastCons ⟨_, (m4.row (i := 0) rfl), (by rw [read1 ag24_B23]; exact rfl)⟩ pastNil)) veq_sl rfl (by kernel_rfl) rfl rfl rfl ?_
  refine KD.pv 255 (PV.move rfl) rfl rfl rfl (by kernel_rfl) rfl rfl rfl ?_
  refine KD.pv 511 (PV.indexAddrZ un24_B23 sz3_B23 rfl rfl rfl (by omega) (by omega)) rfl rfl rfl (by kernel_rfl) rfl rfl rfl ?_
  obtain ⟨e8, hx8⟩ : ∃ x, (w)[(p).toNat]? = some x := ⟨_, List.getElem?_eq_getElem (by first | omega | (simp only [splice, List.length_append, List.length_set, List.length_replicate, List.length_map, List.length_take, List.length_drop, List.length_cons, List.length_nil] <;> omega))⟩
  have hw8 := wf_w _ (List.mem_of_getElem? hx8)
  have hw8 : IntKind.i64.wrap e8 = e8 := hw8
  obtain ⟨lo8, hi8⟩ := rangei64 hw8
  have hK8 := hK _ (List.mem_of_getElem? hx8)
  refine KD.load 1023 rfl (m4.row (i := 1) rfl) (by rw [read1 ag3_B23]; exact (cells_at1 hx8 rfl)) (pastGo (k := 1) (l := [H1]) (by kernel_rfl) rfl (pastCons ⟨_, (m4.row (i := 1) rfl), (by rw [read1 ag3_B23]; exact (cells_at1 hx8 rfl))⟩ pastNil)) veq_int rfl (by kernel_rfl) rfl rfl rfl ?_
  refine KD.pv 2047 (PV.add rfl rfl (wrap64 (by omega) (by omega))) rfl rfl rfl (by kernel_rfl) rfl rfl rfl ?_
  obtain ⟨x9, hx9, dx9⟩ := maxD e6 (e8 + 1)
  refine KD.pv 4095 (PV.maxE rfl rfl hx9) rfl rfl (rd_int _) (by kernel_rfl) rfl rfl rfl ?_
  refine KD.pv 8191 (PV.indexAddrZ un24_B23 sz3_B23 rfl rfl rfl (by omega) (by omega)) rfl rfl rfl (by kernel_rfl) rfl rfl rfl ?_
  refine KD.storeM 16383 m4 (j := 1) rfl sz3_B23 rfl rfl rfl (cells_room (C := (EI .i64)) (xs := w) (i := (vv).toNat) (by first | omega | (simp only [splice, List.length_append, List.length_set, List.length_replicate, List.length_map, List.length_take, List.length_drop, List.length_cons, List.length_nil] <;> omega)) rfl) (cells_put0 (C := (EI .i64)) (xs := w) (i := (vv).toNat) x9 (by first | omega | (simp only [splice, List.length_append, List.length_set, List.length_replicate, List.length_map, List.length_take, List.length_drop, List.length_cons, List.length_nil] <;> omega))) rfl (by kernel_rfl) rfl rfl fun H11 m12 => ?_
  refine KD.nil ⟨rfl, ?_⟩
  exact ⟨rfl, _, .nil, (w.set ((vv).toNat) x9), rfl, m12.pick [0, 1, 2] (by decide) rfl, (by first | omega | (intro h; omega) | (simp only [List.length_nil, true_and, and_true, or_true, true_or] <;> omega) | (rw [List.length_set]; omega)), (by first | omega | (intro h; omega) | (simp only [List.length_nil, true_and, and_true, or_true, true_or] <;> omega) | (exact all_set (fun u hu => by have := hK u hu; omega) (by omega))), (by first | omega | (intro h; omega) | (simp only [List.length_nil, true_and, and_true, or_true, true_or] <;> omega) | (exact all_set wf_w (wf64 (by omega) (by omega))))⟩
theorem gates_Depth (H : AHeap) (ci : Int) (a_cL : Option Addr) (n_cL c_cL : Nat) (cL : List (Int × Int)) (a_cA : Option Addr) (n_cA c_cA : Nat) (cA : List (Int × Int)) (a_cB : Option Addr) (n_cB c_cB : Nat) (cB : List Int) (a_cC : Option Addr) (n_cC c_cC : Nat) (cC : List Int) (w_ci : IntKind.i64.wrap ci = ci) (h_cL : V EP H a_cL n_cL c_cL cL) (h_cA : V EP H a_cA n_cA c_cA cA) (h_cB : V (EI .i64) H a_cB n_cB c_cB cB) (h_cC : V (EI .i64) H a_cC n_cC c_cC cC) : WF E0 52 [.agg #[.int .i64 ci, .slice a_cL n_cL c_cL, .slice a_cA n_cA c_cA, .slice a_cB n_cB c_cB, .slice a_cC n_cC c_cC]] H fun q => ∃ (z : Int) (e : Int), q.1 = .tuple #[.int .i64 z, .int .i64 e] ∧ Mem [] H q.2 [] ∧ (0 ≤ e ∧ e ≤ 100) := by
  obtain ⟨lo_ci, hi_ci⟩ := rangei64 w_ci
  obtain ⟨len_cL, cap_cL, max_cL, wf_cL⟩ := h_cL.len
  obtain ⟨len_cA, cap_cA, max_cA, wf_cA⟩ := h_cA.len
  obtain ⟨len_cB, cap_cB, max_cB, wf_cB⟩ := h_cB.len
  obtain ⟨len_cC, cap_cC, max_cC, wf_cC⟩ := h_cC.len
  have m0 : Mem [] H H [] := Mem.start
  refine WF.kg Tryz.func52 rfl rfl ?_
  refine KC.seq ?_
  refine KC.region ?_
  refine KO.boxM m0 rfl rfl (show _ = [.int .i64 ci, .slice a_cL n_cL c_cL, .slice a_cA n_cA c_cA, .slice a_cB n_cB c_cB, .slice a_cC n_cC c_cC] from rfl) rfl rfl fun H1 m2 => ?_
  refine KO.pv (PV.assign rfl) rfl rfl ?_
  refine KO.pv (PV.assign rfl) rfl rfl ?_
  refine KO.nil ?_
  refine KC.seq ?_
  refine KC.region ?_
  refine KO.loadN ag26_B23 sz26_B23 rfl (m2.row (i := 0) rfl) (takeN_of (p := [.int .i64 ci, .slice a_cL n_cL c_cL, .slice a_cA n_cA c_cA, .slice a_cB n_cB c_cB, .slice a_cC n_cC c_cC]) rfl  rfl) rfl rfl ?_
  refine KO.call rfl rfl rfl rfl (gates_Vars H1 ci a_cL n_cL c_cL _ a_cA n_cA c_cA _ a_cB n_cB c_cB _ a_cC n_cC c_cC _ (wrap64 (by omega) (by omega)) (V.mem m2 h_cL) (V.mem m2 h_cA) (V.mem m2 h_cB) (V.mem m2 h_cC)) fun v3 H3 q3 => ?_
  obtain ⟨n3, e3, hv3, mc3, p3_0, p3_1, p3_2⟩ := q3
  dsimp only at hv3 mc3
  subst hv3
  have m4 := m2.seq mc3
  refine KO.pv (PV.move rfl) rfl rfl ?_
  refine KO.pv (PV.extract rfl rfl) rfl rfl ?_
  refine KO.pv (PV.extract rfl rfl) rfl rfl ?_
  refine KO.pv (PV.assign rfl) rfl rfl ?_
  refine KO.pv (PV.assign rfl) rfl rfl ?_
  refine KO.nil ?_
  refine KC.seq ?_
  refine KC.seq ?_
  refine KC.region ?_
  refine KO.pv (PV.move rfl) rfl rfl ?_
  refine KO.pv (PV.neqD rfl rfl rfl) rfl rfl ?_
  refine KO.nil ?_
  refine KC.condD rfl (fun h5 => ?_) (fun h5 => ?_)
  · refine KC.seq ?_
    refine KC.region ?_
    refine KO.pv (PV.move rfl) rfl rfl ?_
    refine KO.pv (PV.assign rfl) rfl rfl ?_
    refine KO.pv (PV.assign rfl) rfl rfl ?_
    refine KO.nil ?_
    exact KC.ret ⟨rfl, _, (.tmp rfl (.tmp rfl .nil)), 0, e3, rfl, m4.pick [] (by decide) rfl, (by first | omega | (intro h; omega) | (simp only [List.length_nil, true_and, and_true, or_true, true_or] <;> omega))⟩
  · have p3_0t := p3_0 (by omega)
    obtain ⟨p3_0s, p3_0u⟩ := id p3_0t
    obtain ⟨p3_0_i0, p3_0_al, p3_0_b, p3_0_c, p3_0_hb, p3_0_hc, p3_0_hl, p3_0_ha⟩ := id p3_0s
    refine KC.skip ?_
    refine KC.seq ?_
    refine KC.region ?_
    refine KO.pv (PV.move rfl) rfl rfl ?_
    refine KO.pv (PV.add rfl rfl (wrap64 (by omega) (by omega))) rfl rfl ?_
    refine KO.makeSliceM (C := (EI .i64)) 0 m4 el24_B23 ez3_B23 sb3_B23 rfl rfl (by omega) (by omega) (by omega) rfl rfl fun H6 m7 => ?_
    refine KO.allocM m7 zt24_B23 rfl rfl fun H8 m9 => ?_
    refine KO.storeM m9 (i := 0) rfl sz24_B23 rfl rfl rfl (show 0 + 1 ≤ 1 by decide) (show _ = [.slice (some ⟨H3.next, 0, none⟩) (((n3 + 1)).toNat) (((n3 + 1)).toNat)] from rfl) rfl fun H10 m11 => ?_
    refine KO.nil ?_
    refine KC.seq ?_
    refine KC.seq ?_
    refine KC.region ?_
    refine KO.load1 ag24_B23 rfl (m11.row (i := 0) rfl) rfl rfl rfl ?_
    refine KO.pv (PV.len un24_B23 rfl) rfl rfl ?_
    refine KO.pv (PV.move rfl) rfl rfl ?_
    refine KO.nil ?_
    refine KC.block ?_
    refine KC.sub (l' := [(1, .pointer (some ⟨H.next, 0, none⟩)), (6, .pointer (some ⟨H6.next, 0, none⟩)), (20, .int .i64 (((n3 + 1)).toNat : Int)), (21, .int .i64 0)]) (.cons rfl (.cons rfl (.cons rfl (.cons rfl .nil)))) ?_
    refine KC.loopN (fun kq lq A => ∃ (x21 : Int) (l18 : List Int), kq = ((((n3 + 1)).toNat : Int) - x21).toNat ∧ lq = [(1, .pointer (some ⟨H.next, 0, none⟩)), (6, .pointer (some ⟨H6.next, 0, none⟩)), (20, .int .i64 (((n3 + 1)).toNat : Int)), (21, .int .i64 x21)] ∧ Mem [] H A [R.row H6.next 24 true [.slice (some ⟨H3.next, 0, none⟩) (((n3 + 1)).toNat) (((n3 + 1)).toNat)], R.row H3.next 3 true (cells (EI .i64) l18), R.row H.next 26 true [.int .i64 ci, .slice a_cL n_cL c_cL, .slice a_cA n_cA c_cA, .slice a_cB n_cB c_cB, .slice a_cC n_cC c_cC]] ∧ (0 ≤ x21 ∧ x21 ≤ (((n3 + 1)).toNat : Int)) ∧ (l18.length = ((n3 + 1)).toNat) ∧ (∀ u ∈ l18, (EI .i64).wf u) ∧ (∀ u ∈ l18, 0 ≤ u ∧ u ≤ 2 * x21)) ?_ (((((n3 + 1)).toNat : Int) - 0).toNat) ⟨0, (List.replicate (((n3 + 1)).toNat) 0), rfl, rfl, (m11.pick [0, 1, 2] (by decide) rfl), (by first | omega | assumption | (constructor <;> omega)), (by first | omega | (simp only [splice, List.length_append, List.length_set, List.length_replicate, List.length_map, List.length_take, List.length_drop, List.length_cons, List.length_nil] <;> omega)), (all_rep (wf64 (by omega) (by omega))), (all_rep (by first | omega | assumption | (constructor <;> omega)))⟩
    rintro kq lq A12 ⟨x21, l18, rfl, rfl, m13, hr6, hl_l18, hw_l18, hd⟩
    refine KC.seq ?_
    refine KC.region ?_
    refine KO.pv (PV.lssD rfl rfl rfl) rfl rfl ?_
    refine KO.nil ?_
    refine KC.seq ?_
    refine KC.condD rfl (fun h14 => ?_) (fun h14 => ?_)
    · refine KC.skip ?_
      refine KC.seq ?_
      refine KC.block ?_
      refine KC.seq ?_
      refine KC.region ?_
      refine KO.pv (PV.move rfl) rfl rfl ?_
      refine KO.allocM m13 zt3_B23 rfl rfl fun H15 m16 => ?_
      refine KO.storeM m16 (i := 0) rfl sz3_B23 rfl rfl rfl (show 0 + 1 ≤ 1 by decide) (show _ = [.int .i64 x21] from rfl) rfl fun H17 m18 => ?_
      refine KO.nil ?_
      refine KC.region ?_
      refine KO.loadN ag26_B23 sz26_B23 rfl (m18.row (i := 3) rfl) (takeN_of (p := [.int .i64 ci, .slice a_cL n_cL c_cL, .slice a_cA n_cA c_cA, .slice a_cB n_cB c_cB, .slice a_cC n_cC c_cC]) rfl  rfl) rfl rfl ?_
      refine KO.load1 ag3_B23 rfl (m18.row (i := 0) rfl) rfl rfl rfl ?_
      refine KO.pv (PV.makeFunc rfl rfl) rfl rfl ?_
      refine KO.inline rfl rfl rfl rfl ?_
      refine WF.kg Tryz.func120 rfl rfl ?_
      refine KC.seq ?_
      refine KC.region ?_
      refine KO.boxM m18 rfl rfl (show _ = [.int .i64 ci, .slice a_cL n_cL c_cL, .slice a_cA n_cA c_cA, .slice a_cB n_cB c_cB, .slice a_cC n_cC c_cC] from rfl) rfl rfl fun H19 m20 => ?_
      refine KO.nil ?_
      refine KC.seq ?_
      refine KC.region ?_
      refine KO.loadN ag26_B23 sz26_B23 rfl (m20.row (i := 0) rfl) (takeN_of (p := [.int .i64 ci, .slice a_cL n_cL c_cL, .slice a_cA n_cA c_cA, .slice a_cB n_cB c_cB, .slice a_cC n_cC c_cC]) rfl  rfl) rfl rfl ?_
      refine KO.call rfl rfl rfl rfl (gates_starts H19 ci a_cL n_cL c_cL _ a_cA n_cA c_cA _ a_cB n_cB c_cB _ a_cC n_cC c_cC _ (wrap64 (by omega) (by omega)) (V.mem m20 h_cL) (V.mem m20 h_cA) (V.mem m20 h_cB) (V.mem m20 h_cC) (by first | omega | assumption) (by first | omega | assumption)) fun v21 H21 q21 => ?_
      obtain ⟨hv21, mc21⟩ := q21
      dsimp only at hv21 mc21
      subst hv21
      have m22 := m20.seq mc21
      refine KO.pv (PV.index un179_B23 sz3_B23 rfl (j := 2) (show _ = some (Value.int .i64 ((2 : Nat) : Int)) from rfl) (by decide) (by rw [read1 ag3_B23]; rfl)) rfl rfl ?_
      refine KO.pv (PV.assign rfl) rfl rfl ?_
      refine KO.nil ?_
      refine KC.seq ?_
      refine KC.region ?_
      refine KO.pv (PV.move rfl) rfl rfl ?_
      refine KO.pv (PV.move rfl) rfl rfl ?_
      refine KO.pv (PV.geqD rfl rfl rfl) rfl rfl ?_
      refine KO.nil ?_
      refine KC.condD rfl (fun h23 => ?_) (fun h23 => ?_)
      · refine KC.seq ?_
        refine KC.region ?_
        refine KO.pv (PV.fieldAddr fo26_2_B23 rfl) rfl rfl ?_
        refine KO.load1 ag23_B23 rfl (m22.row (i := 0) rfl) rfl rfl rfl ?_
        refine KO.pv (PV.move rfl) rfl rfl ?_
        refine KO.pv (PV.move rfl) rfl rfl ?_
        refine KO.pv (PV.sub rfl rfl (wrap64 (by omega) (by omega))) rfl rfl ?_
        obtain ⟨b24, o24, p24, r24, e24, ha24, hb24, hr24, hx24, hw24, hc24, ht24⟩ := V.at_ h_cA (z := (x21 - ((1 + ci) + (n_cL : Int)))) (by omega) (by omega)
        have hc24_0 : r24.cs[o24 + ((x21 - ((1 + ci) + (n_cL : Int)))).toNat * 2 + 0]? = some (.int .i64 e24.1) := hc24 0 (by decide)
        have hc24_1 : r24.cs[o24 + ((x21 - ((1 + ci) + (n_cL : Int)))).toNat * 2 + 1]? = some (.int .i64 e24.2) := hc24 1 (by decide)
        obtain ⟨hwa24, hwb24⟩ := hw24
        obtain ⟨loa24, hia24⟩ := rangei64 hwa24
        obtain ⟨lob24, hib24⟩ := rangei64 hwb24
        have gp3_0_ha_24 := p3_0_ha _ _ hx24
        refine KO.pv (PV.indexAddrZ un23_B23 sz187_B23 rfl ha24 rfl (by omega) (by omega)) rfl rfl ?_
        refine KO.loadN ag187_B23 sz187_B23 rfl (m22.row0 hb24 hr24) ht24 rfl rfl ?_
        refine KO.allocM m22 zt187_B23 rfl rfl fun H25 m26 => ?_
        refine KO.storeM m26 (i := 0) rfl sz187_B23 rfl rfl rfl (show 0 + 2 ≤ 2 by decide) (show _ = [.int .i64 e24.1, .int .i64 e24.2] from rfl) rfl fun H27 m28 => ?_
        refine KO.nil ?_
        refine KC.seq ?_
        refine KC.region ?_
        refine KO.pv (PV.fieldAddr fo187_0_B23 rfl) rfl rfl ?_
        refine KO.load1 ag3_B23 rfl (m28.row (i := 0) rfl) rfl rfl rfl ?_
        refine KO.pv (PV.fieldAddr fo187_1_B23 rfl) rfl rfl ?_
        refine KO.load1 ag3_B23 rfl (m28.row (i := 0) rfl) rfl rfl rfl ?_
        refine KO.pv (PV.build rfl (bl258_0i64_1i64_B23 _ _)) rfl rfl ?_
        refine KO.pv (PV.move rfl) rfl rfl ?_
        refine KO.nil ?_
        refine KC.block ?_
        refine KC.loop ?_
        refine KC.seq ?_
        refine KC.region ?_
        refine KO.pv (PV.lssD rfl rfl (show decide ((0 : Int) < 2) = true from by decide)) rfl rfl ?_
        refine KO.nil ?_
        refine KC.seq ?_
        refine KC.condT rfl ?_
        refine KC.skip ?_
        refine KC.seq ?_
        refine KC.block ?_
        refine KC.seq ?_
        refine KC.region ?_
        refine KO.pv (PV.index un258_B23 sz3_B23 rfl (j := 0) (show _ = some (Value.int .i64 ((0 : Nat) : Int)) from rfl) (by decide) (by rw [read1 ag3_B23]; rfl)) rfl rfl ?_
        refine KO.pv (PV.assign rfl) rfl rfl ?_
        refine KO.nil ?_
        refine KC.seq ?_
        refine KC.region ?_
        refine KO.pv (PV.move rfl) rfl rfl ?_
        refine KO.call rfl rfl rfl rfl (li_Var H27 e24.1 (wrap64 (by omega) (by omega))) fun v29 H29 q29 => ?_
        obtain ⟨z29, o29, e29, hv29, mc29, p29_0, p29_1, p29_2⟩ := q29
        dsimp only at hv29 mc29
        subst hv29
        have m30 := m28.seq mc29
        refine KO.pv (PV.move rfl) rfl rfl ?_
        refine KO.pv (PV.extract rfl rfl) rfl rfl ?_
        refine KO.pv (PV.extract rfl rfl) rfl rfl ?_
        refine KO.pv (PV.extract rfl rfl) rfl rfl ?_
        refine KO.pv (PV.assign rfl) rfl rfl ?_
        refine KO.pv (PV.assign rfl) rfl rfl ?_
        refine KO.pv (PV.assign rfl) rfl rfl ?_
        refine KO.nil ?_
        refine KC.region ?_
        refine KO.pv (PV.move rfl) rfl rfl ?_
        refine KO.pv (PV.move rfl) rfl rfl ?_
        have m31 : Mem [] H H29 [R.row H6.next 24 true [.slice (some ⟨H3.next, 0, none⟩) (((n3 + 1)).toNat) (((n3 + 1)).toNat)], R.row H3.next 3 true (cells (EI .i64) l18), R.row A12.next 3 true [.int .i64 x21], R.row H21.next 187 true [.int .i64 e24.1, .int .i64 e24.2], R.row H17.next 26 true [.int .i64 ci, .slice a_cL n_cL c_cL, .slice a_cA n_cA c_cA, .slice a_cB n_cB c_cB, .slice a_cC n_cC c_cC], R.row H.next 26 true [.int .i64 ci, .slice a_cL n_cL c_cL, .slice a_cA n_cA c_cA, .slice a_cB n_cB c_cB, .slice a_cC n_cC c_cC]] := m30.pick [3, 4, 2, 0, 1, 5] (by decide) rfl
        refine KO.callV rfl rfl rfl rfl rfl (gates_dep H29 z29 H6.next H3.next (((n3 + 1)).toNat) _ A12.next x21 (2 * x21) (wrap64 (by omega) (by omega)) (m31.ownK (Rs := [R.row H6.next 24 true [.slice (some ⟨H3.next, 0, none⟩) (((n3 + 1)).toNat) (((n3 + 1)).toNat)], R.row H3.next 3 true (cells (EI .i64) l18), R.row A12.next 3 true [.int .i64 x21]])) (by first | omega | (simp only [splice, List.length_append, List.length_set, List.length_replicate, List.length_map, List.length_take, List.length_drop, List.length_cons, List.length_nil] <;> omega)) (by omega) hw_l18 (wrap64 (by omega) (by omega)) (by first | omega | assumption) (by first | assumption | exact all_rep (by omega))) fun v32 H32 q32 => ?_
        obtain ⟨ys32, hv32, mc32, p32_0, p32_1, p32_2⟩ := q32
        dsimp only at hv32 mc32
        subst hv32
        have m33 := m31.seqK (Rs := [R.row H6.next 24 true [.slice (some ⟨H3.next, 0, none⟩) (((n3 + 1)).toNat) (((n3 + 1)).toNat)], R.row H3.next 3 true (cells (EI .i64) l18), R.row A12.next 3 true [.int .i64 x21]]) mc32
        refine KO.nil ?_
        refine KC.region ?_
        refine KO.pv (PV.add rfl rfl (wrap64 (by omega) (by omega))) rfl rfl ?_
        refine KO.pv (PV.move rfl) rfl rfl ?_
        refine KO.nil ?_
        refine KC.loop ?_
        refine KC.seq ?_
        refine KC.region ?_
        refine KO.pv (PV.lssD rfl rfl (show decide ((1 : Int) < 2) = true from by decide)) rfl rfl ?_
        refine KO.nil ?_
        refine KC.seq ?_
        refine KC.condT rfl ?_
        refine KC.skip ?_
        refine KC.seq ?_
        refine KC.block ?_
        refine KC.seq ?_
        refine KC.region ?_
        refine KO.pv (PV.index un258_B23 sz3_B23 rfl (j := 1) (show _ = some (Value.int .i64 ((1 : Nat) : Int)) from rfl) (by decide) (by rw [read1 ag3_B23]; rfl)) rfl rfl ?_
        refine KO.pv (PV.assign rfl) rfl rfl ?_
        refine KO.nil ?_
        refine KC.seq ?_
        refine KC.region ?_
        refine KO.pv (PV.move rfl) rfl rfl ?_
        refine KO.call rfl rfl rfl rfl (li_Var H32 e24.2 (wrap64 (by omega) (by omega))) fun v34 H34 q34 => ?_
        obtain ⟨z34, o34, e34, hv34, mc34, p34_0, p34_1, p34_2⟩ := q34
        dsimp only at hv34 mc34
        subst hv34
        have m35 := m33.seq mc34
        refine KO.pv (PV.move rfl) rfl rfl ?_
        refine KO.pv (PV.extract rfl rfl) rfl rfl ?_
        refine KO.pv (PV.extract rfl rfl) rfl rfl ?_
        refine KO.pv (PV.extract rfl rfl) rfl rfl ?_
        refine KO.pv (PV.assign rfl) rfl rfl ?_
        refine KO.pv (PV.assign rfl) rfl rfl ?_
        refine KO.pv (PV.assign rfl) rfl rfl ?_
        refine KO.nil ?_
        refine KC.region ?_
        refine KO.pv (PV.move rfl) rfl rfl ?_
        refine KO.pv (PV.move rfl) rfl rfl ?_
        have m36 : Mem [] H H34 [R.row H6.next 24 true [.slice (some ⟨H3.next, 0, none⟩) (((n3 + 1)).toNat) (((n3 + 1)).toNat)], R.row H3.next 3 true (cells (EI .i64) ys32), R.row A12.next 3 true [.int .i64 x21], R.row H21.next 187 true [.int .i64 e24.1, .int .i64 e24.2], R.row H17.next 26 true [.int .i64 ci, .slice a_cL n_cL c_cL, .slice a_cA n_cA c_cA, .slice a_cB n_cB c_cB, .slice a_cC n_cC c_cC], R.row H.next 26 true [.int .i64 ci, .slice a_cL n_cL c_cL, .slice a_cA n_cA c_cA, .slice a_cB n_cB c_cB, .slice a_cC n_cC c_cC]] := m35.pick [0, 1, 2, 3, 4, 5] (by decide) rfl
        refine KO.callV rfl rfl rfl rfl rfl (gates_dep H34 z34 H6.next H3.next (((n3 + 1)).toNat) _ A12.next x21 (2 * x21 + 1) (wrap64 (by omega) (by omega)) (m36.ownK (Rs := [R.row H6.next 24 true [.slice (some ⟨H3.next, 0, none⟩) (((n3 + 1)).toNat) (((n3 + 1)).toNat)], R.row H3.next 3 true (cells (EI .i64) ys32), R.row A12.next 3 true [.int .i64 x21]])) (by first | omega | (simp only [splice, List.length_append, List.length_set, List.length_replicate, List.length_map, List.length_take, List.length_drop, List.length_cons, List.length_nil] <;> omega)) (by omega) (by assumption) (wrap64 (by omega) (by omega)) (by first | omega | assumption) (by first | assumption | exact all_rep (by omega))) fun v37 H37 q37 => ?_
        obtain ⟨ys37, hv37, mc37, p37_0, p37_1, p37_2⟩ := q37
        dsimp only at hv37 mc37
        subst hv37
        have m38 := m36.seqK (Rs := [R.row H6.next 24 true [.slice (some ⟨H3.next, 0, none⟩) (((n3 + 1)).toNat) (((n3 + 1)).toNat)], R.row H3.next 3 true (cells (EI .i64) ys32), R.row A12.next 3 true [.int .i64 x21]]) mc37
        refine KO.nil ?_
        refine KC.region ?_
        refine KO.pv (PV.add rfl rfl (wrap64 (by omega) (by omega))) rfl rfl ?_
        refine KO.pv (PV.move rfl) rfl rfl ?_
        refine KO.nil ?_
        refine KC.loop ?_
        refine KC.seq ?_
        refine KC.region ?_
        refine KO.pv (PV.lssD rfl rfl (show decide ((2 : Int) < 2) = false from by decide)) rfl rfl ?_
        refine KO.nil ?_
        refine KC.seq ?_
        refine KC.condF rfl ?_
        refine KC.exit ?_
        refine ⟨rfl, _, .nil, ?_⟩
        refine KO.nil ?_
        refine KC.region ?_
        refine KO.pv (PV.add rfl rfl (wrap64 (by omega) (by omega))) rfl rfl ?_
        refine KO.pv (PV.move rfl) rfl rfl ?_
        refine KO.nil ?_
        exact ⟨_, _, (by omega), (.cons rfl (.cons rfl (.cons rfl (.cons rfl .nil)))), (x21 + 1), ys37, rfl, rfl, (m38.pick [0, 1, 5] (by decide) rfl), (by first | omega | assumption | (constructor <;> omega)), (by first | omega | (simp only [splice, List.length_append, List.length_set, List.length_replicate, List.length_map, List.length_take, List.length_drop, List.length_cons, List.length_nil] <;> omega)), (by assumption), (fun u hu => by have h9 := (show ∀ u ∈ ys37, 0 ≤ u ∧ u ≤ _ by assumption) u hu; omega)⟩
      · refine KC.skip ?_
        refine ⟨rfl, _, .nil, ?_⟩
        refine KO.nil ?_
        refine KC.region ?_
        refine KO.pv (PV.add rfl rfl (wrap64 (by omega) (by omega))) rfl rfl ?_
        refine KO.pv (PV.move rfl) rfl rfl ?_
        refine KO.nil ?_
        exact ⟨_, _, (by omega), (.cons rfl (.cons rfl (.cons rfl (.cons rfl .nil)))), (x21 + 1), l18, rfl, rfl, (m22.pick [2, 3, 4] (by decide) rfl), (by first | omega | assumption | (constructor <;> omega)), (by first | omega | (simp only [splice, List.length_append, List.length_set, List.length_replicate, List.length_map, List.length_take, List.length_drop, List.length_cons, List.length_nil] <;> omega)), hw_l18, (by first | exact hd | exact fun u hu => by have := hd u hu; omega)⟩
    · refine KC.exit ?_
      refine KC.seq ?_
      refine KC.region ?_
      refine KO.load1 ag24_B23 rfl (m13.row (i := 0) rfl) rfl rfl rfl ?_
      refine KO.call rfl rfl rfl rfl (Max_int A12 (some ⟨H3.next, 0, none⟩) (((n3 + 1)).toNat) (((n3 + 1)).toNat) _ (m13.vrow (i := 1) rfl hw_l18 (by first | omega | (simp only [splice, List.length_append, List.length_set, List.length_replicate, List.length_map, List.length_take, List.length_drop, List.length_cons, List.length_nil] <;> omega)) (by omega) (by omega)) (by first | omega | assumption)) fun v39 H39 q39 => ?_
      obtain ⟨z39, hv39, mc39, p39_0⟩ := q39
      dsimp only at hv39 mc39
      subst hv39
      have m40 := m13.seq mc39
      refine KO.pv (PV.assign rfl) rfl rfl ?_
      refine KO.pv (PV.assign rfl) rfl rfl ?_
      refine KO.nil ?_
      exact KC.ret ⟨rfl, _, (.tmp rfl (.tmp rfl .nil)), z39, 0, rfl, m40.pick [] (by decide) rfl, (by first | omega | (intro h; omega) | (simp only [List.length_nil, true_and, and_true, or_true, true_or] <;> omega))⟩
end Go.Eng
