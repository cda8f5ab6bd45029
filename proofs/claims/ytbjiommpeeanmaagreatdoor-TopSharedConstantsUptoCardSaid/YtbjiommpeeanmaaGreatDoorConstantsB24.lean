/- Functions of the program and of the library keep their contracts. Conditions: none beyond each theorem's own. -/
import Derived.Test.YtbjiommpeeanmaaGreatDoorConstantsB16
import Derived.KernelRfl
set_option linter.all false
namespace Go.Eng
open Go Go.Proofs
theorem ag3_B24 : isAggT E0.P 3 = some false := by kernel_rfl
theorem sz3_B24 : sizeT E0.P 3 = some 1 := by kernel_rfl
theorem ag24_B24 : isAggT E0.P 24 = some false := by kernel_rfl
theorem el24_B24 : elemT E0.P 24 = some 3 := by kernel_rfl
theorem ez3_B24 : elemZ E0.P 3 = some (1, [.int .i64 0]) := by kernel_rfl
theorem sb3_B24 : smallBytes E0.P 3 = true := by kernel_rfl
theorem un24_B24 : E0.P.underlying 24 = some (.slice 3) := by kernel_rfl
theorem sz24_B24 : sizeT E0.P 24 = some 1 := by kernel_rfl
theorem fo26_0_B24 : foff E0.P 26 0 = some 0 := by kernel_rfl
theorem fo26_1_B24 : foff E0.P 26 1 = some 1 := by kernel_rfl
theorem ag22_B24 : isAggT E0.P 22 = some false := by kernel_rfl
theorem un22_B24 : E0.P.underlying 22 = some (.slice 150) := by kernel_rfl
theorem fo26_2_B24 : foff E0.P 26 2 = some 2 := by kernel_rfl
theorem ag23_B24 : isAggT E0.P 23 = some false := by kernel_rfl
theorem un23_B24 : E0.P.underlying 23 = some (.slice 187) := by kernel_rfl
theorem sz150_B24 : sizeT E0.P 150 = some 2 := by kernel_rfl
theorem ag150_B24 : isAggT E0.P 150 = some true := by kernel_rfl
theorem fo150_0_B24 : foff E0.P 150 0 = some 0 := by kernel_rfl
theorem fo150_1_B24 : foff E0.P 150 1 = some 1 := by kernel_rfl
theorem ag26_B24 : isAggT E0.P 26 = some true := by kernel_rfl
theorem sz26_B24 : sizeT E0.P 26 = some 5 := by kernel_rfl
theorem fo26_3_B24 : foff E0.P 26 3 = some 3 := by kernel_rfl
theorem fo26_4_B24 : foff E0.P 26 4 = some 4 := by kernel_rfl
theorem zt150_B24 : zeroT E0.P 150 = some [.int .i64 0, .int .i64 0] := by kernel_rfl
theorem el23_B24 : elemT E0.P 23 = some 187 := by kernel_rfl
theorem ez187_B24 : elemZ E0.P 187 = some (2, [.int .i64 0, .int .i64 0]) := by kernel_rfl
theorem sb187_B24 : smallBytes E0.P 187 = true := by kernel_rfl
theorem fo36_0_B24 : foff E0.P 36 0 = some 0 := by kernel_rfl
theorem fo36_1_B24 : foff E0.P 36 1 = some 1 := by kernel_rfl
theorem bl187_0i64_1i64_B24 (v0 : Int) (v1 : Int) : buildA E0.P 187 [(0, .int .i64 v0), (1, .int .i64 v1)] = some (.agg #[.int .i64 v0, .int .i64 v1]) := by kernel_rfl
theorem sz23_B24 : sizeT E0.P 23 = some 1 := by kernel_rfl
theorem zt26_B24 : zeroT E0.P 26 = some [.int .i64 0, .slice none 0 0, .slice none 0 0, .slice none 0 0, .slice none 0 0] := by kernel_rfl
theorem bl26__B24  : buildA E0.P 26 [] = some (.agg #[.int .i64 0, .slice none 0 0, .slice none 0 0, .slice none 0 0, .slice none 0 0]) := by kernel_rfl
theorem zt38_B24 : zeroT E0.P 38 = some [.int .i64 0, .int .i64 0, .slice none 0 0, .slice none 0 0, .slice none 0 0, .slice none 0 0, .int .i64 0] := by kernel_rfl
theorem sz38_B24 : sizeT E0.P 38 = some 7 := by kernel_rfl
theorem ag38_B24 : isAggT E0.P 38 = some true := by kernel_rfl
theorem sz22_B24 : sizeT E0.P 22 = some 1 := by kernel_rfl
theorem zt40_B24 : zeroT E0.P 40 = some [.int .i64 0, .slice none 0 0, .slice none 0 0, .slice none 0 0, .slice none 0 0, .int .i64 0, .int .i64 0, .slice none 0 0, .slice none 0 0, .slice none 0 0, .slice none 0 0, .int .i64 0] := by kernel_rfl
theorem bl40__B24  : buildA E0.P 40 [] = some (.agg #[.int .i64 0, .slice none 0 0, .slice none 0 0, .slice none 0 0, .slice none 0 0, .int .i64 0, .int .i64 0, .slice none 0 0, .slice none 0 0, .slice none 0 0, .slice none 0 0, .int .i64 0]) := by kernel_rfl
theorem sz40_B24 : sizeT E0.P 40 = some 12 := by kernel_rfl
theorem ag40_B24 : isAggT E0.P 40 = some true := by kernel_rfl
theorem bl40_0Ai64ssss_1Ai64i64ssssi64_B24 (v0_0 : Int) (v0_1a : Option Addr) (v0_1n v0_1c : Nat) (v0_2a : Option Addr) (v0_2n v0_2c : Nat) (v0_3a : Option Addr) (v0_3n v0_3c : Nat) (v0_4a : Option Addr) (v0_4n v0_4c : Nat) (v1_0 : Int) (v1_1 : Int) (v1_2a : Option Addr) (v1_2n v1_2c : Nat) (v1_3a : Option Addr) (v1_3n v1_3c : Nat) (v1_4a : Option Addr) (v1_4n v1_4c : Nat) (v1_5a : Option Addr) (v1_5n v1_5c : Nat) (v1_6 : Int) : buildA E0.P 40 [(0, .agg #[.int .i64 v0_0, .slice v0_1a v0_1n v0_1c, .slice v0_2a v0_2n v0_2c, .slice v0_3a v0_3n v0_3c, .slice v0_4a v0_4n v0_4c]), (1, .agg #[.int .i64 v1_0, .int .i64 v1_1, .slice v1_2a v1_2n v1_2c, .slice v1_3a v1_3n v1_3c, .slice v1_4a v1_4n v1_4c, .slice v1_5a v1_5n v1_5c, .int .i64 v1_6])] = some (.agg #[.int .i64 v0_0, .slice v0_1a v0_1n v0_1c, .slice v0_2a v0_2n v0_2c, .slice v0_3a v0_3n v0_3c, .slice v0_4a v0_4n v0_4c, .int .i64 v1_0, .int .i64 v1_1, .slice v1_2a v1_2n v1_2c, .slice v1_3a v1_3n v1_3c, .slice v1_4a v1_4n v1_4c, .slice v1_5a v1_5n v1_5c, .int .i64 v1_6]) := by kernel_rfl
theorem fo38_5_B24 : foff E0.P 38 5 = some 5 := by kernel_rfl
theorem co_find1 (H : AHeap) (i : Int) (b_x : Nat) (xi : Int) (xa1 xa2 xa3 xa4 : Option Addr) (xn1 xc1 xn2 xc2 xn3 xc3 xn4 xc4 : Nat) (b_y : Nat) (yi : Int) (ya1 ya2 ya3 ya4 : Option Addr) (yn1 yc1 yn2 yc2 yn3 yc3 yn4 yc4 : Nat) (X : List (Int × Int)) (Y : List (Int × Int)) (w_i : IntKind.i64.wrap i = i) (r_x : H.row b_x = some ⟨26, true, true, [.int .i64 xi, .slice xa1 xn1 xc1, .slice xa2 xn2 xc2, .slice xa3 xn3 xc3, .slice xa4 xn4 xc4]⟩) (l_x : b_x < H.next) (r_y : H.row b_y = some ⟨26, true, true, [.int .i64 yi, .slice ya1 yn1 yc1, .slice ya2 yn2 yc2, .slice ya3 yn3 yc3, .slice ya4 yn4 yc4]⟩) (l_y : b_y < H.next) (h_X : V EP H xa1 xn1 xc1 X) (h_Y : V EP H ya1 yn1 yc1 Y) (h0 : 0 ≤ i ∧ i < xn1 ∧ i < yn1) : WF E0 174 [.int .i64 i, .pointer (some ⟨b_x, 0, none⟩), .pointer (some ⟨b_y, 0, none⟩)] H fun q => ∃ (o : Bool), q.1 = .bool o ∧ Mem [] H q.2 [] := by
  obtain ⟨lo_i, hi_i⟩ := rangei64 w_i
  obtain ⟨len_X, cap_X, max_X, wf_X⟩ := h_X.len
  obtain ⟨len_Y, cap_Y, max_Y, wf_Y⟩ := h_Y.len
  have m0 : Mem [] H H [] := Mem.start
  refine WF.kg Tryz.func174 rfl rfl ?_
  refine KC.seq ?_
  refine KC.region ?_
  refine KO.pv (PV.assign rfl) rfl rfl ?_
  refine KO.nil ?_
  refine KC.seq ?_
  refine KC.drawG (n := 14) (anc := [0, 1, 0, 7, 15, 31, 0, 64, 0, 448, 960, 1984, 4095, 8191]) (hv := []) (ord := [0, 1, 2, 3, 4, 5, 6, 7, 8, 9, 10, 11, 12, 13]) (by kernel_rfl) (by kernel_rfl) (by kernel_rfl) (by kernel_rfl) (by kernel_rfl) fun H1 n2 g3 => ?_
  have m4 := m0.room n2 g3 [] (by decide) (by decide)
  refine KD.pv 1 (PV.fieldAddr fo26_1_B24 rfl) rfl rfl rfl (by kernel_rfl) rfl rfl rfl ?_
  refine KD.load 3 rfl (m4.row0 l_x r_x) (by rw [read1 ag22_B24]; exact rfl) (pastGo (k := 1) (l := [H1]) (by kernel_rfl) rfl (pastCons ⟨_, (m4.row0 l_x r_x), (by rw [read1 ag22_B24]; exact rfl)⟩ pastNil)) veq_sl rfl (by kernel_rfl) rfl rfl rfl ?_
  refine KD.pv 7 (PV.move rfl) rfl rfl rfl (by kernel_rfl) rfl rfl rfl ?_
  obtain ⟨b5, o5, p5, r5, e5, ha5, hb5, hr5, hx5, hw5, hc5, ht5⟩ := V.at_ h_X (z := i) (by omega) (by omega)
  have hc5_0 : r5.cs[o5 + (i).toNat * 2 + 0]? = some (.int .i64 e5.1) := hc5 0 (by decide)
  have hc5_1 : r5.cs[o5 + (i).toNat * 2 + 1]? = some (.int .i64 e5.2) := hc5 1 (by decide)
  obtain ⟨hwa5, hwb5⟩ := hw5
  obtain ⟨loa5, hia5⟩ := rangei64 hwa5
  obtain ⟨lob5, hib5⟩ := rangei64 hwb5
  refine KD.pv 15 (PV.indexAddrZ un22_B24 sz150_B24 rfl ha5 rfl (by omega) (by omega)) rfl rfl rfl (by kernel_rfl) rfl rfl rfl ?_
  refine KD.pv 31 (PV.fieldAddr fo150_0_B24 rfl) rfl rfl rfl (by kernel_rfl) rfl rfl rfl ?_
  refine KD.load 63 rfl (m4.row0 hb5 hr5) (by rw [read1 ag3_B24]; exact hc5_0) (pastGo (k := 1) (l := [H1]) (by kernel_rfl) rfl (pastCons ⟨_, (m4.row0 hb5 hr5), (by rw [read1 ag3_B24]; exact hc5_0)⟩ pastNil)) veq_int rfl (by kernel_rfl) rfl rfl rfl ?_
  refine KD.pv 127 (PV.fieldAddr fo26_1_B24 rfl) rfl rfl rfl (by kernel_rfl) rfl rfl rfl ?_
  refine KD.load 255 rfl (m4.row0 l_y r_y) (by rw [read1 ag22_B24]; exact rfl) (pastGo (k := 1) (l := [H1]) (by kernel_rfl) rfl (pastCons ⟨_, (m4.row0 l_y r_y), (by rw [read1 ag22_B24]; exact rfl)⟩ pastNil)) veq_sl rfl (by kernel_rfl) rfl rfl rfl ?_
  refine KD.pv 511 (PV.move rfl) rfl rfl rfl (by kernel_rfl) rfl rfl rfl ?_
  obtain ⟨b6, o6, p6, r6, e6, ha6, hb6, hr6, hx6, hw6, hc6, ht6⟩ := V.at_ h_Y (z := i) (by omega) (by omega)
  have hc6_0 : r6.cs[o6 + (i).toNat * 2 + 0]? = some (.int .i64 e6.1) := hc6 0 (by decide)
  have hc6_1 : r6.cs[o6 + (i).toNat * 2 + 1]? = some (.int .i64 e6.2) := hc6 1 (by decide)
  obtain ⟨hwa6, hwb6⟩ := hw6
  obtain ⟨loa6, hia6⟩ := rangei64 hwa6
  obtain ⟨lob6, hib6⟩ := rangei64 hwb6
  refine KD.pv 1023 (PV.indexAddrZ un22_B24 sz150_B24 rfl ha6 rfl (by omega) (by omega)) rfl rfl rfl (by kernel_rfl) rfl rfl rfl ?_
  refine KD.pv 2047 (PV.fieldAddr fo150_1_B24 rfl) rfl rfl rfl (by kernel_rfl) rfl rfl rfl ?_
  refine KD.load 4095 rfl (m4.row0 hb6 hr6) (by rw [read1 ag3_B24]; exact hc6_1) (pastGo (k := 1) (l := [H1]) (by kernel_rfl) rfl (pastCons ⟨_, (m4.row0 hb6 hr6), (by rw [read1 ag3_B24]; exact hc6_1)⟩ pastNil)) veq_int rfl (by kernel_rfl) rfl rfl rfl ?_
  refine KD.pv 8191 (PV.neqD rfl rfl rfl) rfl rfl rfl (by kernel_rfl) rfl rfl rfl ?_
  refine KD.pv 16383 (PV.assign rfl) rfl rfl rfl (by kernel_rfl) rfl rfl rfl ?_
  refine KD.nil ⟨rfl, ?_⟩
  exact KC.ret ⟨rfl, _, (.tmp rfl .nil), (decide (e5.1 ≠ e6.2)), rfl, m4.pick [] (by decide) rfl⟩
def LPc (L : List (Int × Int)) (u : Int) : Prop := 0 ≤ u ∧ u < L.length ∧ ∀ p, L[u.toNat]? = some p → p.2 ≠ 2
set_option maxHeartbeats 4000000 in
theorem co_find (H : AHeap) (ci : Int) (a_cL : Option Addr) (n_cL c_cL : Nat) (cL : List (Int × Int)) (a_cA : Option Addr) (n_cA c_cA : Nat) (cA : List (Int × Int)) (a_cB : Option Addr) (n_cB c_cB : Nat) (cB : List Int) (a_cC : Option Addr) (n_cC c_cC : Nat) (cC : List Int) (w_ci : IntKind.i64.wrap ci = ci) (h_cL : V EP H a_cL n_cL c_cL cL) (h_cA : V EP H a_cA n_cA c_cA cA) (h_cB : V (EI .i64) H a_cB n_cB c_cB cB) (h_cC : V (EI .i64) H a_cC n_cC c_cC cC) : WF E0 125 [.agg #[.int .i64 ci, .slice a_cL n_cL c_cL, .slice a_cA n_cA c_cA, .slice a_cB n_cB c_cB, .slice a_cC n_cC c_cC]] H fun q => ∃ (la : Option Addr) (ln : Nat) (lc : Nat) (l : List Int) (lD : List Nat) (r0 : Int) (r1a : Option Addr) (r1n : Nat) (r1c : Nat) (r1 : List (Int × Int)) (r1D : List Nat) (r2a : Option Addr) (r2n : Nat) (r2c : Nat) (r2 : List (Int × Int)) (r2D : List Nat) (r3a : Option Addr) (r3n : Nat) (r3c : Nat) (r3 : List Int) (r3D : List Nat) (r4a : Option Addr) (r4n : Nat) (r4c : Nat) (r4 : List Int) (r4D : List Nat) (e : Int), q.1 = .tuple #[.slice la ln lc, .agg #[.int .i64 r0, .slice r1a r1n r1c, .slice r2a r2n r2c, .slice r3a r3n r3c, .slice r4a r4n r4c], .int .i64 e] ∧ Mem [] H q.2 [R.own (EI .i64) la ln lc l lD, R.own EP r1a r1n r1c r1 r1D, R.own EP r2a r2n r2c r2 r2D, R.own (EI .i64) r3a r3n r3c r3 r3D, R.own (EI .i64) r4a r4n r4c r4 r4D] ∧ (0 ≤ e ∧ e ≤ 100) ∧ (r1n ≤ 1000 ∧ r2n ≤ 1001 ∧ r3n ≤ 100 ∧ r4n ≤ 100 ∧ ln ≤ n_cL ∧ n_cL ≤ 1000 ∨ e ≠ 0 ∧ ln = 0 ∧ r1n = 0 ∧ r2n = 0 ∧ r3n = 0 ∧ r4n = 0) ∧ (e = 0 → CirOK ci cL cA cB cC) ∧ (∀ u ∈ l, LPc cL u) ∧ ((0 ≤ r0 ∧ r0 ≤ 1000000)) := by
  obtain ⟨lo_ci, hi_ci⟩ := rangei64 w_ci
  obtain ⟨len_cL, cap_cL, max_cL, wf_cL⟩ := h_cL.len
  obtain ⟨len_cA, cap_cA, max_cA, wf_cA⟩ := h_cA.len
  obtain ⟨len_cB, cap_cB, max_cB, wf_cB⟩ := h_cB.len
  obtain ⟨len_cC, cap_cC, max_cC, wf_cC⟩ := h_cC.len
  have m0 : Mem [] H H [] := Mem.start
  refine WF.kg Tryz.func125 rfl rfl ?_
  refine KC.seq ?_
  refine KC.region ?_
  refine KO.boxM m0 rfl rfl (show _ = [.int .i64 ci, .slice a_cL n_cL c_cL, .slice a_cA n_cA c_cA, .slice a_cB n_cB c_cB, .slice a_cC n_cC c_cC] from rfl) rfl rfl fun H1 m2 => ?_
  refine KO.pv (PV.assign rfl) rfl rfl ?_
  refine KO.allocM m2 zt26_B24 rfl rfl fun H3 m4 => ?_
  refine KO.pv (PV.assign rfl) rfl rfl ?_
  refine KO.nil ?_
  refine KC.seq ?_
  refine KC.region ?_
  refine KO.loadN ag26_B24 sz26_B24 rfl (m4.row (i := 1) rfl) (takeN_of (p := [.int .i64 ci, .slice a_cL n_cL c_cL, .slice a_cA n_cA c_cA, .slice a_cB n_cB c_cB, .slice a_cC n_cC c_cC]) rfl  rfl) rfl rfl ?_
  refine KO.call rfl rfl rfl rfl (gates_Vars H3 ci a_cL n_cL c_cL _ a_cA n_cA c_cA _ a_cB n_cB c_cB _ a_cC n_cC c_cC _ (wrap64 (by omega) (by omega)) (V.mem m4 h_cL) (V.mem m4 h_cA) (V.mem m4 h_cB) (V.mem m4 h_cC)) fun v5 H5 q5 => ?_
  obtain ⟨n5, e5, hv5, mc5, p5_0, p5_1, p5_2⟩ := q5
  dsimp only at hv5 mc5
  subst hv5
  have m6 := m4.seq mc5
  refine KO.pv (PV.move rfl) rfl rfl ?_
  refine KO.pv (PV.extract rfl rfl) rfl rfl ?_
  refine KO.pv (PV.extract rfl rfl) rfl rfl ?_
  refine KO.pv (PV.assign rfl) rfl rfl ?_
  refine KO.pv (PV.assign rfl) rfl rfl ?_
  refine KO.nil ?_
  refine KC.seq ?_
  refine KC.seq ?_
  refine KC.region ?_
  refine KO.pv (PV.move rfl) rfl rfl ?_
  refine KO.pv (PV.neqD rfl rfl rfl) rfl rfl ?_
  refine KO.nil ?_
  refine KC.condD rfl (fun h7 => ?_) (fun h7 => ?_)
  · refine KC.seq ?_
    refine KC.region ?_
    refine KO.pv (PV.build rfl bl26__B24) rfl rfl ?_
    refine KO.pv (PV.move rfl) rfl rfl ?_
    refine KO.pv (PV.assign rfl) rfl rfl ?_
    refine KO.storeM m6 (i := 0) rfl sz26_B24 rfl rfl rfl (show 0 + 5 ≤ 5 by decide) (show _ = [.int .i64 0, .slice none 0 0, .slice none 0 0, .slice none 0 0, .slice none 0 0] from rfl) rfl fun H8 m9 => ?_
    refine KO.pv (PV.assign rfl) rfl rfl ?_
    refine KO.nil ?_
    have m10 := m9.ownNil (C := (EI .i64))
    have m11 := m10.ownNil (C := EP)
    have m12 := m11.ownNil (C := EP)
    have m13 := m12.ownNil (C := (EI .i64))
    have m14 := m13.ownNil (C := (EI .i64))
    exact KC.ret ⟨rfl, _, (.tmp rfl (.cell rfl (ldN (m9.row (i := 0) rfl) ag26_B24 sz26_B24 rfl rfl) (.tmp rfl .nil))), none, 0, 0, [], [], 0, none, 0, 0, [], [], none, 0, 0, [], [], none, 0, 0, [], [], none, 0, 0, [], [], e5, rfl, m14.pick [4, 3, 2, 1, 0] (by decide) rfl, (by first | omega | (intro h; omega) | (simp only [List.length_nil, true_and, and_true, or_true, true_or] <;> omega)), (by first | omega | (intro h; omega) | (simp only [List.length_nil, true_and, and_true, or_true, true_or] <;> omega) | (exact .inl (by omega)) | (exact .inr (by omega))), (by first | omega | (intro h; omega) | (simp only [List.length_nil, true_and, and_true, or_true, true_or] <;> omega) | (exact fun _ => by assumption)), (by first | omega | (intro h; omega) | (simp only [List.length_nil, true_and, and_true, or_true, true_or] <;> omega) | exact all_nil | assumption | exact all_take (by assumption)), (by first | omega | (intro h; omega) | (simp only [List.length_nil, true_and, and_true, or_true, true_or] <;> omega))⟩
  · have p5_0t := p5_0 (by omega)
    obtain ⟨p5_0s, p5_0u⟩ := id p5_0t
    obtain ⟨p5_0_i0, p5_0_al, p5_0_b, p5_0_c, p5_0_hb, p5_0_hc, p5_0_hl, p5_0_ha⟩ := id p5_0s
    refine KC.skip ?_
    refine KC.seq ?_
    refine KC.region ?_
    refine KO.pv (PV.assign rfl) rfl rfl ?_
    refine KO.nil ?_
    refine KC.seq ?_
    refine KC.seq ?_
    refine KC.region ?_
    refine KO.pv (PV.fieldAddr fo26_1_B24 rfl) rfl rfl ?_
    refine KO.load1 ag22_B24 rfl (m6.row (i := 1) rfl) rfl rfl rfl ?_
    refine KO.pv (PV.len un22_B24 rfl) rfl rfl ?_
    refine KO.pv (PV.move rfl) rfl rfl ?_
    refine KO.nil ?_
    refine KC.block ?_
    refine KC.sub (l' := [(1, .pointer (some ⟨H.next, 0, none⟩)), (3, .pointer (some ⟨H1.next, 0, none⟩)), (5, .int .i64 n5), (7, .slice none 0 0), (27, .slice a_cL n_cL c_cL), (28, .int .i64 (n_cL : Int)), (29, .int .i64 0)]) (.cons rfl (.cons rfl (.cons rfl (.cons rfl (.cons rfl (.cons rfl (.cons rfl .nil))))))) ?_
    have m15 := m6.lnilC (EI .i64) (e := 3) none rfl
    refine KC.loopN (fun kq lq A => ∃ (a7 : Option Addr) (n7 : Nat) (l7 : List Int) (D7 : List Nat) (x29 : Int), kq = ((n_cL : Int) - x29).toNat ∧ lq = [(1, .pointer (some ⟨H.next, 0, none⟩)), (3, .pointer (some ⟨H1.next, 0, none⟩)), (5, .int .i64 n5), (7, .slice a7 n7 n7), (27, .slice a_cL n_cL c_cL), (28, .int .i64 (n_cL : Int)), (29, .int .i64 x29)] ∧ Mem [] H A [R.lst 3 1 a7 n7 (cells (EI .i64) l7) D7, R.row H1.next 26 true [.int .i64 0, .slice none 0 0, .slice none 0 0, .slice none 0 0, .slice none 0 0], R.row H.next 26 true [.int .i64 ci, .slice a_cL n_cL c_cL, .slice a_cA n_cA c_cA, .slice a_cB n_cB c_cB, .slice a_cC n_cC c_cC]] ∧ (0 ≤ x29 ∧ x29 ≤ (n_cL : Int)) ∧ (l7.length = n7) ∧ (∀ u ∈ l7, (EI .i64).wf u) ∧ (∀ u ∈ l7, LPc cL u) ∧ ((n7 : Int) ≤ x29)) ?_ (((n_cL : Int) - 0).toNat) ⟨none, 0, [], [], 0, rfl, rfl, (m15.pick [0, 1, 2] (by decide) rfl), (by first | omega | assumption | (constructor <;> omega)), (by first | omega | (simp only [splice, List.length_append, List.length_set, List.length_replicate, List.length_map, List.length_take, List.length_drop, List.length_cons, List.length_nil] <;> omega)), (fun _ h => absurd h List.not_mem_nil), all_nil, (by first | omega | (simp only [splice, List.length_append, List.length_set, List.length_replicate, List.length_map, List.length_take, List.length_drop, List.length_cons, List.length_nil] <;> omega))⟩
    rintro kq lq A16 ⟨a7, n7, l7, D7, x29, rfl, rfl, m17, hr6, hl_l7, hw_l7, hlp, hn7⟩
    refine KC.seq ?_
    refine KC.region ?_
    refine KO.pv (PV.lssD rfl rfl rfl) rfl rfl ?_
    refine KO.nil ?_
    refine KC.seq ?_
    refine KC.condD rfl (fun h18 => ?_) (fun h18 => ?_)
    · refine KC.skip ?_
      refine KC.seq ?_
      refine KC.block ?_
      refine KC.seq ?_
      refine KC.region ?_
      refine KO.pv (PV.move rfl) rfl rfl ?_
      obtain ⟨b19, o19, p19, r19, e19, ha19, hb19, hr19, hx19, hw19, hc19, ht19⟩ := V.at_ h_cL (z := x29) (by omega) (by omega)
      have hc19_0 : r19.cs[o19 + (x29).toNat * 2 + 0]? = some (.int .i64 e19.1) := hc19 0 (by decide)
      have hc19_1 : r19.cs[o19 + (x29).toNat * 2 + 1]? = some (.int .i64 e19.2) := hc19 1 (by decide)
      obtain ⟨hwa19, hwb19⟩ := hw19
      obtain ⟨loa19, hia19⟩ := rangei64 hwa19
      obtain ⟨lob19, hib19⟩ := rangei64 hwb19
      have gp5_0_hl_19 := p5_0_hl _ (List.mem_of_getElem? hx19)
      refine KO.pv (PV.indexAddrZ un22_B24 sz150_B24 rfl ha19 rfl (by omega) (by omega)) rfl rfl ?_
      refine KO.loadN ag150_B24 sz150_B24 rfl (m17.row0 hb19 hr19) ht19 rfl rfl ?_
      refine KO.allocM m17 zt150_B24 rfl rfl fun H20 m21 => ?_
      refine KO.pv (PV.assign rfl) rfl rfl ?_
      refine KO.storeM m21 (i := 0) rfl sz150_B24 rfl rfl rfl (show 0 + 2 ≤ 2 by decide) (show _ = [.int .i64 e19.1, .int .i64 e19.2] from rfl) rfl fun H22 m23 => ?_
      refine KO.nil ?_
      refine KC.seq ?_
      refine KC.region ?_
      refine KO.pv (PV.fieldAddr fo150_1_B24 rfl) rfl rfl ?_
      refine KO.load1 ag3_B24 rfl (m23.row (i := 0) rfl) rfl rfl rfl ?_
      refine KO.pv (PV.neqD rfl rfl rfl) rfl rfl ?_
      refine KO.nil ?_
      refine KC.condD rfl (fun h24 => ?_) (fun h24 => ?_)
      · refine KC.region ?_
        refine KO.pv (PV.move rfl) rfl rfl ?_
        refine KO.pv (PV.move rfl) rfl rfl ?_
        refine KO.buildSliceM m23 el24_B24 ez3_B24 rfl rfl (show _ = some [.int .i64 x29] from rfl) rfl rfl fun H25 m26 => ?_
        have hlr : LPc cL x29 := ⟨by omega, by omega, fun p hp => by have hpp := Option.some.inj (hx19.symm.trans hp); subst hpp; omega⟩
        refine KO.appendC (C := (EI .i64)) m26 (i := 2) rfl el24_B24 ez3_B24 sb3_B24 un24_B24 rfl rfl (newElems_row1 (C := (EI .i64)) (y := x29) (m26.row (i := 0) rfl) rfl) rfl (by first | omega | (simp only [splice, List.length_append, List.length_set, List.length_replicate, List.length_map, List.length_take, List.length_drop, List.length_cons, List.length_nil] <;> omega)) rfl rfl fun a28 D29 H27 m30 => ?_
        refine KO.pv (PV.assign rfl) rfl rfl ?_
        refine KO.nil ?_
        refine KC.region ?_
        refine KO.pv (PV.add rfl rfl (wrap64 (by omega) (by omega))) rfl rfl ?_
        refine KO.pv (PV.move rfl) rfl rfl ?_
        refine KO.nil ?_
        exact ⟨_, _, (by omega), (.cons rfl (.cons rfl (.cons rfl (.cons rfl (.cons rfl (.cons rfl (.cons rfl .nil))))))), a28, (n7 + 1), (l7 ++ [x29]), D29, (x29 + 1), rfl, rfl, (m30.pick [2, 3, 4] (by decide) rfl), (by first | omega | assumption | (constructor <;> omega)), (by first | omega | (simp only [splice, List.length_append, List.length_set, List.length_replicate, List.length_map, List.length_take, List.length_drop, List.length_cons, List.length_nil] <;> omega)), (all_app hw_l7 (all_one (wf64 (by omega) (by omega)))), (all_app hlp (all_one (by first | omega | assumption | (constructor <;> omega)))), (by first | omega | (simp only [splice, List.length_append, List.length_set, List.length_replicate, List.length_map, List.length_take, List.length_drop, List.length_cons, List.length_nil] <;> omega))⟩
      · refine KC.skip ?_
        refine KC.region ?_
        refine KO.pv (PV.add rfl rfl (wrap64 (by omega) (by omega))) rfl rfl ?_
        refine KO.pv (PV.move rfl) rfl rfl ?_
        refine KO.nil ?_
        exact ⟨_, _, (by omega), (.cons rfl (.cons rfl (.cons rfl (.cons rfl (.cons rfl (.cons rfl (.cons rfl .nil))))))), a7, n7, l7, D7, (x29 + 1), rfl, rfl, (m23.pick [1, 2, 3] (by decide) rfl), (by first | omega | assumption | (constructor <;> omega)), (by first | omega | (simp only [splice, List.length_append, List.length_set, List.length_replicate, List.length_map, List.length_take, List.length_drop, List.length_cons, List.length_nil] <;> omega)), hw_l7, hlp, (by first | omega | (simp only [splice, List.length_append, List.length_set, List.length_replicate, List.length_map, List.length_take, List.length_drop, List.length_cons, List.length_nil] <;> omega))⟩
    · refine KC.exit ?_
      refine KC.block ?_
      have m31 := m17.lstStk (C := (EI .i64)) (i := 0) rfl (by omega)
      refine KC.sub (l' := [(1, .pointer (some ⟨H.next, 0, none⟩)), (3, .pointer (some ⟨H1.next, 0, none⟩)), (5, .int .i64 n5), (7, .slice a7 n7 n7)]) (.cons rfl (.cons rfl (.cons rfl (.cons rfl .nil)))) ?_
      refine KC.loopN (fun kq lq A => ∃ (a7 : Option Addr) (n7 : Nat) (k7 : Nat) (l7 : List Int) (D7 : List Nat), kq = n7 + 1 ∧ lq = [(1, .pointer (some ⟨H.next, 0, none⟩)), (3, .pointer (some ⟨H1.next, 0, none⟩)), (5, .int .i64 n5), (7, .slice a7 n7 k7)] ∧ Mem [] H A [R.stk (EI .i64) 3 a7 n7 k7 l7 D7, R.row H1.next 26 true [.int .i64 0, .slice none 0 0, .slice none 0 0, .slice none 0 0, .slice none 0 0], R.row H.next 26 true [.int .i64 ci, .slice a_cL n_cL c_cL, .slice a_cA n_cA c_cA, .slice a_cB n_cB c_cB, .slice a_cC n_cC c_cC]] ∧ (l7.length = n7) ∧ (∀ u ∈ l7, (EI .i64).wf u) ∧ (∀ u ∈ l7, LPc cL u) ∧ (n7 ≤ n_cL ∧ n7 ≤ k7)) ?_ (n7 + 1) ⟨a7, n7, n7, l7, D7, rfl, rfl, (m31.pick [0, 1, 2] (by decide) rfl), (by first | omega | (simp only [splice, List.length_append, List.length_set, List.length_replicate, List.length_map, List.length_take, List.length_drop, List.length_cons, List.length_nil] <;> omega)), hw_l7, (by first | assumption | exact hlp | exact fun u hu => hpf u (mem_takeLe hu (by omega)) | exact fun u hu => htk u (splice_takeLe hu (by omega) (by omega) (by omega))), (by first | omega | (simp only [splice, List.length_append, List.length_set, List.length_replicate, List.length_map, List.length_take, List.length_drop, List.length_cons, List.length_nil] <;> omega))⟩
      rintro kq lq A32 ⟨a7, n7, k7, l7, D7, rfl, rfl, m33, hl_l7, hw_l7, hlp, hn7b⟩
      refine KC.block ?_
      refine KC.seq ?_
      refine KC.region ?_
      refine KO.buildSliceM m33 el24_B24 ez3_B24 rfl rfl (show _ = some [.int .i64 (-1)] from rfl) rfl rfl fun H34 m35 => ?_
      refine KO.pv (PV.move rfl) rfl rfl ?_
      refine KO.pv (PV.add rfl rfl (wrap64 (by omega) (by omega))) rfl rfl ?_
      refine KO.call rfl rfl rfl rfl (Repeat_one H34 (some ⟨A32.next, 0, none⟩) 1 _ (n5 + 1) (m35.vrow (E := (EI .i64)) (xs := [(-1)]) (i := 0) rfl (by simp only [List.mem_cons, List.not_mem_nil, or_false, forall_eq_or_imp, forall_eq]; first | exact wfI (by first | decide | (constructor <;> omega)) | (refine ⟨?_, ?_⟩ <;> exact wfI (by constructor <;> omega)) | (refine ⟨?_, ?_, ?_⟩ <;> exact wfI (by constructor <;> omega))) rfl (by decide) (by decide)) (wrap64 (by omega) (by omega)) (by first | omega | assumption)) fun v36 H36 q36 => ?_
      obtain ⟨b36, n36, ys36, hv36, mc36, p36_0, p36_1, p36_2, p36_3⟩ := q36
      dsimp only at hv36 mc36
      subst hv36
      have m37 := m35.seq mc36
      refine KO.pv (PV.assign rfl) rfl rfl ?_
      refine KO.nil ?_
      refine KC.seq ?_
      refine KC.seq ?_
      refine KC.region ?_
      refine KO.pv (PV.move rfl) rfl rfl ?_
      refine KO.pv (PV.len un24_B24 rfl) rfl rfl ?_
      refine KO.pv (PV.move rfl) rfl rfl ?_
      refine KO.nil ?_
      refine KC.block ?_
      refine KC.sub (l' := [(1, .pointer (some ⟨H.next, 0, none⟩)), (3, .pointer (some ⟨H1.next, 0, none⟩)), (5, .int .i64 n5), (7, .slice a7 n7 k7), (10, .slice (some ⟨b36, 0, none⟩) n36 n36), (46, .slice a7 n7 k7), (47, .int .i64 (n7 : Int)), (48, .int .i64 0)]) (.cons rfl (.cons rfl (.cons rfl (.cons rfl (.cons rfl (.cons rfl (.cons rfl (.cons rfl .nil)))))))) ?_
      refine KC.loopN (fun kq lq A => ∃ (x48 : Int) (l10 : List Int), kq = ((n7 : Int) - x48).toNat ∧ lq = [(1, .pointer (some ⟨H.next, 0, none⟩)), (3, .pointer (some ⟨H1.next, 0, none⟩)), (5, .int .i64 n5), (7, .slice a7 n7 k7), (10, .slice (some ⟨b36, 0, none⟩) n36 n36), (46, .slice a7 n7 k7), (47, .int .i64 (n7 : Int)), (48, .int .i64 x48)] ∧ Mem [] H A [R.row b36 3 true (cells (EI .i64) l10), R.stk (EI .i64) 3 a7 n7 k7 l7 D7, R.row H1.next 26 true [.int .i64 0, .slice none 0 0, .slice none 0 0, .slice none 0 0, .slice none 0 0], R.row H.next 26 true [.int .i64 ci, .slice a_cL n_cL c_cL, .slice a_cA n_cA c_cA, .slice a_cB n_cB c_cB, .slice a_cC n_cC c_cC]] ∧ (0 ≤ x48 ∧ x48 ≤ (n7 : Int)) ∧ (∀ (j : Nat) u, l10[j]? = some u → -1 ≤ u ∧ u < 2 * (j : Int) ∧ (0 ≤ u → ci < j)) ∧ (l10.length = n36) ∧ (∀ u ∈ l10, (EI .i64).wf u)) ?_ (((n7 : Int) - 0).toNat) ⟨0, ys36, rfl, rfl, (m37.pick [0, 2, 3, 4] (by decide) rfl), (by first | omega | assumption | (constructor <;> omega)), (fun j u hu => by have h2 := p36_1 u (List.mem_of_getElem? hu); simp at h2; omega), (by first | omega | (simp only [splice, List.length_append, List.length_set, List.length_replicate, List.length_map, List.length_take, List.length_drop, List.length_cons, List.length_nil] <;> omega)), (by assumption)⟩
      rintro kq lq A38 ⟨x48, l10, rfl, rfl, m39, hr13, hgv, hl_l10, hw_l10⟩
      refine KC.seq ?_
      refine KC.region ?_
      refine KO.pv (PV.lssD rfl rfl rfl) rfl rfl ?_
      refine KO.nil ?_
      refine KC.seq ?_
      refine KC.condD rfl (fun h40 => ?_) (fun h40 => ?_)
      · refine KC.skip ?_
        refine KC.seq ?_
        refine KC.block ?_
        refine KC.seq ?_
        refine KC.region ?_
        obtain ⟨b41, o41, p41, r41, e41, ha41, hb41, hr41, hx41, hw41, hc41, ht41⟩ := V.at_ (m39.stkV (i := 1) rfl hw_l7 (by omega)) (z := x48) (by omega) (by omega)
        have hc41_0 : r41.cs[o41 + (x48).toNat * 1 + 0]? = some (.int .i64 e41) := hc41 0 (by decide)
        have hw41 : IntKind.i64.wrap e41 = e41 := hw41
        obtain ⟨lo41, hi41⟩ := rangei64 hw41
        have hlp41 := hlp _ (List.mem_of_getElem? hx41)
        refine KO.pv (PV.indexAddrZ un24_B24 sz3_B24 rfl ha41 rfl (by omega) (by omega)) rfl rfl ?_
        refine KO.load1 ag3_B24 rfl hr41 hc41_0 rfl rfl ?_
        obtain ⟨hu2, hu3, hu4⟩ := hlp41
        refine KO.pv (PV.assign rfl) rfl rfl ?_
        refine KO.nil ?_
        refine KC.drawG (n := 14) (anc := [0, 0, 2, 6, 0, 30, 0, 64, 0, 448, 960, 1984, 4095, 8191]) (hv := [13]) (ord := [0, 1, 2, 3, 4, 5, 6, 7, 8, 9, 10, 11, 12, 13]) (by kernel_rfl) (by kernel_rfl) (by kernel_rfl) (by kernel_rfl) (by kernel_rfl) fun H42 n43 g44 => ?_
        have m45 := m39.room n43 g44 [] (by decide) (by decide)
        refine KD.pv 1 (PV.move rfl) rfl rfl rfl (by kernel_rfl) rfl rfl rfl ?_
        refine KD.pv 3 (PV.fieldAddr fo26_0_B24 rfl) rfl rfl rfl (by kernel_rfl) rfl rfl rfl ?_
        refine KD.load 7 rfl (m45.row (i := 3) rfl) (by rw [read1 ag3_B24]; exact rfl) (pastGo (k := 1) (l := [H42]) (by kernel_rfl) rfl (pastCons ⟨_, (m45.row (i := 3) rfl), (by rw [read1 ag3_B24]; exact rfl)⟩ pastNil)) veq_int rfl (by kernel_rfl) rfl rfl rfl ?_
        refine KD.pv 15 (PV.add rfl rfl (wrap64 (by omega) (by omega))) rfl rfl rfl (by kernel_rfl) rfl rfl rfl ?_
        refine KD.pv 31 (PV.move rfl) rfl rfl rfl (by kernel_rfl) rfl rfl rfl ?_
        refine KD.pv 63 (PV.add rfl rfl (wrap64 (by omega) (by omega))) rfl rfl rfl (by kernel_rfl) rfl rfl rfl ?_
        refine KD.pv 127 (PV.fieldAddr fo26_1_B24 rfl) rfl rfl rfl (by kernel_rfl) rfl rfl rfl ?_
        refine KD.load 255 rfl (m45.row (i := 3) rfl) (by rw [read1 ag22_B24]; exact rfl) (pastGo (k := 1) (l := [H42]) (by kernel_rfl) rfl (pastCons ⟨_, (m45.row (i := 3) rfl), (by rw [read1 ag22_B24]; exact rfl)⟩ pastNil)) veq_sl rfl (by kernel_rfl) rfl rfl rfl ?_
        refine KD.pv 511 (PV.move rfl) rfl rfl rfl (by kernel_rfl) rfl rfl rfl ?_
        obtain ⟨b46, o46, p46, r46, e46, ha46, hb46, hr46, hx46, hw46, hc46, ht46⟩ := V.at_ h_cL (z := e41) (by omega) (by omega)
        have hc46_0 : r46.cs[o46 + (e41).toNat * 2 + 0]? = some (.int .i64 e46.1) := hc46 0 (by decide)
        have hc46_1 : r46.cs[o46 + (e41).toNat * 2 + 1]? = some (.int .i64 e46.2) := hc46 1 (by decide)
        obtain ⟨hwa46, hwb46⟩ := hw46
        obtain ⟨loa46, hia46⟩ := rangei64 hwa46
        obtain ⟨lob46, hib46⟩ := rangei64 hwb46
        have gp5_0_hl_46 := p5_0_hl _ (List.mem_of_getElem? hx46)
        refine KD.pv 1023 (PV.indexAddrZ un22_B24 sz150_B24 rfl ha46 rfl (by omega) (by omega)) rfl rfl rfl (by kernel_rfl) rfl rfl rfl ?_
        refine KD.pv 2047 (PV.fieldAddr fo150_1_B24 rfl) rfl rfl rfl (by kernel_rfl) rfl rfl rfl ?_
        refine KD.load 4095 rfl (m45.row0 hb46 hr46) (by rw [read1 ag3_B24]; exact hc46_1) (pastGo (k := 1) (l := [H42]) (by kernel_rfl) rfl (pastCons ⟨_, (m45.row0 hb46 hr46), (by rw [read1 ag3_B24]; exact hc46_1)⟩ pastNil)) veq_int rfl (by kernel_rfl) rfl rfl rfl ?_
        refine KD.pv 8191 (PV.indexAddrZ un24_B24 sz3_B24 rfl rfl rfl (by omega) (by omega)) rfl rfl rfl (by kernel_rfl) rfl rfl rfl ?_
        have hrs := hu4 _ hx46
        refine KD.storeM 16383 m45 (j := 0) rfl sz3_B24 rfl rfl rfl (cells_room (C := (EI .i64)) (xs := l10) (i := (((ci + 1) + e41)).toNat) (by first | omega | (simp only [splice, List.length_append, List.length_set, List.length_replicate, List.length_map, List.length_take, List.length_drop, List.length_cons, List.length_nil] <;> omega)) rfl) (cells_put0 (C := (EI .i64)) (xs := l10) (i := (((ci + 1) + e41)).toNat) e46.2 (by first | omega | (simp only [splice, List.length_append, List.length_set, List.length_replicate, List.length_map, List.length_take, List.length_drop, List.length_cons, List.length_nil] <;> omega))) rfl (by kernel_rfl) rfl rfl fun H48 m49 => ?_
        refine KD.nil ⟨rfl, ?_⟩
        refine KC.region ?_
        refine KO.pv (PV.add rfl rfl (wrap64 (by omega) (by omega))) rfl rfl ?_
        refine KO.pv (PV.move rfl) rfl rfl ?_
        refine KO.nil ?_
        exact ⟨_, _, (by omega), (.cons rfl (.cons rfl (.cons rfl (.cons rfl (.cons rfl (.cons rfl (.cons rfl (.cons rfl .nil)))))))), (x48 + 1), (l10.set ((((ci + 1) + e41)).toNat) e46.2), rfl, rfl, (m49.pick [0, 1, 2, 3] (by decide) rfl), (by first | omega | assumption | (constructor <;> omega)), (by first | exact hgv | exact idx_set hgv (by omega)), (by first | omega | (simp only [splice, List.length_append, List.length_set, List.length_replicate, List.length_map, List.length_take, List.length_drop, List.length_cons, List.length_nil] <;> omega)), (all_set hw_l10 (wf64 (by omega) (by omega)))⟩
      · refine KC.exit ?_
        refine KC.seq ?_
        refine KC.region ?_
        refine KO.loadN ag26_B24 sz26_B24 rfl (m39.row (i := 3) rfl) (takeN_of (p := [.int .i64 ci, .slice a_cL n_cL c_cL, .slice a_cA n_cA c_cA, .slice a_cB n_cB c_cB, .slice a_cC n_cC c_cC]) rfl  rfl) rfl rfl ?_
        refine KO.pv (PV.move rfl) rfl rfl ?_
        refine KO.call rfl rfl rfl rfl (hash_Build A38 ci a_cL n_cL c_cL _ a_cA n_cA c_cA _ a_cB n_cB c_cB _ a_cC n_cC c_cC _ (some ⟨b36, 0, none⟩) n36 n36 _ (wrap64 (by omega) (by omega)) (V.mem m39 h_cL) (V.mem m39 h_cA) (V.mem m39 h_cB) (V.mem m39 h_cC) (m39.vrow (i := 0) rfl hw_l10 (by first | omega | (simp only [splice, List.length_append, List.length_set, List.length_replicate, List.length_map, List.length_take, List.length_drop, List.length_cons, List.length_nil] <;> omega)) (by omega) (by omega))) fun v50 H50 q50 => ?_
        obtain ⟨r0_50, r1a50, r1n50, r1c50, r1_50, r1D50, r2a50, r2n50, r2c50, r2_50, r2D50, r3a50, r3n50, r3c50, r3_50, r3D50, r4a50, r4n50, r4c50, r4_50, r4D50, ta50, tn50, tc50, t50, tD50, e50, hv50, mc50, p50_0, p50_1, p50_2, p50_3, p50_4⟩ := q50
        dsimp only at hv50 mc50
        subst hv50
        have m51 := m39.seq mc50
        have he50 := p50_3 (by assumption) (by omega) hgv
        obtain ⟨hr50, -⟩ := p50_4 he50
        refine KO.pv (PV.move rfl) rfl rfl ?_
        refine KO.pv (PV.extract rfl rfl) rfl rfl ?_
        refine KO.pv (PV.extract rfl rfl) rfl rfl ?_
        refine KO.pv (PV.extract rfl rfl) rfl rfl ?_
        refine KO.allocM m51 zt26_B24 rfl rfl fun H52 m53 => ?_
        refine KO.storeM m53 (i := 0) rfl sz26_B24 rfl rfl rfl (show 0 + 5 ≤ 5 by decide) (show _ = [.int .i64 r0_50, .slice r1a50 r1n50 r1c50, .slice r2a50 r2n50 r2c50, .slice r3a50 r3n50 r3c50, .slice r4a50 r4n50 r4c50] from rfl) rfl fun H54 m55 => ?_
        refine KO.pv (PV.assign rfl) rfl rfl ?_
        refine KO.pv (PV.assign rfl) rfl rfl ?_
        refine KO.nil ?_
        refine KC.seq ?_
        refine KC.region ?_
        refine KO.pv (PV.move rfl) rfl rfl ?_
        refine KO.pv (PV.len un24_B24 rfl) rfl rfl ?_
        refine KO.pv (PV.assign rfl) rfl rfl ?_
        refine KO.nil ?_
        refine KC.seq ?_
        refine KC.region ?_
        refine KO.pv (PV.move rfl) rfl rfl ?_
        refine KO.pv (PV.makeFunc rfl rfl) rfl rfl ?_
        rcases Nat.eq_zero_or_pos n7 with hz | hp
        · have hpf : ∀ u ∈ l7, LPc cL u := hlp
          refine KO.inline rfl rfl rfl rfl ?_
          refine WF.kg Tryz.func173 rfl rfl ?_
          refine KC.seq ?_
          refine KC.region ?_
          refine KO.pv (PV.assign rfl) rfl rfl ?_
          refine KO.nil ?_
          refine KC.seq ?_
          refine KC.region ?_
          refine KO.pv (PV.move rfl) rfl rfl ?_
          refine KO.pv (PV.move rfl) rfl rfl ?_
          refine KO.call rfl rfl rfl rfl (IndexFunc_int H54 a7 n7 k7 _ 174 [.pointer (some ⟨H50.next, 0, none⟩), .pointer (some ⟨H.next, 0, none⟩)] (fun _ _ => True) (m55.stkV (i := 7) rfl hw_l7 (by omega)) rfl (fun A mA u hu => by
    obtain ⟨hu2, hu3, -⟩ := hpf u hu
    exact (co_find1 A u H50.next _ _ _ _ _ _ _ _ _ _ _ _ _ H.next _ _ _ _ _ _ _ _ _ _ _ _ _ _ _ (wf64 (by omega) (by omega)) (mA.row0 (m55.blt (i := 0) rfl) (m55.row (i := 0) rfl)) (Nat.lt_of_lt_of_le (m55.blt (i := 0) rfl) mA.next) (mA.row0 (m55.blt (i := 9) rfl) (m55.row (i := 9) rfl)) (Nat.lt_of_lt_of_le (m55.blt (i := 9) rfl) mA.next) (V.mem mA (m55.vown (i := 1) rfl)) (V.mem mA (V.mem m55 h_cL)) (by omega)).mono fun q hq => by obtain ⟨o, h1, h2⟩ := hq; exact ⟨o, h1, h2, trivial⟩)) fun v56 H56 q56 => ?_
          obtain ⟨z56, hv56, mc56, p56_0, p56_1, p56_2⟩ := q56
          dsimp only at hv56 mc56
          subst hv56
          have m57 := m55.seq mc56
          refine KO.pv (PV.assign rfl) rfl rfl ?_
          refine KO.nil ?_
          refine KC.seq ?_
          refine KC.seq ?_
          refine KC.region ?_
          refine KO.pv (PV.move rfl) rfl rfl ?_
          refine KO.pv (PV.eqlD rfl rfl rfl) rfl rfl ?_
          refine KO.nil ?_
          refine KC.condD rfl (fun h58 => ?_) (fun h58 => ?_)
          · refine KC.seq ?_
            refine KC.region ?_
            refine KO.pv (PV.move rfl) rfl rfl ?_
            refine KO.pv (PV.assign rfl) rfl rfl ?_
            refine KO.nil ?_
            refine KC.ret ⟨rfl, _, (.tmp rfl .nil), ?_⟩
            refine KO.pv (PV.assign rfl) rfl rfl ?_
            refine KO.nil ?_
            refine KC.seq ?_
            refine KC.region ?_
            refine KO.pv (PV.move rfl) rfl rfl ?_
            refine KO.pv (PV.len un24_B24 rfl) rfl rfl ?_
            refine KO.pv (PV.move rfl) rfl rfl ?_
            refine KO.pv (PV.eqlD rfl rfl rfl) rfl rfl ?_
            refine KO.nil ?_
            refine KC.condD rfl (fun h59 => ?_) (fun h59 => ?_)
            · refine KC.seq ?_
              refine KC.drawG (n := 5) (anc := [0, 0, 1, 7, 15]) (hv := [3]) (ord := [0, 1, 2, 3, 4]) (by kernel_rfl) (by kernel_rfl) (by kernel_rfl) (by kernel_rfl) (by kernel_rfl) fun H60 n61 g62 => ?_
              have m63 := m57.room n61 g62 [] (by decide) (by decide)
              refine KD.pv 1 (PV.move rfl) rfl rfl rfl (by kernel_rfl) rfl rfl rfl ?_
              refine KD.load 3 rfl (m63.row (i := 0) rfl) (readN ag26_B24 sz26_B24 (takeN_of (p := [.int .i64 r0_50, .slice r1a50 r1n50 r1c50, .slice r2a50 r2n50 r2c50, .slice r3a50 r3n50 r3c50, .slice r4a50 r4n50 r4c50]) rfl  rfl)) (pastGo (k := 1) (l := [H60]) (by kernel_rfl) rfl (pastCons ⟨_, (m63.row (i := 0) rfl), (readN ag26_B24 sz26_B24 (takeN_of (p := [.int .i64 r0_50, .slice r1a50 r1n50 r1c50, .slice r2a50 r2n50 r2c50, .slice r3a50 r3n50 r3c50, .slice r4a50 r4n50 r4c50]) rfl  rfl))⟩ pastNil)) (veq_agg (veqCons veqI (veqCons veqS (veqCons veqS (veqCons veqS (veqCons veqS veqNil)))))) rfl (by kernel_rfl) rfl rfl rfl ?_
              refine KD.pv 7 (PV.assign rfl) rfl rfl rfl (by kernel_rfl) rfl rfl rfl ?_
              refine KD.storeM 15 m63 (j := 8) rfl sz26_B24 rfl rfl rfl (show 0 + 5 ≤ 5 by decide) (show _ = [.int .i64 r0_50, .slice r1a50 r1n50 r1c50, .slice r2a50 r2n50 r2c50, .slice r3a50 r3n50 r3c50, .slice r4a50 r4n50 r4c50] from rfl) rfl (by kernel_rfl) rfl rfl fun H64 m65 => ?_
              refine KD.pv 31 (PV.assign rfl) rfl rfl rfl (by kernel_rfl) rfl rfl rfl ?_
              refine KD.nil ⟨rfl, ?_⟩
              have m66 := m65.stkOwn (C := (EI .i64)) (i := 7) rfl hw_l7 (by omega)
              exact KC.ret ⟨rfl, _, (.tmp rfl (.cell rfl (ldN (m65.row (i := 8) rfl) ag26_B24 sz26_B24 rfl rfl) (.tmp rfl .nil))), a7, n7, k7, l7, D7, r0_50, r1a50, r1n50, r1c50, r1_50, r1D50, r2a50, r2n50, r2c50, r2_50, r2D50, r3a50, r3n50, r3c50, r3_50, r3D50, r4a50, r4n50, r4c50, r4_50, r4D50, 0, rfl, m66.pick [7, 1, 2, 3, 4] (by decide) rfl, (by first | omega | (intro h; omega) | (simp only [List.length_nil, true_and, and_true, or_true, true_or] <;> omega)), (by first | omega | (intro h; omega) | (simp only [List.length_nil, true_and, and_true, or_true, true_or] <;> omega) | (exact .inl (by omega)) | (exact .inr (by omega))), (by first | omega | (intro h; omega) | (simp only [List.length_nil, true_and, and_true, or_true, true_or] <;> omega) | (exact fun _ => by assumption)), (by first | omega | (intro h; omega) | (simp only [List.length_nil, true_and, and_true, or_true, true_or] <;> omega) | exact all_nil | assumption | exact all_take (by assumption)), (by first | omega | (intro h; omega) | (simp only [List.length_nil, true_and, and_true, or_true, true_or] <;> omega))⟩
            · refine KC.skip ?_
              exact ⟨_, _, (by omega), (.cons rfl (.cons rfl (.cons rfl (.cons rfl .nil)))), a7, n7, k7, l7, D7, rfl, rfl, (m57.pick [7, 8, 9] (by decide) rfl), (by first | omega | (simp only [splice, List.length_append, List.length_set, List.length_replicate, List.length_map, List.length_take, List.length_drop, List.length_cons, List.length_nil] <;> omega)), hw_l7, (by first | assumption | exact hlp | exact fun u hu => hpf u (mem_takeLe hu (by omega)) | exact fun u hu => htk u (splice_takeLe hu (by omega) (by omega) (by omega))), (by first | omega | (simp only [splice, List.length_append, List.length_set, List.length_replicate, List.length_map, List.length_take, List.length_drop, List.length_cons, List.length_nil] <;> omega))⟩
          · omega
        · obtain ⟨b67, z67, ea67, eD67, hl67, ht67, hle67, hc67, hwz67, m67⟩ := m55.stkRow (i := 7) rfl hw_l7 hp
          subst ea67 eD67
          have hpf : ∀ u ∈ z67.take n7, LPc cL u := by rw [ht67]; exact hlp
          refine KO.inline rfl rfl rfl rfl ?_
          refine WF.kg Tryz.func173 rfl rfl ?_
          refine KC.seq ?_
          refine KC.region ?_
          refine KO.pv (PV.assign rfl) rfl rfl ?_
          refine KO.nil ?_
          refine KC.seq ?_
          refine KC.region ?_
          refine KO.pv (PV.move rfl) rfl rfl ?_
          refine KO.pv (PV.move rfl) rfl rfl ?_
          refine KO.call rfl rfl rfl rfl (IndexFunc_int H54 (some ⟨b67, 0, some 1⟩) n7 k7 _ 174 [.pointer (some ⟨H50.next, 0, none⟩), .pointer (some ⟨H.next, 0, none⟩)] (fun _ _ => True) (V.take (m67.vrow (i := 7) (n := k7) (c := k7) rfl (by assumption) (by first | omega | (simp only [splice, List.length_append, List.length_set, List.length_replicate, List.length_map, List.length_take, List.length_drop, List.length_cons, List.length_nil] <;> omega)) (by omega) (by omega)) (m := n7) (by omega) (by omega)) rfl (fun A mA u hu => by
    obtain ⟨hu2, hu3, -⟩ := hpf u hu
    exact (co_find1 A u H50.next _ _ _ _ _ _ _ _ _ _ _ _ _ H.next _ _ _ _ _ _ _ _ _ _ _ _ _ _ _ (wf64 (by omega) (by omega)) (mA.row0 (m67.blt (i := 0) rfl) (m67.row (i := 0) rfl)) (Nat.lt_of_lt_of_le (m67.blt (i := 0) rfl) mA.next) (mA.row0 (m67.blt (i := 9) rfl) (m67.row (i := 9) rfl)) (Nat.lt_of_lt_of_le (m67.blt (i := 9) rfl) mA.next) (V.mem mA (m67.vown (i := 1) rfl)) (V.mem mA (V.mem m67 h_cL)) (by omega)).mono fun q hq => by obtain ⟨o, h1, h2⟩ := hq; exact ⟨o, h1, h2, trivial⟩)) fun v68 H68 q68 => ?_
          obtain ⟨z68, hv68, mc68, p68_0, p68_1, p68_2⟩ := q68
          dsimp only at hv68 mc68
          subst hv68
          have m69 := m67.seq mc68
          refine KO.pv (PV.assign rfl) rfl rfl ?_
          refine KO.nil ?_
          refine KC.seq ?_
          refine KC.seq ?_
          refine KC.region ?_
          refine KO.pv (PV.move rfl) rfl rfl ?_
          refine KO.pv (PV.eqlD rfl rfl rfl) rfl rfl ?_
          refine KO.nil ?_
          refine KC.condD rfl (fun h70 => ?_) (fun h70 => ?_)
          · refine KC.seq ?_
            refine KC.region ?_
            refine KO.pv (PV.move rfl) rfl rfl ?_
            refine KO.pv (PV.assign rfl) rfl rfl ?_
            refine KO.nil ?_
            refine KC.ret ⟨rfl, _, (.tmp rfl .nil), ?_⟩
            have m71 := m69.rowStk (C := (EI .i64)) (i := 7) (j := n7) (c := k7) rfl (by first | omega | (simp only [splice, List.length_append, List.length_set, List.length_replicate, List.length_map, List.length_take, List.length_drop, List.length_cons, List.length_nil] <;> omega)) (by omega) (by omega) (by assumption)
            refine KO.pv (PV.assign rfl) rfl rfl ?_
            refine KO.nil ?_
            refine KC.seq ?_
            refine KC.region ?_
            refine KO.pv (PV.move rfl) rfl rfl ?_
            refine KO.pv (PV.len un24_B24 rfl) rfl rfl ?_
            refine KO.pv (PV.move rfl) rfl rfl ?_
            refine KO.pv (PV.eqlD rfl rfl rfl) rfl rfl ?_
            refine KO.nil ?_
            refine KC.condD rfl (fun h72 => ?_) (fun h72 => ?_)
            · refine KC.seq ?_
              refine KC.drawG (n := 5) (anc := [0, 0, 1, 7, 15]) (hv := [3]) (ord := [0, 1, 2, 3, 4]) (by kernel_rfl) (by kernel_rfl) (by kernel_rfl) (by kernel_rfl) (by kernel_rfl) fun H73 n74 g75 => ?_
              have m76 := m71.room n74 g75 [] (by decide) (by decide)
              refine KD.pv 1 (PV.move rfl) rfl rfl rfl (by kernel_rfl) rfl rfl rfl ?_
              refine KD.load 3 rfl (m76.row (i := 0) rfl) (readN ag26_B24 sz26_B24 (takeN_of (p := [.int .i64 r0_50, .slice r1a50 r1n50 r1c50, .slice r2a50 r2n50 r2c50, .slice r3a50 r3n50 r3c50, .slice r4a50 r4n50 r4c50]) rfl  rfl)) (pastGo (k := 1) (l := [H73]) (by kernel_rfl) rfl (pastCons ⟨_, (m76.row (i := 0) rfl), (readN ag26_B24 sz26_B24 (takeN_of (p := [.int .i64 r0_50, .slice r1a50 r1n50 r1c50, .slice r2a50 r2n50 r2c50, .slice r3a50 r3n50 r3c50, .slice r4a50 r4n50 r4c50]) rfl  rfl))⟩ pastNil)) (veq_agg (veqCons veqI (veqCons veqS (veqCons veqS (veqCons veqS (veqCons veqS veqNil)))))) rfl (by kernel_rfl) rfl rfl rfl ?_
              refine KD.pv 7 (PV.assign rfl) rfl rfl rfl (by kernel_rfl) rfl rfl rfl ?_
              refine KD.storeM 15 m76 (j := 8) rfl sz26_B24 rfl rfl rfl (show 0 + 5 ≤ 5 by decide) (show _ = [.int .i64 r0_50, .slice r1a50 r1n50 r1c50, .slice r2a50 r2n50 r2c50, .slice r3a50 r3n50 r3c50, .slice r4a50 r4n50 r4c50] from rfl) rfl (by kernel_rfl) rfl rfl fun H77 m78 => ?_
              refine KD.pv 31 (PV.assign rfl) rfl rfl rfl (by kernel_rfl) rfl rfl rfl ?_
              refine KD.nil ⟨rfl, ?_⟩
              have m79 := m78.stkOwn (C := (EI .i64)) (i := 7) rfl (all_take (by assumption)) (by omega)
              exact KC.ret ⟨rfl, _, (.tmp rfl (.cell rfl (ldN (m78.row (i := 8) rfl) ag26_B24 sz26_B24 rfl rfl) (.tmp rfl .nil))), (some ⟨b67, 0, some 1⟩), n7, k7, (z67.take n7), [b67], r0_50, r1a50, r1n50, r1c50, r1_50, r1D50, r2a50, r2n50, r2c50, r2_50, r2D50, r3a50, r3n50, r3c50, r3_50, r3D50, r4a50, r4n50, r4c50, r4_50, r4D50, 0, rfl, m79.pick [7, 1, 2, 3, 4] (by decide) rfl, (by first | omega | (intro h; omega) | (simp only [List.length_nil, true_and, and_true, or_true, true_or] <;> omega)), (by first | omega | (intro h; omega) | (simp only [List.length_nil, true_and, and_true, or_true, true_or] <;> omega) | (exact .inl (by omega)) | (exact .inr (by omega))), (by first | omega | (intro h; omega) | (simp only [List.length_nil, true_and, and_true, or_true, true_or] <;> omega) | (exact fun _ => by assumption)), (by first | omega | (intro h; omega) | (simp only [List.length_nil, true_and, and_true, or_true, true_or] <;> omega) | exact all_nil | assumption | exact all_take (by assumption)), (by first | omega | (intro h; omega) | (simp only [List.length_nil, true_and, and_true, or_true, true_or] <;> omega))⟩
            · refine KC.skip ?_
              exact ⟨_, _, (by omega), (.cons rfl (.cons rfl (.cons rfl (.cons rfl .nil)))), (some ⟨b67, 0, some 1⟩), n7, k7, (z67.take n7), [b67], rfl, rfl, (m71.pick [7, 8, 9] (by decide) rfl), (by first | omega | (simp only [splice, List.length_append, List.length_set, List.length_replicate, List.length_map, List.length_take, List.length_drop, List.length_cons, List.length_nil] <;> omega)), (all_take (by assumption)), (by first | assumption | exact hlp | exact fun u hu => hpf u (mem_takeLe hu (by omega)) | exact fun u hu => htk u (splice_takeLe hu (by omega) (by omega) (by omega))), (by first | omega | (simp only [splice, List.length_append, List.length_set, List.length_replicate, List.length_map, List.length_take, List.length_drop, List.length_cons, List.length_nil] <;> omega))⟩
          · refine KC.skip ?_
            refine KC.seq ?_
            refine KC.seq ?_
            refine KC.region ?_
            refine KO.pv (PV.move rfl) rfl rfl ?_
            refine KO.pv (PV.add rfl rfl (wrap64 (by omega) (by omega))) rfl rfl ?_
            refine KO.pv (PV.assign rfl) rfl rfl ?_
            refine KO.nil ?_
            refine KC.block ?_
            refine KC.sub (l' := [(0, .slice (some ⟨b67, 0, some 1⟩) n7 k7), (1, .func (.func 174) #[] #[.pointer (some ⟨H50.next, 0, none⟩), .pointer (some ⟨H.next, 0, none⟩)]), (5, .int .i64 z68), (6, .int .i64 (z68 + 1))]) (.cons rfl (.cons rfl (.cons rfl (.cons rfl .nil)))) ?_
            refine KC.loopN (fun kq lq A => ∃ (xq5 : Int) (xq6 : Int) (lq0 : List Int), kq = ((n7 : Int) - xq6).toNat ∧ lq = [(0, .slice (some ⟨b67, 0, some 1⟩) n7 k7), (1, .func (.func 174) #[] #[.pointer (some ⟨H50.next, 0, none⟩), .pointer (some ⟨H.next, 0, none⟩)]), (5, .int .i64 xq5), (6, .int .i64 xq6)] ∧ Mem [] H A [R.row H50.next 26 true [.int .i64 r0_50, .slice r1a50 r1n50 r1c50, .slice r2a50 r2n50 r2c50, .slice r3a50 r3n50 r3c50, .slice r4a50 r4n50 r4c50], R.own EP r1a50 r1n50 r1c50 r1_50 r1D50, R.own EP r2a50 r2n50 r2c50 r2_50 r2D50, R.own (EI .i64) r3a50 r3n50 r3c50 r3_50 r3D50, R.own (EI .i64) r4a50 r4n50 r4c50 r4_50 r4D50, R.own (EI .i64) ta50 tn50 tc50 t50 tD50, R.row b36 3 true (cells (EI .i64) l10), R.row b67 3 false (cells (EI .i64) lq0), R.row H1.next 26 true [.int .i64 0, .slice none 0 0, .slice none 0 0, .slice none 0 0, .slice none 0 0], R.row H.next 26 true [.int .i64 ci, .slice a_cL n_cL c_cL, .slice a_cA n_cA c_cA, .slice a_cB n_cB c_cB, .slice a_cC n_cC c_cC]] ∧ (∀ u ∈ lq0.take n7, LPc cL u) ∧ (0 ≤ xq5 ∧ xq5 < xq6 ∧ xq6 ≤ n7) ∧ (lq0.length = k7) ∧ (∀ u ∈ lq0, (EI .i64).wf u)) ?_ (((n7 : Int) - (z68 + 1)).toNat) ⟨z68, (z68 + 1), z67, rfl, rfl, (m69.pick [0, 1, 2, 3, 4, 5, 6, 7, 8, 9] (by decide) rfl), hpf, (by first | omega | assumption | (constructor <;> omega)), (by first | omega | (simp only [splice, List.length_append, List.length_set, List.length_replicate, List.length_map, List.length_take, List.length_drop, List.length_cons, List.length_nil] <;> omega)), (by assumption)⟩
            rintro kq lq A98 ⟨xq5, xq6, lq0, rfl, rfl, m99, htk, hq56, hl_lq0, hw_lq0⟩
            refine KC.seq ?_
            refine KC.seq ?_
            refine KC.region ?_
            refine KO.pv (PV.move rfl) rfl rfl ?_
            refine KO.pv (PV.move rfl) rfl rfl ?_
            refine KO.pv (PV.len un24_B24 rfl) rfl rfl ?_
            refine KO.pv (PV.lssD rfl rfl rfl) rfl rfl ?_
            refine KO.nil ?_
            refine KC.condD rfl (fun h100 => ?_) (fun h100 => ?_)
            · refine KC.skip ?_
              refine KC.seq ?_
              refine KC.block ?_
              refine KC.seq ?_
              refine KC.region ?_
              refine KO.pv (PV.move rfl) rfl rfl ?_
              refine KO.pv (PV.move rfl) rfl rfl ?_
              refine KO.pv (PV.indexAddrZ un24_B24 sz3_B24 rfl rfl rfl (by omega) (by omega)) rfl rfl ?_
              obtain ⟨e102, hx102⟩ : ∃ x, (lq0)[(xq6).toNat]? = some x := ⟨_, List.getElem?_eq_getElem (by first | omega | (simp only [splice, List.length_append, List.length_set, List.length_replicate, List.length_map, List.length_take, List.length_drop, List.length_cons, List.length_nil] <;> omega))⟩
              have hw102 := hw_lq0 _ (List.mem_of_getElem? hx102)
              have hw102 : IntKind.i64.wrap e102 = e102 := hw102
              obtain ⟨lo102, hi102⟩ := rangei64 hw102
              refine KO.load1 ag3_B24 rfl (m99.row (i := 7) rfl) (cells_at1 hx102 rfl) rfl rfl ?_
              obtain ⟨hu2, hu3, hu4⟩ := htk _ (mem_takeI hx102 (by omega))
              refine KO.pv (PV.assign rfl) rfl rfl ?_
              refine KO.nil ?_
              refine KC.seq ?_
              refine KC.region ?_
              refine KO.pv (PV.move rfl) rfl rfl ?_
              refine KO.pv (PV.move rfl) rfl rfl ?_
              refine KO.callV rfl rfl rfl rfl rfl (co_find1 A98 e102 H50.next _ _ _ _ _ _ _ _ _ _ _ _ _ H.next _ _ _ _ _ _ _ _ _ _ _ _ _ _ _ (wrap64 (by omega) (by omega)) (m99.row (i := 0) rfl) (m99.blt (i := 0) rfl) (m99.row (i := 9) rfl) (m99.blt (i := 9) rfl) (m99.vown (i := 1) rfl) (V.mem m99 h_cL) (by first | omega | assumption)) fun v103 H103 q103 => ?_
              obtain ⟨o103, hv103, mc103⟩ := q103
              dsimp only at hv103 mc103
              subst hv103
              have m104 := m99.seq mc103
              rcases Bool.eq_false_or_eq_true o103 with h105 | h105
              · subst h105
                refine KO.pv (PV.notB rfl rfl) rfl rfl ?_
                refine KO.nil ?_
                refine KC.condF rfl ?_
                refine KC.skip ?_
                refine KC.region ?_
                refine KO.pv (PV.move rfl) rfl rfl ?_
                refine KO.pv (PV.add rfl rfl (wrap64 (by omega) (by omega))) rfl rfl ?_
                refine KO.pv (PV.assign rfl) rfl rfl ?_
                refine KO.nil ?_
                exact ⟨_, _, (by omega), (.cons rfl (.cons rfl (.cons rfl (.cons rfl .nil)))), xq5, (xq6 + 1), lq0, rfl, rfl, (m104.pick [0, 1, 2, 3, 4, 5, 6, 7, 8, 9] (by decide) rfl), (by first | exact htk | exact take_set_all htk ⟨hu2, hu3, hu4⟩), (by first | omega | assumption | (constructor <;> omega)), (by first | omega | (simp only [splice, List.length_append, List.length_set, List.length_replicate, List.length_map, List.length_take, List.length_drop, List.length_cons, List.length_nil] <;> omega)), hw_lq0⟩
              · subst h105
                refine KO.pv (PV.notB rfl rfl) rfl rfl ?_
                refine KO.nil ?_
                refine KC.condT rfl ?_
                refine KC.seq ?_
                refine KC.region ?_
                refine KO.pv (PV.move rfl) rfl rfl ?_
                refine KO.pv (PV.move rfl) rfl rfl ?_
                refine KO.pv (PV.move rfl) rfl rfl ?_
                refine KO.pv (PV.indexAddrZ un24_B24 sz3_B24 rfl rfl rfl (by omega) (by omega)) rfl rfl ?_
                refine KO.storeM m104 (i := 7) rfl sz3_B24 rfl rfl rfl (cells_room (C := (EI .i64)) (xs := lq0) (i := (xq5).toNat) (by first | omega | (simp only [splice, List.length_append, List.length_set, List.length_replicate, List.length_map, List.length_take, List.length_drop, List.length_cons, List.length_nil] <;> omega)) rfl) (cells_put0 (C := (EI .i64)) (xs := lq0) (i := (xq5).toNat) e102 (by first | omega | (simp only [splice, List.length_append, List.length_set, List.length_replicate, List.length_map, List.length_take, List.length_drop, List.length_cons, List.length_nil] <;> omega))) rfl fun H107 m108 => ?_
                refine KO.nil ?_
                refine KC.region ?_
                refine KO.pv (PV.move rfl) rfl rfl ?_
                refine KO.pv (PV.add rfl rfl (wrap64 (by omega) (by omega))) rfl rfl ?_
                refine KO.pv (PV.assign rfl) rfl rfl ?_
                refine KO.nil ?_
                refine KC.region ?_
                refine KO.pv (PV.move rfl) rfl rfl ?_
                refine KO.pv (PV.add rfl rfl (wrap64 (by omega) (by omega))) rfl rfl ?_
                refine KO.pv (PV.assign rfl) rfl rfl ?_
                refine KO.nil ?_
                exact ⟨_, _, (by omega), (.cons rfl (.cons rfl (.cons rfl (.cons rfl .nil)))), (xq5 + 1), (xq6 + 1), (lq0.set ((xq5).toNat) e102), rfl, rfl, (m108.pick [0, 1, 2, 3, 4, 5, 6, 7, 8, 9] (by decide) rfl), (by first | exact htk | exact take_set_all htk ⟨hu2, hu3, hu4⟩), (by first | omega | assumption | (constructor <;> omega)), (by first | omega | (simp only [splice, List.length_append, List.length_set, List.length_replicate, List.length_map, List.length_take, List.length_drop, List.length_cons, List.length_nil] <;> omega)), (all_set hw_lq0 (wf64 (by omega) (by omega)))⟩
            · refine KC.exit ?_
              refine KC.seq ?_
              refine KC.region ?_
              refine KO.pv (PV.move rfl) rfl rfl ?_
              refine KO.pv (PV.move rfl) rfl rfl ?_
              refine KO.pv (PV.slice rfl (fun _ h => by cases h; exact ⟨_, rfl, rfl⟩) (fun h => by cases h) (fun _ h => by cases h) (fun _ => rfl) (fun _ h => by cases h) (fun _ => rfl) (sliceQ un24_B24 sz3_B24 (boundA_int (by omega) (by omega)) (by omega))) rfl rfl ?_
              refine KO.clearM (C := (EI .i64)) (l0 := ((xq5).toNat)) 0 m99 (i := 7) rfl el24_B24 ez3_B24 rfl (by first | omega | (simp only [splice, List.length_append, List.length_set, List.length_replicate, List.length_map, List.length_take, List.length_drop, List.length_cons, List.length_nil] <;> omega)) rfl fun H109 m110 => ?_
              refine KO.nil ?_
              refine KC.seq ?_
              refine KC.region ?_
              refine KO.pv (PV.move rfl) rfl rfl ?_
              refine KO.pv (PV.move rfl) rfl rfl ?_
              refine KO.pv (PV.slice rfl (fun _ h => by cases h) (fun _ => rfl) (fun _ h => by cases h; exact ⟨_, rfl, rfl⟩) (fun h => by cases h) (fun _ h => by cases h) (fun _ => rfl) (sliceTo un24_B24 sz3_B24 (V.take (m110.vrow (i := 7) (n := k7) (c := k7) rfl (all_splice hw_lq0 (all_rep (wf64 (by omega) (by omega)))) (by first | omega | (simp only [splice, List.length_append, List.length_set, List.length_replicate, List.length_map, List.length_take, List.length_drop, List.length_cons, List.length_nil] <;> omega)) (by omega) (by omega)) (m := n7) (by omega) (by omega)) (by omega) (by omega))) rfl rfl ?_
              refine KO.pv (PV.assign rfl) rfl rfl ?_
              refine KO.nil ?_
              refine KC.ret ⟨rfl, _, (.tmp rfl .nil), ?_⟩
              have m111 := m110.rowStk (C := (EI .i64)) (i := 7) (j := (xq5).toNat) (c := k7) rfl (by first | omega | (simp only [splice, List.length_append, List.length_set, List.length_replicate, List.length_map, List.length_take, List.length_drop, List.length_cons, List.length_nil] <;> omega)) (by omega) (by omega) (all_splice hw_lq0 (all_rep (wf64 (by omega) (by omega))))
              refine KO.pv (PV.assign rfl) rfl rfl ?_
              refine KO.nil ?_
              refine KC.seq ?_
              refine KC.region ?_
              refine KO.pv (PV.move rfl) rfl rfl ?_
              refine KO.pv (PV.len un24_B24 rfl) rfl rfl ?_
              refine KO.pv (PV.move rfl) rfl rfl ?_
              refine KO.pv (PV.eqlD rfl rfl rfl) rfl rfl ?_
              refine KO.nil ?_
              refine KC.condD rfl (fun h112 => ?_) (fun h112 => ?_)
              · refine KC.seq ?_
                refine KC.drawG (n := 5) (anc := [0, 0, 1, 7, 15]) (hv := [3]) (ord := [0, 1, 2, 3, 4]) (by kernel_rfl) (by kernel_rfl) (by kernel_rfl) (by kernel_rfl) (by kernel_rfl) fun H113 n114 g115 => ?_
                have m116 := m111.room n114 g115 [] (by decide) (by decide)
                refine KD.pv 1 (PV.move rfl) rfl rfl rfl (by kernel_rfl) rfl rfl rfl ?_
                refine KD.load 3 rfl (m116.row (i := 0) rfl) (readN ag26_B24 sz26_B24 (takeN_of (p := [.int .i64 r0_50, .slice r1a50 r1n50 r1c50, .slice r2a50 r2n50 r2c50, .slice r3a50 r3n50 r3c50, .slice r4a50 r4n50 r4c50]) rfl  rfl)) (pastGo (k := 1) (l := [H113]) (by kernel_rfl) rfl (pastCons ⟨_, (m116.row (i := 0) rfl), (readN ag26_B24 sz26_B24 (takeN_of (p := [.int .i64 r0_50, .slice r1a50 r1n50 r1c50, .slice r2a50 r2n50 r2c50, .slice r3a50 r3n50 r3c50, .slice r4a50 r4n50 r4c50]) rfl  rfl))⟩ pastNil)) (veq_agg (veqCons veqI (veqCons veqS (veqCons veqS (veqCons veqS (veqCons veqS veqNil)))))) rfl (by kernel_rfl) rfl rfl rfl ?_
                refine KD.pv 7 (PV.assign rfl) rfl rfl rfl (by kernel_rfl) rfl rfl rfl ?_
                refine KD.storeM 15 m116 (j := 8) rfl sz26_B24 rfl rfl rfl (show 0 + 5 ≤ 5 by decide) (show _ = [.int .i64 r0_50, .slice r1a50 r1n50 r1c50, .slice r2a50 r2n50 r2c50, .slice r3a50 r3n50 r3c50, .slice r4a50 r4n50 r4c50] from rfl) rfl (by kernel_rfl) rfl rfl fun H117 m118 => ?_
                refine KD.pv 31 (PV.assign rfl) rfl rfl rfl (by kernel_rfl) rfl rfl rfl ?_
                refine KD.nil ⟨rfl, ?_⟩
                have m119 := m118.stkOwn (C := (EI .i64)) (i := 7) rfl (all_take (all_splice hw_lq0 (all_rep (wf64 (by omega) (by omega))))) (by omega)
                exact KC.ret ⟨rfl, _, (.tmp rfl (.cell rfl (ldN (m118.row (i := 8) rfl) ag26_B24 sz26_B24 rfl rfl) (.tmp rfl .nil))), (some ⟨b67, 0, some 1⟩), ((xq5).toNat), k7, ((splice lq0 ((xq5).toNat) (List.replicate (n7 - (xq5).toNat) 0)).take ((xq5).toNat)), [b67], r0_50, r1a50, r1n50, r1c50, r1_50, r1D50, r2a50, r2n50, r2c50, r2_50, r2D50, r3a50, r3n50, r3c50, r3_50, r3D50, r4a50, r4n50, r4c50, r4_50, r4D50, 0, rfl, m119.pick [7, 1, 2, 3, 4] (by decide) rfl, (by first | omega | (intro h; omega) | (simp only [List.length_nil, true_and, and_true, or_true, true_or] <;> omega)), (by first | omega | (intro h; omega) | (simp only [List.length_nil, true_and, and_true, or_true, true_or] <;> omega) | (exact .inl (by omega)) | (exact .inr (by omega))), (by first | omega | (intro h; omega) | (simp only [List.length_nil, true_and, and_true, or_true, true_or] <;> omega) | (exact fun _ => by assumption)), (by first | omega | (intro h; omega) | (simp only [List.length_nil, true_and, and_true, or_true, true_or] <;> omega) | exact all_nil | assumption | exact all_take (by assumption)), (by first | omega | (intro h; omega) | (simp only [List.length_nil, true_and, and_true, or_true, true_or] <;> omega))⟩
              · refine KC.skip ?_
                exact ⟨_, _, (by omega), (.cons rfl (.cons rfl (.cons rfl (.cons rfl .nil)))), (some ⟨b67, 0, some 1⟩), ((xq5).toNat), k7, ((splice lq0 ((xq5).toNat) (List.replicate (n7 - (xq5).toNat) 0)).take ((xq5).toNat)), [b67], rfl, rfl, (m111.pick [7, 8, 9] (by decide) rfl), (by first | omega | (simp only [splice, List.length_append, List.length_set, List.length_replicate, List.length_map, List.length_take, List.length_drop, List.length_cons, List.length_nil] <;> omega)), (all_take (all_splice hw_lq0 (all_rep (wf64 (by omega) (by omega))))), (by first | assumption | exact hlp | exact fun u hu => hpf u (mem_takeLe hu (by omega)) | exact fun u hu => htk u (splice_takeLe hu (by omega) (by omega) (by omega))), (by first | omega | (simp only [splice, List.length_append, List.length_set, List.length_replicate, List.length_map, List.length_take, List.length_drop, List.length_cons, List.length_nil] <;> omega))⟩
theorem co_Stay (H : AHeap) (ci : Int) (a_cL : Option Addr) (n_cL c_cL : Nat) (cL : List (Int × Int)) (a_cA : Option Addr) (n_cA c_cA : Nat) (cA : List (Int × Int)) (a_cB : Option Addr) (n_cB c_cB : Nat) (cB : List Int) (a_cC : Option Addr) (n_cC c_cC : Nat) (cC : List Int) (w_ci : IntKind.i64.wrap ci = ci) (h_cL : V EP H a_cL n_cL c_cL cL) (h_cA : V EP H a_cA n_cA c_cA cA) (h_cB : V (EI .i64) H a_cB n_cB c_cB cB) (h_cC : V (EI .i64) H a_cC n_cC c_cC cC) : WF E0 57 [.agg #[.int .i64 ci, .slice a_cL n_cL c_cL, .slice a_cA n_cA c_cA, .slice a_cB n_cB c_cB, .slice a_cC n_cC c_cC]] H fun q => ∃ (a : Option Addr) (n : Nat) (k : Nat) (l : List Int) (D : List Nat) (e : Int), q.1 = .tuple #[.slice a n k, .int .i64 e] ∧ Mem [] H q.2 [R.own (EI .i64) a n k l D] ∧ (0 ≤ e ∧ e ≤ 100) ∧ (n ≤ 1000) := by
  obtain ⟨lo_ci, hi_ci⟩ := rangei64 w_ci
  obtain ⟨len_cL, cap_cL, max_cL, wf_cL⟩ := h_cL.len
  obtain ⟨len_cA, cap_cA, max_cA, wf_cA⟩ := h_cA.len
  obtain ⟨len_cB, cap_cB, max_cB, wf_cB⟩ := h_cB.len
  obtain ⟨len_cC, cap_cC, max_cC, wf_cC⟩ := h_cC.len
  have m0 : Mem [] H H [] := Mem.start
  refine WF.kg Tryz.func57 rfl rfl ?_
  refine KC.seq ?_
  refine KC.region ?_
  refine KO.boxM m0 rfl rfl (show _ = [.int .i64 ci, .slice a_cL n_cL c_cL, .slice a_cA n_cA c_cA, .slice a_cB n_cB c_cB, .slice a_cC n_cC c_cC] from rfl) rfl rfl fun H1 m2 => ?_
  refine KO.pv (PV.assign rfl) rfl rfl ?_
  refine KO.pv (PV.assign rfl) rfl rfl ?_
  refine KO.nil ?_
  refine KC.seq ?_
  refine KC.region ?_
  refine KO.loadN ag26_B24 sz26_B24 rfl (m2.row (i := 0) rfl) (takeN_of (p := [.int .i64 ci, .slice a_cL n_cL c_cL, .slice a_cA n_cA c_cA, .slice a_cB n_cB c_cB, .slice a_cC n_cC c_cC]) rfl  rfl) rfl rfl ?_
  refine KO.call rfl rfl rfl rfl (co_find H1 ci a_cL n_cL c_cL _ a_cA n_cA c_cA _ a_cB n_cB c_cB _ a_cC n_cC c_cC _ (wrap64 (by omega) (by omega)) (V.mem m2 h_cL) (V.mem m2 h_cA) (V.mem m2 h_cB) (V.mem m2 h_cC)) fun v3 H3 q3 => ?_
  obtain ⟨la3, ln3, lc3, l3, lD3, r0_3, r1a3, r1n3, r1c3, r1_3, r1D3, r2a3, r2n3, r2c3, r2_3, r2D3, r3a3, r3n3, r3c3, r3_3, r3D3, r4a3, r4n3, r4c3, r4_3, r4D3, e3, hv3, mc3, p3_0, p3_1, p3_2, p3_3, p3_4⟩ := q3
  dsimp only at hv3 mc3
  subst hv3
  have m4 := m2.seq mc3
  refine KO.pv (PV.move rfl) rfl rfl ?_
  refine KO.pv (PV.extract rfl rfl) rfl rfl ?_
  refine KO.pv (PV.extract rfl rfl) rfl rfl ?_
  refine KO.pv (PV.extract rfl rfl) rfl rfl ?_
  refine KO.allocM m4 zt26_B24 rfl rfl fun H5 m6 => ?_
  refine KO.pv (PV.assign rfl) rfl rfl ?_
  refine KO.storeM m6 (i := 0) rfl sz26_B24 rfl rfl rfl (show 0 + 5 ≤ 5 by decide) (show _ = [.int .i64 r0_3, .slice r1a3 r1n3 r1c3, .slice r2a3 r2n3 r2c3, .slice r3a3 r3n3 r3c3, .slice r4a3 r4n3 r4c3] from rfl) rfl fun H7 m8 => ?_
  refine KO.pv (PV.assign rfl) rfl rfl ?_
  refine KO.nil ?_
  refine KC.seq ?_
  refine KC.region ?_
  refine KO.pv (PV.move rfl) rfl rfl ?_
  refine KO.pv (PV.move rfl) rfl rfl ?_
  refine KO.pv (PV.assign rfl) rfl rfl ?_
  refine KO.pv (PV.assign rfl) rfl rfl ?_
  refine KO.nil ?_
  exact KC.ret ⟨rfl, _, (.tmp rfl (.tmp rfl .nil)), la3, ln3, lc3, l3, lD3, e3, rfl, m8.pick [1] (by decide) rfl, (by first | omega | (intro h; omega) | (simp only [List.length_nil, true_and, and_true, or_true, true_or] <;> omega)), (by first | omega | (intro h; omega) | (simp only [List.length_nil, true_and, and_true, or_true, true_or] <;> omega))⟩
theorem co_Pass (H : AHeap) (ci : Int) (a_cL : Option Addr) (n_cL c_cL : Nat) (cL : List (Int × Int)) (a_cA : Option Addr) (n_cA c_cA : Nat) (cA : List (Int × Int)) (a_cB : Option Addr) (n_cB c_cB : Nat) (cB : List Int) (a_cC : Option Addr) (n_cC c_cC : Nat) (cC : List Int) (w_ci : IntKind.i64.wrap ci = ci) (h_cL : V EP H a_cL n_cL c_cL cL) (h_cA : V EP H a_cA n_cA c_cA cA) (h_cB : V (EI .i64) H a_cB n_cB c_cB cB) (h_cC : V (EI .i64) H a_cC n_cC c_cC cC) : WF E0 60 [.agg #[.int .i64 ci, .slice a_cL n_cL c_cL, .slice a_cA n_cA c_cA, .slice a_cB n_cB c_cB, .slice a_cC n_cC c_cC]] H fun q => ∃ (r0 : Int) (r1a : Option Addr) (r1n : Nat) (r1c : Nat) (r1 : List (Int × Int)) (r1D : List Nat) (r2a : Option Addr) (r2n : Nat) (r2c : Nat) (r2 : List (Int × Int)) (r2D : List Nat) (r3a : Option Addr) (r3n : Nat) (r3c : Nat) (r3 : List Int) (r3D : List Nat) (r4a : Option Addr) (r4n : Nat) (r4c : Nat) (r4 : List Int) (r4D : List Nat) (r5 : Int) (r6 : Int) (r7a : Option Addr) (r7n : Nat) (r7c : Nat) (r7 : List Int) (r7D : List Nat) (r8a : Option Addr) (r8n : Nat) (r8c : Nat) (r8v : List (Option Addr × Nat × Nat)) (r8D : List Nat) (r8 : List (List Int)) (r8E : List Nat) (r9a : Option Addr) (r9n : Nat) (r9c : Nat) (r9 : List Int) (r9D : List Nat) (r10a : Option Addr) (r10n : Nat) (r10c : Nat) (r10 : List (Int × Int)) (r10D : List Nat) (r11 : Int) (e : Int), q.1 = .tuple #[.agg #[.int .i64 r0, .slice r1a r1n r1c, .slice r2a r2n r2c, .slice r3a r3n r3c, .slice r4a r4n r4c, .int .i64 r5, .int .i64 r6, .slice r7a r7n r7c, .slice r8a r8n r8c, .slice r9a r9n r9c, .slice r10a r10n r10c, .int .i64 r11], .int .i64 e] ∧ Mem [] H q.2 [R.own EP r1a r1n r1c r1 r1D, R.own EP r2a r2n r2c r2 r2D, R.own (EI .i64) r3a r3n r3c r3 r3D, R.own (EI .i64) r4a r4n r4c r4 r4D, R.own (EI .i64) r7a r7n r7c r7 r7D, R.own ES r8a r8n r8c r8v r8D, R.inn (EI .i64) r8v r8 r8E, R.own (EI .i64) r9a r9n r9c r9 r9D, R.own EP r10a r10n r10c r10 r10D] ∧ (0 ≤ e ∧ e ≤ 100) ∧ (r1n ≤ 1001 ∧ r2n ≤ 1001 ∧ r3n ≤ 1001 ∧ r4n ≤ 1001 ∧ r7n ≤ 1001 ∧ r8n ≤ 1001 ∧ r9n ≤ 1001 ∧ r10n ≤ 1001) ∧ (∀ c ∈ r8, c.length ≤ 1000) ∧ ((0 ≤ r0 ∧ r0 ≤ 1000000) ∧ (0 ≤ r5 ∧ r5 ≤ 1000000) ∧ (0 ≤ r6 ∧ r6 ≤ 1000000) ∧ (0 ≤ r11 ∧ r11 ≤ 1000000)) := by
  obtain ⟨lo_ci, hi_ci⟩ := rangei64 w_ci
  obtain ⟨len_cL, cap_cL, max_cL, wf_cL⟩ := h_cL.len
  obtain ⟨len_cA, cap_cA, max_cA, wf_cA⟩ := h_cA.len
  obtain ⟨len_cB, cap_cB, max_cB, wf_cB⟩ := h_cB.len
  obtain ⟨len_cC, cap_cC, max_cC, wf_cC⟩ := h_cC.len
  have m0 : Mem [] H H [] := Mem.start
  refine WF.kg Tryz.func60 rfl rfl ?_
  refine KC.seq ?_
  refine KC.region ?_
  refine KO.boxM m0 rfl rfl (show _ = [.int .i64 ci, .slice a_cL n_cL c_cL, .slice a_cA n_cA c_cA, .slice a_cB n_cB c_cB, .slice a_cC n_cC c_cC] from rfl) rfl rfl fun H1 m2 => ?_
  refine KO.allocM m2 zt40_B24 rfl rfl fun H3 m4 => ?_
  refine KO.pv (PV.assign rfl) rfl rfl ?_
  refine KO.nil ?_
  refine KC.seq ?_
  refine KC.region ?_
  refine KO.loadN ag26_B24 sz26_B24 rfl (m4.row (i := 1) rfl) (takeN_of (p := [.int .i64 ci, .slice a_cL n_cL c_cL, .slice a_cA n_cA c_cA, .slice a_cB n_cB c_cB, .slice a_cC n_cC c_cC]) rfl  rfl) rfl rfl ?_
  refine KO.call rfl rfl rfl rfl (co_find H3 ci a_cL n_cL c_cL _ a_cA n_cA c_cA _ a_cB n_cB c_cB _ a_cC n_cC c_cC _ (wrap64 (by omega) (by omega)) (V.mem m4 h_cL) (V.mem m4 h_cA) (V.mem m4 h_cB) (V.mem m4 h_cC)) fun v5 H5 q5 => ?_
  obtain ⟨la5, ln5, lc5, l5, lD5, r0_5, r1a5, r1n5, r1c5, r1_5, r1D5, r2a5, r2n5, r2c5, r2_5, r2D5, r3a5, r3n5, r3c5, r3_5, r3D5, r4a5, r4n5, r4c5, r4_5, r4D5, e5, hv5, mc5, p5_0, p5_1, p5_2, p5_3, p5_4⟩ := q5
  dsimp only at hv5 mc5
  subst hv5
  have m6 := m4.seq mc5
  refine KO.pv (PV.move rfl) rfl rfl ?_
  refine KO.pv (PV.extract rfl rfl) rfl rfl ?_
  refine KO.pv (PV.extract rfl rfl) rfl rfl ?_
  refine KO.pv (PV.extract rfl rfl) rfl rfl ?_
  refine KO.allocM m6 zt26_B24 rfl rfl fun H7 m8 => ?_
  refine KO.pv (PV.assign rfl) rfl rfl ?_
  refine KO.storeM m8 (i := 0) rfl sz26_B24 rfl rfl rfl (show 0 + 5 ≤ 5 by decide) (show _ = [.int .i64 r0_5, .slice r1a5 r1n5 r1c5, .slice r2a5 r2n5 r2c5, .slice r3a5 r3n5 r3c5, .slice r4a5 r4n5 r4c5] from rfl) rfl fun H9 m10 => ?_
  refine KO.pv (PV.assign rfl) rfl rfl ?_
  refine KO.nil ?_
  refine KC.seq ?_
  refine KC.seq ?_
  refine KC.region ?_
  refine KO.pv (PV.move rfl) rfl rfl ?_
  refine KO.pv (PV.neqD rfl rfl rfl) rfl rfl ?_
  refine KO.nil ?_
  refine KC.condD rfl (fun h11 => ?_) (fun h11 => ?_)
  · refine KC.seq ?_
    refine KC.region ?_
    refine KO.pv (PV.build rfl bl40__B24) rfl rfl ?_
    refine KO.pv (PV.move rfl) rfl rfl ?_
    refine KO.storeM m10 (i := 6) rfl sz40_B24 rfl rfl rfl (show 0 + 12 ≤ 12 by decide) (show _ = [.int .i64 0, .slice none 0 0, .slice none 0 0, .slice none 0 0, .slice none 0 0, .int .i64 0, .int .i64 0, .slice none 0 0, .slice none 0 0, .slice none 0 0, .slice none 0 0, .int .i64 0] from rfl) rfl fun H12 m13 => ?_
    refine KO.pv (PV.assign rfl) rfl rfl ?_
    refine KO.nil ?_
    have m14 := m13.ownNil (C := EP)
    have m15 := m14.ownNil (C := EP)
    have m16 := m15.ownNil (C := (EI .i64))
    have m17 := m16.ownNil (C := (EI .i64))
    have m18 := m17.ownNil (C := (EI .i64))
    have m19 := m18.ownNil (C := ES)
    have m20 := m19.ownNil (C := (EI .i64))
    have m21 := m20.ownNil (C := EP)
    have m22 := m21.innNil (C := (EI .i64))
    exact KC.ret ⟨rfl, _, (.cell rfl (ldN (m13.row (i := 6) rfl) ag40_B24 sz40_B24 rfl rfl) (.tmp rfl .nil)), 0, none, 0, 0, [], [], none, 0, 0, [], [], none, 0, 0, [], [], none, 0, 0, [], [], 0, 0, none, 0, 0, [], [], none, 0, 0, [], [], [], [], none, 0, 0, [], [], none, 0, 0, [], [], 0, e5, rfl, m22.pick [8, 7, 6, 5, 4, 3, 0, 2, 1] (by decide) rfl, (by first | omega | (intro h; omega) | (simp only [List.length_nil, true_and, and_true, or_true, true_or] <;> omega)), (by first | omega | (intro h; omega) | (simp only [List.length_nil, true_and, and_true, or_true, true_or] <;> omega)), (by first | omega | (intro h; omega) | (simp only [List.length_nil, true_and, and_true, or_true, true_or] <;> omega) | exact all_nil | assumption), (by first | omega | (intro h; omega) | (simp only [List.length_nil, true_and, and_true, or_true, true_or] <;> omega))⟩
  · have p5_2t := p5_2 (by omega)
    obtain ⟨p5_2_i0, p5_2_al, p5_2_b, p5_2_c, p5_2_hb, p5_2_hc, p5_2_hl, p5_2_ha⟩ := id p5_2t
    refine KC.skip ?_
    refine KC.seq ?_
    refine KC.region ?_
    refine KO.loadN ag26_B24 sz26_B24 rfl (m10.row (i := 7) rfl) (takeN_of (p := [.int .i64 ci, .slice a_cL n_cL c_cL, .slice a_cA n_cA c_cA, .slice a_cB n_cB c_cB, .slice a_cC n_cC c_cC]) rfl  rfl) rfl rfl ?_
    refine KO.call rfl rfl rfl rfl (lift_Identity H9 ci a_cL n_cL c_cL _ a_cA n_cA c_cA _ a_cB n_cB c_cB _ a_cC n_cC c_cC _ (wrap64 (by omega) (by omega)) (V.mem m10 h_cL) (V.mem m10 h_cA) (V.mem m10 h_cB) (V.mem m10 h_cC)) fun v23 H23 q23 => ?_
    obtain ⟨r0_23, r1_23, r2a23, r2n23, r2c23, r2_23, r2D23, r3a23, r3n23, r3c23, r3v23, r3D23, r3_23, r3E23, r4a23, r4n23, r4c23, r4_23, r4D23, r6_23, e23, hv23, mc23, p23_0, p23_1, p23_2, p23_3⟩ := q23
    dsimp only at hv23 mc23
    subst hv23
    have m24 := m10.seq mc23
    refine KO.pv (PV.move rfl) rfl rfl ?_
    refine KO.pv (PV.extract rfl rfl) rfl rfl ?_
    refine KO.pv (PV.extract rfl rfl) rfl rfl ?_
    refine KO.allocM m24 zt38_B24 rfl rfl fun H25 m26 => ?_
    refine KO.storeM m26 (i := 0) rfl sz38_B24 rfl rfl rfl (show 0 + 7 ≤ 7 by decide) (show _ = [.int .i64 r0_23, .int .i64 r1_23, .slice r2a23 r2n23 r2c23, .slice r3a23 r3n23 r3c23, .slice r4a23 r4n23 r4c23, .slice none 0 0, .int .i64 r6_23] from rfl) rfl fun H27 m28 => ?_
    refine KO.pv (PV.assign rfl) rfl rfl ?_
    refine KO.nil ?_
    refine KC.seq ?_
    refine KC.seq ?_
    refine KC.region ?_
    refine KO.pv (PV.fieldAddr fo26_1_B24 rfl) rfl rfl ?_
    refine KO.load1 ag22_B24 rfl (m28.row (i := 12) rfl) rfl rfl rfl ?_
    refine KO.pv (PV.len un22_B24 rfl) rfl rfl ?_
    refine KO.pv (PV.move rfl) rfl rfl ?_
    refine KO.pv (PV.len un24_B24 rfl) rfl rfl ?_
    refine KO.pv (PV.add rfl rfl (wrap64 (by omega) (by omega))) rfl rfl ?_
    refine KO.pv (PV.sub rfl rfl (wrap64 (by omega) (by omega))) rfl rfl ?_
    refine KO.pv (PV.gtrD rfl rfl rfl) rfl rfl ?_
    refine KO.nil ?_
    refine KC.condD rfl (fun h29 => ?_) (fun h29 => ?_)
    · refine KC.seq ?_
      refine KC.region ?_
      refine KO.loadN ag26_B24 sz26_B24 rfl (m28.row (i := 12) rfl) (takeN_of (p := [.int .i64 ci, .slice a_cL n_cL c_cL, .slice a_cA n_cA c_cA, .slice a_cB n_cB c_cB, .slice a_cC n_cC c_cC]) rfl  rfl) rfl rfl ?_
      refine KO.storeM m28 (i := 5) rfl sz26_B24 rfl rfl rfl (show 0 + 5 ≤ 5 by decide) (show _ = [.int .i64 ci, .slice a_cL n_cL c_cL, .slice a_cA n_cA c_cA, .slice a_cB n_cB c_cB, .slice a_cC n_cC c_cC] from rfl) rfl fun H30 m31 => ?_
      refine KO.nil ?_
      refine KC.seq ?_
      refine KC.drawG (n := 10) (anc := [0, 1, 3, 0, 8, 31, 7, 127, 255, 511]) (hv := [2, 5, 7, 9]) (ord := [0, 1, 2, 3, 4, 5, 6, 7, 8, 9]) (by kernel_rfl) (by kernel_rfl) (by kernel_rfl) (by kernel_rfl) (by kernel_rfl) fun H32 n33 g34 => ?_
      have m35 := m31.room n33 g34 [] (by decide) (by decide)
      refine KD.pv 1 (PV.fieldAddr fo26_1_B24 rfl) rfl rfl rfl (by kernel_rfl) rfl rfl rfl ?_
      refine KD.load 3 rfl (m35.row (i := 12) rfl) (by rw [read1 ag22_B24]; exact rfl) (pastGo (k := 1) (l := [H32]) (by kernel_rfl) rfl (pastCons ⟨_, (m35.row (i := 12) rfl), (by rw [read1 ag22_B24]; exact rfl)⟩ pastNil)) veq_sl rfl (by kernel_rfl) rfl rfl rfl ?_
      refine KD.call 7 rfl rfl rfl (by kernel_rfl) rfl rfl rfl (Clone_api_Latch H32 a_cL n_cL c_cL _ (V.mem m35 h_cL) (by first | omega | assumption)) fun v36 H36 q36 => ?_
      obtain ⟨a36, n36, xs36, D36, hv36, mc36, p36_0, p36_1, p36_2, p36_3⟩ := q36
      dsimp only at hv36 mc36
      subst hv36
      have m37 := m35.seq mc36
      refine KD.pv 15 (PV.fieldAddr fo26_2_B24 rfl) rfl rfl rfl (by kernel_rfl) rfl rfl rfl ?_
      refine KD.load 31 rfl (m37.row (i := 13) rfl) (by rw [read1 ag23_B24]; exact rfl) (pastGo (k := 2) (l := [H36, H32]) (by kernel_rfl) rfl (pastCons ⟨_, (m37.row (i := 13) rfl), (by rw [read1 ag23_B24]; exact rfl)⟩ (pastCons ⟨_, (m35.row (i := 12) rfl), (by rw [read1 ag23_B24]; exact rfl)⟩ pastNil))) veq_sl rfl (by kernel_rfl) rfl rfl rfl ?_
      refine KD.call 63 rfl rfl rfl (by kernel_rfl) rfl rfl rfl (Clone_api_And H36 a_cA n_cA c_cA _ (V.mem m37 h_cA) (by first | omega | assumption)) fun v38 H38 q38 => ?_
      obtain ⟨a38, n38, xs38, D38, hv38, mc38, p38_0, p38_1, p38_2, p38_3⟩ := q38
      dsimp only at hv38 mc38
      subst hv38
      have m39 := m37.seq mc38
      refine KD.pv 127 (PV.fieldAddr fo26_1_B24 rfl) rfl rfl rfl (by kernel_rfl) rfl rfl rfl ?_
      refine KD.storeM 255 m39 (j := 7) rfl sz22_B24 rfl rfl rfl (show 1 + 1 ≤ 5 by decide) (show _ = [.int .i64 ci, .slice a36 n36 n36, .slice a_cA n_cA c_cA, .slice a_cB n_cB c_cB, .slice a_cC n_cC c_cC] from rfl) rfl (by kernel_rfl) rfl rfl fun H40 m41 => ?_
      refine KD.pv 511 (PV.fieldAddr fo26_2_B24 rfl) rfl rfl rfl (by kernel_rfl) rfl rfl rfl ?_
      refine KD.storeM 1023 m41 (j := 7) rfl sz23_B24 rfl rfl rfl (show 2 + 1 ≤ 5 by decide) (show _ = [.int .i64 ci, .slice a36 n36 n36, .slice a38 n38 n38, .slice a_cB n_cB c_cB, .slice a_cC n_cC c_cC] from rfl) rfl (by kernel_rfl) rfl rfl fun H42 m43 => ?_
      refine KD.nil ⟨rfl, ?_⟩
      refine KC.seq ?_
      refine KC.drawG (n := 10) (anc := [0, 1, 3, 0, 8, 31, 7, 127, 255, 511]) (hv := [2, 5, 7, 9]) (ord := [0, 1, 2, 3, 4, 5, 6, 7, 8, 9]) (by kernel_rfl) (by kernel_rfl) (by kernel_rfl) (by kernel_rfl) (by kernel_rfl) fun H44 n45 g46 => ?_
      have m47 := m43.room n45 g46 [] (by decide) (by decide)
      refine KD.pv 1 (PV.fieldAddr fo26_3_B24 rfl) rfl rfl rfl (by kernel_rfl) rfl rfl rfl ?_
      refine KD.load 3 rfl (m47.row (i := 14) rfl) (by rw [read1 ag24_B24]; exact rfl) (pastGo (k := 1) (l := [H44]) (by kernel_rfl) rfl (pastCons ⟨_, (m47.row (i := 14) rfl), (by rw [read1 ag24_B24]; exact rfl)⟩ pastNil)) veq_sl rfl (by kernel_rfl) rfl rfl rfl ?_
      refine KD.call 7 rfl rfl rfl (by kernel_rfl) rfl rfl rfl (Clone_int H44 a_cB n_cB c_cB _ (V.mem m47 h_cB) (by first | omega | assumption)) fun v48 H48 q48 => ?_
      obtain ⟨a48, n48, xs48, D48, hv48, mc48, p48_0, p48_1, p48_2, p48_3⟩ := q48
      dsimp only at hv48 mc48
      subst hv48
      have m49 := m47.seq mc48
      refine KD.pv 15 (PV.fieldAddr fo26_4_B24 rfl) rfl rfl rfl (by kernel_rfl) rfl rfl rfl ?_
      refine KD.load 31 rfl (m49.row (i := 15) rfl) (by rw [read1 ag24_B24]; exact rfl) (pastGo (k := 2) (l := [H48, H44]) (by kernel_rfl) rfl (pastCons ⟨_, (m49.row (i := 15) rfl), (by rw [read1 ag24_B24]; exact rfl)⟩ (pastCons ⟨_, (m47.row (i := 14) rfl), (by rw [read1 ag24_B24]; exact rfl)⟩ pastNil))) veq_sl rfl (by kernel_rfl) rfl rfl rfl ?_
      refine KD.call 63 rfl rfl rfl (by kernel_rfl) rfl rfl rfl (Clone_int H48 a_cC n_cC c_cC _ (V.mem m49 h_cC) (by first | omega | assumption)) fun v50 H50 q50 => ?_
      obtain ⟨a50, n50, xs50, D50, hv50, mc50, p50_0, p50_1, p50_2, p50_3⟩ := q50
      dsimp only at hv50 mc50
      subst hv50
      have m51 := m49.seq mc50
      refine KD.pv 127 (PV.fieldAddr fo26_3_B24 rfl) rfl rfl rfl (by kernel_rfl) rfl rfl rfl ?_
      refine KD.storeM 255 m51 (j := 9) rfl sz24_B24 rfl rfl rfl (show 3 + 1 ≤ 5 by decide) (show _ = [.int .i64 ci, .slice a36 n36 n36, .slice a38 n38 n38, .slice a48 n48 n48, .slice a_cC n_cC c_cC] from rfl) rfl (by kernel_rfl) rfl rfl fun H52 m53 => ?_
      refine KD.pv 511 (PV.fieldAddr fo26_4_B24 rfl) rfl rfl rfl (by kernel_rfl) rfl rfl rfl ?_
      refine KD.storeM 1023 m53 (j := 9) rfl sz24_B24 rfl rfl rfl (show 4 + 1 ≤ 5 by decide) (show _ = [.int .i64 ci, .slice a36 n36 n36, .slice a38 n38 n38, .slice a48 n48 n48, .slice a50 n50 n50] from rfl) rfl (by kernel_rfl) rfl rfl fun H54 m55 => ?_
      refine KD.nil ⟨rfl, ?_⟩
      refine KC.seq ?_
      refine KC.region ?_
      refine KO.loadN ag26_B24 sz26_B24 rfl (m55.row (i := 9) rfl) (takeN_of (p := [.int .i64 ci, .slice a36 n36 n36, .slice a38 n38 n38, .slice a48 n48 n48, .slice a50 n50 n50]) rfl  rfl) rfl rfl ?_
      refine KO.loadN ag38_B24 sz38_B24 rfl (m55.row (i := 4) rfl) (takeN_of (p := [.int .i64 r0_23, .int .i64 r1_23, .slice r2a23 r2n23 r2c23, .slice r3a23 r3n23 r3c23, .slice r4a23 r4n23 r4c23, .slice none 0 0, .int .i64 r6_23]) rfl  rfl) rfl rfl ?_
      refine KO.pv (PV.build rfl (bl40_0Ai64ssss_1Ai64i64ssssi64_B24 _ _ _ _ _ _ _ _ _ _ _ _ _ _ _ _ _ _ _ _ _ _ _ _ _ _ _ _)) rfl rfl ?_
      refine KO.storeM m55 (i := 15) rfl sz40_B24 rfl rfl rfl (show 0 + 12 ≤ 12 by decide) (show _ = [.int .i64 ci, .slice a36 n36 n36, .slice a38 n38 n38, .slice a48 n48 n48, .slice a50 n50 n50, .int .i64 r0_23, .int .i64 r1_23, .slice r2a23 r2n23 r2c23, .slice r3a23 r3n23 r3c23, .slice r4a23 r4n23 r4c23, .slice none 0 0, .int .i64 r6_23] from rfl) rfl fun H56 m57 => ?_
      refine KO.pv (PV.assign rfl) rfl rfl ?_
      refine KO.nil ?_
      have m58 := m57.ownLst (C := EP) (i := 3) rfl (by assumption) (by first | omega | (simp only [splice, List.length_append, List.length_set, List.length_replicate, List.length_map, List.length_take, List.length_drop, List.length_cons, List.length_nil] <;> omega))
      have m59 := m58.ownLst (C := EP) (i := 2) rfl (by assumption) (by first | omega | (simp only [splice, List.length_append, List.length_set, List.length_replicate, List.length_map, List.length_take, List.length_drop, List.length_cons, List.length_nil] <;> omega))
      have m60 := m59.ownLst (C := (EI .i64)) (i := 1) rfl (by assumption) (by first | omega | (simp only [splice, List.length_append, List.length_set, List.length_replicate, List.length_map, List.length_take, List.length_drop, List.length_cons, List.length_nil] <;> omega))
      have m61 := m60.ownLst (C := (EI .i64)) (i := 0) rfl (by assumption) (by first | omega | (simp only [splice, List.length_append, List.length_set, List.length_replicate, List.length_map, List.length_take, List.length_drop, List.length_cons, List.length_nil] <;> omega))
      have m62 := m61.ownNil (C := EP)
      exact KC.ret ⟨rfl, _, (.cell rfl (ldN (m57.row (i := 15) rfl) ag40_B24 sz40_B24 rfl rfl) (.tmp rfl .nil)), ci, a36, n36, n36, xs36, D36, a38, n38, n38, xs38, D38, a48, n48, n48, xs48, D48, a50, n50, n50, xs50, D50, r0_23, r1_23, r2a23, r2n23, r2c23, r2_23, r2D23, r3a23, r3n23, r3c23, r3v23, r3D23, r3_23, r3E23, r4a23, r4n23, r4c23, r4_23, r4D23, none, 0, 0, [], [], r6_23, 0, rfl, m62.pick [4, 3, 2, 1, 6, 7, 8, 9, 0] (by decide) rfl, (by first | omega | (intro h; omega) | (simp only [List.length_nil, true_and, and_true, or_true, true_or] <;> omega)), (by first | omega | (intro h; omega) | (simp only [List.length_nil, true_and, and_true, or_true, true_or] <;> omega)), (by first | omega | (intro h; omega) | (simp only [List.length_nil, true_and, and_true, or_true, true_or] <;> omega) | exact all_nil | assumption), (by first | omega | (intro h; omega) | (simp only [List.length_nil, true_and, and_true, or_true, true_or] <;> omega))⟩
    · refine KC.skip ?_
      refine KC.seq ?_
      refine KC.seq ?_
      refine KC.region ?_
      refine KO.pv (PV.move rfl) rfl rfl ?_
      refine KO.pv (PV.len un24_B24 rfl) rfl rfl ?_
      refine KO.pv (PV.move rfl) rfl rfl ?_
      refine KO.nil ?_
      refine KC.block ?_
      refine KC.sub (l' := [(1, .pointer (some ⟨H.next, 0, none⟩)), (2, .pointer (some ⟨H1.next, 0, none⟩)), (5, .pointer (some ⟨H5.next, 0, none⟩)), (7, .pointer (some ⟨H23.next, 0, none⟩)), (55, .slice la5 ln5 lc5), (56, .int .i64 (ln5 : Int)), (57, .int .i64 0)]) (.cons rfl (.cons rfl (.cons rfl (.cons rfl (.cons rfl (.cons rfl (.cons rfl .nil))))))) ?_
      have m63 := m28.lnilC EP (e := 187) none rfl
      refine KC.loopN (fun kq lq A => ∃ (x57 : Int) (c7_6 : Int) (a_c7_5 : Option Addr) (n_c7_5 : Nat) (l_c7_5 : List (Int × Int)) (D_c7_5 : List Nat), kq = ((ln5 : Int) - x57).toNat ∧ lq = [(1, .pointer (some ⟨H.next, 0, none⟩)), (2, .pointer (some ⟨H1.next, 0, none⟩)), (5, .pointer (some ⟨H5.next, 0, none⟩)), (7, .pointer (some ⟨H23.next, 0, none⟩)), (55, .slice la5 ln5 lc5), (56, .int .i64 (ln5 : Int)), (57, .int .i64 x57)] ∧ Mem [] H A [R.row H23.next 38 true [.int .i64 r0_23, .int .i64 r1_23, .slice r2a23 r2n23 r2c23, .slice r3a23 r3n23 r3c23, .slice r4a23 r4n23 r4c23, .slice a_c7_5 n_c7_5 n_c7_5, .int .i64 c7_6], R.own (EI .i64) r2a23 r2n23 r2c23 r2_23 r2D23, R.own ES r3a23 r3n23 r3c23 r3v23 r3D23, R.inn (EI .i64) r3v23 r3_23 r3E23, R.own (EI .i64) r4a23 r4n23 r4c23 r4_23 r4D23, R.row H5.next 26 true [.int .i64 r0_5, .slice r1a5 r1n5 r1c5, .slice r2a5 r2n5 r2c5, .slice r3a5 r3n5 r3c5, .slice r4a5 r4n5 r4c5], R.own (EI .i64) la5 ln5 lc5 l5 lD5, R.own EP r1a5 r1n5 r1c5 r1_5 r1D5, R.own EP r2a5 r2n5 r2c5 r2_5 r2D5, R.own (EI .i64) r3a5 r3n5 r3c5 r3_5 r3D5, R.own (EI .i64) r4a5 r4n5 r4c5 r4_5 r4D5, R.row H1.next 40 true [.int .i64 0, .slice none 0 0, .slice none 0 0, .slice none 0 0, .slice none 0 0, .int .i64 0, .int .i64 0, .slice none 0 0, .slice none 0 0, .slice none 0 0, .slice none 0 0, .int .i64 0], R.row H.next 26 true [.int .i64 ci, .slice a_cL n_cL c_cL, .slice a_cA n_cA c_cA, .slice a_cB n_cB c_cB, .slice a_cC n_cC c_cC], R.lst 187 2 a_c7_5 n_c7_5 (cells EP l_c7_5) D_c7_5] ∧ (0 ≤ x57 ∧ x57 ≤ (ln5 : Int)) ∧ ((n_c7_5 : Int) ≤ x57) ∧ (0 ≤ c7_6 ∧ c7_6 ≤ 1000000) ∧ (l_c7_5.length = n_c7_5) ∧ (∀ u ∈ l_c7_5, (EP).wf u)) ?_ (((ln5 : Int) - 0).toNat) ⟨0, r6_23, none, 0, [], [], rfl, rfl, (m63.pick [1, 2, 3, 4, 5, 6, 7, 8, 9, 10, 11, 12, 13, 0] (by decide) rfl), (by first | omega | assumption | (constructor <;> omega)), (by first | omega | (simp only [splice, List.length_append, List.length_set, List.length_replicate, List.length_map, List.length_take, List.length_drop, List.length_cons, List.length_nil] <;> omega)), (by first | omega | assumption | (constructor <;> omega)), (by first | omega | (simp only [splice, List.length_append, List.length_set, List.length_replicate, List.length_map, List.length_take, List.length_drop, List.length_cons, List.length_nil] <;> omega)), (fun _ h => absurd h List.not_mem_nil)⟩
      rintro kq lq A64 ⟨x57, c7_6, a_c7_5, n_c7_5, l_c7_5, D_c7_5, rfl, rfl, m65, hr11, hn5, hl6, hl_l_c7_5, hw_l_c7_5⟩
      refine KC.seq ?_
      refine KC.region ?_
      refine KO.pv (PV.lssD rfl rfl rfl) rfl rfl ?_
      refine KO.nil ?_
      refine KC.seq ?_
      refine KC.condD rfl (fun h66 => ?_) (fun h66 => ?_)
      · refine KC.skip ?_
        refine KC.seq ?_
        refine KC.block ?_
        refine KC.seq ?_
        refine KC.region ?_
        obtain ⟨b67, o67, p67, r67, e67, ha67, hb67, hr67, hx67, hw67, hc67, ht67⟩ := V.at_ (m65.vown (i := 6) rfl) (z := x57) (by omega) (by omega)
        have hc67_0 : r67.cs[o67 + (x57).toNat * 1 + 0]? = some (.int .i64 e67) := hc67 0 (by decide)
        have hw67 : IntKind.i64.wrap e67 = e67 := hw67
        obtain ⟨lo67, hi67⟩ := rangei64 hw67
        have a5_3_67 := p5_3 _ (List.mem_of_getElem? hx67)
        refine KO.pv (PV.indexAddrZ un24_B24 sz3_B24 rfl ha67 rfl (by omega) (by omega)) rfl rfl ?_
        refine KO.load1 ag3_B24 rfl hr67 hc67_0 rfl rfl ?_
        obtain ⟨hu2, hu3, -⟩ := p5_3 _ (List.mem_of_getElem? hx67)
        refine KO.pv (PV.assign rfl) rfl rfl ?_
        refine KO.nil ?_
        refine KC.seq ?_
        refine KC.region ?_
        refine KO.pv (PV.move rfl) rfl rfl ?_
        refine KO.pv (PV.add rfl rfl (wrap64 (by omega) (by omega))) rfl rfl ?_
        refine KO.pv (PV.mul rfl rfl (wrap64 (by omega) (by omega))) rfl rfl ?_
        refine KO.pv (PV.add rfl rfl (wrap64 (by omega) (by omega))) rfl rfl ?_
        refine KO.pv (PV.fieldAddr fo26_1_B24 rfl) rfl rfl ?_
        refine KO.load1 ag22_B24 rfl (m65.row (i := 12) rfl) rfl rfl rfl ?_
        refine KO.pv (PV.move rfl) rfl rfl ?_
        obtain ⟨b68, o68, p68, r68, e68, ha68, hb68, hr68, hx68, hw68, hc68, ht68⟩ := V.at_ h_cL (z := e67) (by omega) (by omega)
        have hc68_0 : r68.cs[o68 + (e67).toNat * 2 + 0]? = some (.int .i64 e68.1) := hc68 0 (by decide)
        have hc68_1 : r68.cs[o68 + (e67).toNat * 2 + 1]? = some (.int .i64 e68.2) := hc68 1 (by decide)
        obtain ⟨hwa68, hwb68⟩ := hw68
        obtain ⟨loa68, hia68⟩ := rangei64 hwa68
        obtain ⟨lob68, hib68⟩ := rangei64 hwb68
        have gp5_2_hl_68 := p5_2_hl _ (List.mem_of_getElem? hx68)
        refine KO.pv (PV.indexAddrZ un22_B24 sz150_B24 rfl ha68 rfl (by omega) (by omega)) rfl rfl ?_
        refine KO.pv (PV.fieldAddr fo150_1_B24 rfl) rfl rfl ?_
        refine KO.load1 ag3_B24 rfl (m65.row0 hb68 hr68) hc68_1 rfl rfl ?_
        refine KO.pv (PV.sub rfl rfl (wrap64 (by omega) (by omega))) rfl rfl ?_
        refine KO.pv (PV.assign rfl) rfl rfl ?_
        refine KO.nil ?_
        refine KC.seq ?_
        refine KC.seq ?_
        refine KC.region ?_
        refine KO.pv (PV.fieldAddr fo38_5_B24 rfl) rfl rfl ?_
        refine KO.pv (PV.fieldAddr fo36_1_B24 rfl) rfl rfl ?_
        refine KO.load1 ag3_B24 rfl (m65.row (i := 0) rfl) rfl rfl rfl ?_
        refine KO.pv (PV.eqlD rfl rfl rfl) rfl rfl ?_
        refine KO.nil ?_
        refine KC.condD rfl (fun h69 => ?_) (fun h69 => ?_)
        · refine KC.seq ?_
          refine KC.region ?_
          refine KO.pv (PV.move rfl) rfl rfl ?_
          refine KO.pv (PV.fieldAddr fo38_5_B24 rfl) rfl rfl ?_
          refine KO.pv (PV.fieldAddr fo36_1_B24 rfl) rfl rfl ?_
          refine KO.storeM m65 (i := 0) rfl sz3_B24 rfl rfl rfl (show 6 + 1 ≤ 7 by decide) (show _ = [.int .i64 r0_23, .int .i64 r1_23, .slice r2a23 r2n23 r2c23, .slice r3a23 r3n23 r3c23, .slice r4a23 r4n23 r4c23, .slice a_c7_5 n_c7_5 n_c7_5, .int .i64 (((2 * (e67 + 1)) + 1) - e68.2)] from rfl) rfl fun H70 m71 => ?_
          refine KO.nil ?_
          refine KC.exit ?_
          refine KC.region ?_
          refine KO.pv (PV.add rfl rfl (wrap64 (by omega) (by omega))) rfl rfl ?_
          refine KO.pv (PV.move rfl) rfl rfl ?_
          refine KO.nil ?_
          exact ⟨_, _, (by omega), (.cons rfl (.cons rfl (.cons rfl (.cons rfl (.cons rfl (.cons rfl (.cons rfl .nil))))))), (x57 + 1), (((2 * (e67 + 1)) + 1) - e68.2), a_c7_5, n_c7_5, l_c7_5, D_c7_5, rfl, rfl, (m71.pick [0, 1, 2, 3, 4, 5, 6, 7, 8, 9, 10, 11, 12, 13] (by decide) rfl), (by first | omega | assumption | (constructor <;> omega)), (by first | omega | (simp only [splice, List.length_append, List.length_set, List.length_replicate, List.length_map, List.length_take, List.length_drop, List.length_cons, List.length_nil] <;> omega)), (by first | omega | assumption | (constructor <;> omega)), (by first | omega | (simp only [splice, List.length_append, List.length_set, List.length_replicate, List.length_map, List.length_take, List.length_drop, List.length_cons, List.length_nil] <;> omega)), hw_l_c7_5⟩
        · refine KC.skip ?_
          refine KC.seq ?_
          refine KC.region ?_
          refine KO.pv (PV.fieldAddr fo38_5_B24 rfl) rfl rfl ?_
          refine KO.pv (PV.fieldAddr fo36_0_B24 rfl) rfl rfl ?_
          refine KO.load1 ag23_B24 rfl (m65.row (i := 0) rfl) rfl rfl rfl ?_
          refine KO.pv (PV.fieldAddr fo38_5_B24 rfl) rfl rfl ?_
          refine KO.pv (PV.fieldAddr fo36_1_B24 rfl) rfl rfl ?_
          refine KO.load1 ag3_B24 rfl (m65.row (i := 0) rfl) rfl rfl rfl ?_
          refine KO.pv (PV.move rfl) rfl rfl ?_
          obtain ⟨x72, hx72, dx72⟩ := maxD c7_6 (((2 * (e67 + 1)) + 1) - e68.2)
          refine KO.pv (PV.maxE rfl rfl hx72) rfl rfl ?_
          refine KO.pv (PV.fieldAddr fo38_5_B24 rfl) rfl rfl ?_
          refine KO.pv (PV.fieldAddr fo36_1_B24 rfl) rfl rfl ?_
          refine KO.load1 ag3_B24 rfl (m65.row (i := 0) rfl) rfl rfl rfl ?_
          refine KO.pv (PV.move rfl) rfl rfl ?_
          obtain ⟨x73, hx73, dx73⟩ := minD c7_6 (((2 * (e67 + 1)) + 1) - e68.2)
          refine KO.pv (PV.minE rfl rfl hx73) rfl rfl ?_
          refine KO.pv (PV.build rfl (bl187_0i64_1i64_B24 _ _)) rfl rfl ?_
          refine KO.buildSliceM m65 el23_B24 ez187_B24 rfl rfl (show _ = some [.int .i64 x72, .int .i64 x73] from rfl) rfl rfl fun H74 m75 => ?_
          refine KO.appendC (C := EP) m75 (i := 14) rfl el23_B24 ez187_B24 sb187_B24 un23_B24 rfl rfl (newElems_row1 (C := EP) (y := (x72, x73)) (m75.row (i := 0) rfl) rfl) rfl (by first | omega | (simp only [splice, List.length_append, List.length_set, List.length_replicate, List.length_map, List.length_take, List.length_drop, List.length_cons, List.length_nil] <;> omega)) rfl rfl fun a77 D78 H76 m79 => ?_
          refine KO.pv (PV.fieldAddr fo38_5_B24 rfl) rfl rfl ?_
          refine KO.pv (PV.fieldAddr fo36_0_B24 rfl) rfl rfl ?_
          refine KO.storeM m79 (i := 1) rfl sz23_B24 rfl rfl rfl (show 5 + 1 ≤ 7 by decide) (show _ = [.int .i64 r0_23, .int .i64 r1_23, .slice r2a23 r2n23 r2c23, .slice r3a23 r3n23 r3c23, .slice r4a23 r4n23 r4c23, .slice a77 (n_c7_5 + 1) (n_c7_5 + 1), .int .i64 c7_6] from rfl) rfl fun H80 m81 => ?_
          refine KO.nil ?_
          refine KC.region ?_
          refine KO.pv (PV.fieldAddr fo26_1_B24 rfl) rfl rfl ?_
          refine KO.load1 ag22_B24 rfl (m81.row (i := 13) rfl) rfl rfl rfl ?_
          refine KO.pv (PV.len un22_B24 rfl) rfl rfl ?_
          refine KO.pv (PV.fieldAddr fo38_5_B24 rfl) rfl rfl ?_
          refine KO.pv (PV.fieldAddr fo36_0_B24 rfl) rfl rfl ?_
          refine KO.load1 ag23_B24 rfl (m81.row (i := 1) rfl) rfl rfl rfl ?_
          refine KO.pv (PV.len un23_B24 rfl) rfl rfl ?_
          refine KO.pv (PV.add rfl rfl (wrap64 (by omega) (by omega))) rfl rfl ?_
          refine KO.pv (PV.mul rfl rfl (wrap64 (by omega) (by omega))) rfl rfl ?_
          refine KO.pv (PV.fieldAddr fo38_5_B24 rfl) rfl rfl ?_
          refine KO.pv (PV.fieldAddr fo36_1_B24 rfl) rfl rfl ?_
          refine KO.storeM m81 (i := 1) rfl sz3_B24 rfl rfl rfl (show 6 + 1 ≤ 7 by decide) (show _ = [.int .i64 r0_23, .int .i64 r1_23, .slice r2a23 r2n23 r2c23, .slice r3a23 r3n23 r3c23, .slice r4a23 r4n23 r4c23, .slice a77 (n_c7_5 + 1) (n_c7_5 + 1), .int .i64 (2 * ((n_cL : Int) + ((n_c7_5 + 1) : Int)))] from rfl) rfl fun H82 m83 => ?_
          refine KO.nil ?_
          refine KC.region ?_
          refine KO.pv (PV.add rfl rfl (wrap64 (by omega) (by omega))) rfl rfl ?_
          refine KO.pv (PV.move rfl) rfl rfl ?_
          refine KO.nil ?_
          exact ⟨_, _, (by omega), (.cons rfl (.cons rfl (.cons rfl (.cons rfl (.cons rfl (.cons rfl (.cons rfl .nil))))))), (x57 + 1), (2 * ((n_cL : Int) + ((n_c7_5 + 1) : Int))), a77, (n_c7_5 + 1), (l_c7_5 ++ [(x72, x73)]), D78, rfl, rfl, (m83.pick [1, 2, 3, 4, 5, 6, 7, 8, 9, 10, 11, 12, 13, 14] (by decide) rfl), (by first | omega | assumption | (constructor <;> omega)), (by first | omega | (simp only [splice, List.length_append, List.length_set, List.length_replicate, List.length_map, List.length_take, List.length_drop, List.length_cons, List.length_nil] <;> omega)), (by first | omega | assumption | (constructor <;> omega)), (by first | omega | (simp only [splice, List.length_append, List.length_set, List.length_replicate, List.length_map, List.length_take, List.length_drop, List.length_cons, List.length_nil] <;> omega)), (all_app hw_l_c7_5 (all_one (wfP ⟨by omega, by omega⟩ ⟨by omega, by omega⟩)))⟩
      · refine KC.exit ?_
        refine KC.seq ?_
        refine KC.region ?_
        refine KO.loadN ag26_B24 sz26_B24 rfl (m65.row (i := 5) rfl) (takeN_of (p := [.int .i64 r0_5, .slice r1a5 r1n5 r1c5, .slice r2a5 r2n5 r2c5, .slice r3a5 r3n5 r3c5, .slice r4a5 r4n5 r4c5]) rfl  rfl) rfl rfl ?_
        refine KO.loadN ag38_B24 sz38_B24 rfl (m65.row (i := 0) rfl) (takeN_of (p := [.int .i64 r0_23, .int .i64 r1_23, .slice r2a23 r2n23 r2c23, .slice r3a23 r3n23 r3c23, .slice r4a23 r4n23 r4c23, .slice a_c7_5 n_c7_5 n_c7_5, .int .i64 c7_6]) rfl  rfl) rfl rfl ?_
        refine KO.pv (PV.build rfl (bl40_0Ai64ssss_1Ai64i64ssssi64_B24 _ _ _ _ _ _ _ _ _ _ _ _ _ _ _ _ _ _ _ _ _ _ _ _ _ _ _ _)) rfl rfl ?_
        refine KO.storeM m65 (i := 11) rfl sz40_B24 rfl rfl rfl (show 0 + 12 ≤ 12 by decide) (show _ = [.int .i64 r0_5, .slice r1a5 r1n5 r1c5, .slice r2a5 r2n5 r2c5, .slice r3a5 r3n5 r3c5, .slice r4a5 r4n5 r4c5, .int .i64 r0_23, .int .i64 r1_23, .slice r2a23 r2n23 r2c23, .slice r3a23 r3n23 r3c23, .slice r4a23 r4n23 r4c23, .slice a_c7_5 n_c7_5 n_c7_5, .int .i64 c7_6] from rfl) rfl fun H84 m85 => ?_
        refine KO.pv (PV.assign rfl) rfl rfl ?_
        refine KO.nil ?_
        have m86 := m85.ownLst (C := EP) (i := 13) rfl hw_l_c7_5 (by first | omega | (simp only [splice, List.length_append, List.length_set, List.length_replicate, List.length_map, List.length_take, List.length_drop, List.length_cons, List.length_nil] <;> omega))
        exact KC.ret ⟨rfl, _, (.cell rfl (ldN (m85.row (i := 11) rfl) ag40_B24 sz40_B24 rfl rfl) (.tmp rfl .nil)), r0_5, r1a5, r1n5, r1c5, r1_5, r1D5, r2a5, r2n5, r2c5, r2_5, r2D5, r3a5, r3n5, r3c5, r3_5, r3D5, r4a5, r4n5, r4c5, r4_5, r4D5, r0_23, r1_23, r2a23, r2n23, r2c23, r2_23, r2D23, r3a23, r3n23, r3c23, r3v23, r3D23, r3_23, r3E23, r4a23, r4n23, r4c23, r4_23, r4D23, a_c7_5, n_c7_5, n_c7_5, l_c7_5, D_c7_5, c7_6, 0, rfl, m86.pick [7, 8, 9, 10, 1, 2, 3, 4, 13] (by decide) rfl, (by first | omega | (intro h; omega) | (simp only [List.length_nil, true_and, and_true, or_true, true_or] <;> omega)), (by first | omega | (intro h; omega) | (simp only [List.length_nil, true_and, and_true, or_true, true_or] <;> omega)), (by first | omega | (intro h; omega) | (simp only [List.length_nil, true_and, and_true, or_true, true_or] <;> omega) | exact all_nil | assumption), (by first | omega | (intro h; omega) | (simp only [List.length_nil, true_and, and_true, or_true, true_or] <;> omega))⟩
end Go.Eng
