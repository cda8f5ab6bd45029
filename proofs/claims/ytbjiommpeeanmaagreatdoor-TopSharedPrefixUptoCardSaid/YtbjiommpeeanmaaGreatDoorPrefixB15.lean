/- Functions of the program and of the library keep their contracts. Conditions: none beyond each theorem's own. -/
import Derived.Test.YtbjiommpeeanmaaGreatDoorPrefixB5
import Derived.KernelRfl
set_option linter.all false
namespace Go.Eng
open Go Go.Proofs
theorem ag3_B15 : isAggT E0.P 3 = some false := by kernel_rfl
theorem ag24_B15 : isAggT E0.P 24 = some false := by kernel_rfl
theorem el24_B15 : elemT E0.P 24 = some 3 := by kernel_rfl
theorem ez3_B15 : elemZ E0.P 3 = some (1, [.int .i64 0]) := by kernel_rfl
theorem sb3_B15 : smallBytes E0.P 3 = true := by kernel_rfl
theorem un24_B15 : E0.P.underlying 24 = some (.slice 3) := by kernel_rfl
theorem sz24_B15 : sizeT E0.P 24 = some 1 := by kernel_rfl
theorem un34_B15 : E0.P.underlying 34 = some (.slice 24) := by kernel_rfl
theorem fo26_0_B15 : foff E0.P 26 0 = some 0 := by kernel_rfl
theorem fo26_1_B15 : foff E0.P 26 1 = some 1 := by kernel_rfl
theorem ag22_B15 : isAggT E0.P 22 = some false := by kernel_rfl
theorem un22_B15 : E0.P.underlying 22 = some (.slice 150) := by kernel_rfl
theorem ag26_B15 : isAggT E0.P 26 = some true := by kernel_rfl
theorem sz26_B15 : sizeT E0.P 26 = some 5 := by kernel_rfl
theorem zt38_B15 : zeroT E0.P 38 = some [.int .i64 0, .int .i64 0, .slice none 0 0, .slice none 0 0, .slice none 0 0, .slice none 0 0, .int .i64 0] := by kernel_rfl
theorem bl38__B15  : buildA E0.P 38 [] = some (.agg #[.int .i64 0, .int .i64 0, .slice none 0 0, .slice none 0 0, .slice none 0 0, .slice none 0 0, .int .i64 0]) := by kernel_rfl
theorem sz38_B15 : sizeT E0.P 38 = some 7 := by kernel_rfl
theorem ag38_B15 : isAggT E0.P 38 = some true := by kernel_rfl
theorem el34_B15 : elemT E0.P 34 = some 24 := by kernel_rfl
theorem ez24_B15 : elemZ E0.P 24 = some (1, [.slice none 0 0]) := by kernel_rfl
theorem sb24_B15 : smallBytes E0.P 24 = true := by kernel_rfl
theorem bl36_1i64_B15 (v0 : Int) : buildA E0.P 36 [(1, .int .i64 v0)] = some (.agg #[.slice none 0 0, .int .i64 v0]) := by kernel_rfl
theorem bl38_1i64_3s_5Asi64_B15 (v0 : Int) (v1a : Option Addr) (v1n v1c : Nat) (v2_0a : Option Addr) (v2_0n v2_0c : Nat) (v2_1 : Int) : buildA E0.P 38 [(1, .int .i64 v0), (3, .slice v1a v1n v1c), (5, .agg #[.slice v2_0a v2_0n v2_0c, .int .i64 v2_1])] = some (.agg #[.int .i64 0, .int .i64 v0, .slice none 0 0, .slice v1a v1n v1c, .slice none 0 0, .slice v2_0a v2_0n v2_0c, .int .i64 v2_1]) := by kernel_rfl
theorem fo38_3_B15 : foff E0.P 38 3 = some 3 := by kernel_rfl
theorem ag34_B15 : isAggT E0.P 34 = some false := by kernel_rfl
theorem fo38_2_B15 : foff E0.P 38 2 = some 2 := by kernel_rfl
theorem fo38_4_B15 : foff E0.P 38 4 = some 4 := by kernel_rfl
theorem lift_Identity (H : AHeap) (ci : Int) (a_cL : Option Addr) (n_cL c_cL : Nat) (cL : List (Int × Int)) (a_cA : Option Addr) (n_cA c_cA : Nat) (cA : List (Int × Int)) (a_cB : Option Addr) (n_cB c_cB : Nat) (cB : List Int) (a_cC : Option Addr) (n_cC c_cC : Nat) (cC : List Int) (w_ci : IntKind.i64.wrap ci = ci) (h_cL : V EP H a_cL n_cL c_cL cL) (h_cA : V EP H a_cA n_cA c_cA cA) (h_cB : V (EI .i64) H a_cB n_cB c_cB cB) (h_cC : V (EI .i64) H a_cC n_cC c_cC cC) : WF E0 66 [.agg #[.int .i64 ci, .slice a_cL n_cL c_cL, .slice a_cA n_cA c_cA, .slice a_cB n_cB c_cB, .slice a_cC n_cC c_cC]] H fun q => ∃ (r0 : Int) (r1 : Int) (r2a : Option Addr) (r2n : Nat) (r2c : Nat) (r2 : List Int) (r2D : List Nat) (r3a : Option Addr) (r3n : Nat) (r3c : Nat) (r3v : List (Option Addr × Nat × Nat)) (r3D : List Nat) (r3 : List (List Int)) (r3E : List Nat) (r4a : Option Addr) (r4n : Nat) (r4c : Nat) (r4 : List Int) (r4D : List Nat) (r6 : Int) (e : Int), q.1 = .tuple #[.agg #[.int .i64 r0, .int .i64 r1, .slice r2a r2n r2c, .slice r3a r3n r3c, .slice r4a r4n r4c, .slice none 0 0, .int .i64 r6], .int .i64 e] ∧ Mem [] H q.2 [R.own (EI .i64) r2a r2n r2c r2 r2D, R.own ES r3a r3n r3c r3v r3D, R.inn (EI .i64) r3v r3 r3E, R.own (EI .i64) r4a r4n r4c r4 r4D] ∧ (0 ≤ e ∧ e ≤ 100) ∧ (r2n ≤ 1000 ∧ r3n ≤ 1 ∧ r4n ≤ 1000) ∧ (∀ c ∈ r3, c.length ≤ 1000) ∧ ((0 ≤ r0 ∧ r0 ≤ 1000000) ∧ (0 ≤ r1 ∧ r1 ≤ 1000000) ∧ (0 ≤ r6 ∧ r6 ≤ 1000000)) := by
  obtain ⟨lo_ci, hi_ci⟩ := rangei64 w_ci
  obtain ⟨len_cL, cap_cL, max_cL, wf_cL⟩ := h_cL.len
  obtain ⟨len_cA, cap_cA, max_cA, wf_cA⟩ := h_cA.len
  obtain ⟨len_cB, cap_cB, max_cB, wf_cB⟩ := h_cB.len
  obtain ⟨len_cC, cap_cC, max_cC, wf_cC⟩ := h_cC.len
  have m0 : Mem [] H H [] := Mem.start
  refine WF.kg Tryz.func66 rfl rfl ?_
  refine KC.seq ?_
  refine KC.region ?_
  refine KO.boxM m0 rfl rfl (show _ = [.int .i64 ci, .slice a_cL n_cL c_cL, .slice a_cA n_cA c_cA, .slice a_cB n_cB c_cB, .slice a_cC n_cC c_cC] from rfl) rfl rfl fun H1 m2 => ?_
  refine KO.allocM m2 zt38_B15 rfl rfl fun H3 m4 => ?_
  refine KO.pv (PV.assign rfl) rfl rfl ?_
  refine KO.nil ?_
  refine KC.seq ?_
  refine KC.seq ?_
  refine KC.region ?_
  refine KO.loadN ag26_B15 sz26_B15 rfl (m4.row (i := 1) rfl) (takeN_of (p := [.int .i64 ci, .slice a_cL n_cL c_cL, .slice a_cA n_cA c_cA, .slice a_cB n_cB c_cB, .slice a_cC n_cC c_cC]) rfl  rfl) rfl rfl ?_
  refine KO.call rfl rfl rfl rfl (gates_Check H3 ci a_cL n_cL c_cL _ a_cA n_cA c_cA _ a_cB n_cB c_cB _ a_cC n_cC c_cC _ (wrap64 (by omega) (by omega)) (V.mem m4 h_cL) (V.mem m4 h_cA) (V.mem m4 h_cB) (V.mem m4 h_cC)) fun v5 H5 q5 => ?_
  obtain ⟨e5, hv5, mc5, p5_0, p5_1, p5_2⟩ := q5
  dsimp only at hv5 mc5
  subst hv5
  have m6 := m4.seq mc5
  refine KO.pv (PV.assign rfl) rfl rfl ?_
  refine KO.nil ?_
  refine KC.seq ?_
  refine KC.region ?_
  refine KO.pv (PV.move rfl) rfl rfl ?_
  refine KO.pv (PV.neqD rfl rfl rfl) rfl rfl ?_
  refine KO.nil ?_
  refine KC.condD rfl (fun h7 => ?_) (fun h7 => ?_)
  · refine KC.seq ?_
    refine KC.region ?_
    refine KO.pv (PV.build rfl bl38__B15) rfl rfl ?_
    refine KO.pv (PV.move rfl) rfl rfl ?_
    refine KO.storeM m6 (i := 0) rfl sz38_B15 rfl rfl rfl (show 0 + 7 ≤ 7 by decide) (show _ = [.int .i64 0, .int .i64 0, .slice none 0 0, .slice none 0 0, .slice none 0 0, .slice none 0 0, .int .i64 0] from rfl) rfl fun H8 m9 => ?_
    refine KO.pv (PV.assign rfl) rfl rfl ?_
    refine KO.nil ?_
    have m10 := m9.ownNil (C := (EI .i64))
    have m11 := m10.ownNil (C := ES)
    have m12 := m11.ownNil (C := (EI .i64))
    have m13 := m12.innNil (C := (EI .i64))
    exact KC.ret ⟨rfl, _, (.cell rfl (ldN (m9.row (i := 0) rfl) ag38_B15 sz38_B15 rfl rfl) (.tmp rfl .nil)), 0, 0, none, 0, 0, [], [], none, 0, 0, [], [], [], [], none, 0, 0, [], [], 0, e5, rfl, m13.pick [3, 2, 0, 1] (by decide) rfl, (by first | omega | (intro h; omega) | (simp only [List.length_nil, true_and, and_true, or_true, true_or] <;> omega)), (by first | omega | (intro h; omega) | (simp only [List.length_nil, true_and, and_true, or_true, true_or] <;> omega)), (by first | omega | (intro h; omega) | (simp only [List.length_nil, true_and, and_true, or_true, true_or] <;> omega) | exact all_nil | (exact all_one (by omega))), (by first | omega | (intro h; omega) | (simp only [List.length_nil, true_and, and_true, or_true, true_or] <;> omega))⟩
  · have p5_0t := p5_0 (by omega)
    obtain ⟨p5_0_i0, p5_0_al, p5_0_b, p5_0_c, p5_0_hb, p5_0_hc, p5_0_hl, p5_0_ha⟩ := id p5_0t
    refine KC.skip ?_
    refine KC.seq ?_
    refine KC.region ?_
    refine KO.makeSliceM (C := ES) (none, 0, 0) m6 el34_B15 ez24_B15 sb24_B15 rfl rfl (by omega) (by omega) (by omega) rfl rfl fun H14 m15 => ?_
    have m16 : Mem [] H H14 [R.row H5.next 24 true [.slice none 0 0], R.row H1.next 38 true [.int .i64 0, .int .i64 0, .slice none 0 0, .slice none 0 0, .slice none 0 0, .slice none 0 0, .int .i64 0], R.row H.next 26 true [.int .i64 ci, .slice a_cL n_cL c_cL, .slice a_cA n_cA c_cA, .slice a_cB n_cB c_cB, .slice a_cC n_cC c_cC]] := m15
    refine KO.pv (PV.build rfl (bl36_1i64_B15 _)) rfl rfl ?_
    refine KO.pv (PV.build rfl (bl38_1i64_3s_5Asi64_B15 _ _ _ _ _ _ _ _)) rfl rfl ?_
    refine KO.allocM m16 zt38_B15 rfl rfl fun H17 m18 => ?_
    refine KO.storeM m18 (i := 0) rfl sz38_B15 rfl rfl rfl (show 0 + 7 ≤ 7 by decide) (show _ = [.int .i64 0, .int .i64 1, .slice none 0 0, .slice (some ⟨H5.next, 0, none⟩) 1 1, .slice none 0 0, .slice none 0 0, .int .i64 1] from rfl) rfl fun H19 m20 => ?_
    refine KO.nil ?_
    refine KC.seq ?_
    refine KC.seq ?_
    refine KC.region ?_
    refine KO.pv (PV.assign rfl) rfl rfl ?_
    refine KO.nil ?_
    refine KC.block ?_
    refine KC.sub (l' := [(1, .pointer (some ⟨H.next, 0, none⟩)), (2, .pointer (some ⟨H1.next, 0, none⟩)), (5, .pointer (some ⟨H14.next, 0, none⟩)), (6, .int .i64 1)]) (.cons rfl (.cons rfl (.cons rfl (.cons rfl .nil)))) ?_
    have m21 := m20.lnilC (EI .i64) (e := 3) none rfl
    refine KC.loopN (fun kq lq A => ∃ (x6 : Int) (a_c14_0 : Option Addr) (n_c14_0 : Nat) (l_c14_0 : List Int) (D_c14_0 : List Nat), kq = (ci + 1 - x6).toNat ∧ lq = [(1, .pointer (some ⟨H.next, 0, none⟩)), (2, .pointer (some ⟨H1.next, 0, none⟩)), (5, .pointer (some ⟨H14.next, 0, none⟩)), (6, .int .i64 x6)] ∧ Mem [] H A [R.row H14.next 38 true [.int .i64 0, .int .i64 1, .slice none 0 0, .slice (some ⟨H5.next, 0, none⟩) 1 1, .slice none 0 0, .slice none 0 0, .int .i64 1], R.row H5.next 24 true [.slice a_c14_0 n_c14_0 n_c14_0], R.row H1.next 38 true [.int .i64 0, .int .i64 0, .slice none 0 0, .slice none 0 0, .slice none 0 0, .slice none 0 0, .int .i64 0], R.row H.next 26 true [.int .i64 ci, .slice a_cL n_cL c_cL, .slice a_cA n_cA c_cA, .slice a_cB n_cB c_cB, .slice a_cC n_cC c_cC], R.lst 3 1 a_c14_0 n_c14_0 (cells (EI .i64) l_c14_0) D_c14_0] ∧ (1 ≤ x6 ∧ x6 ≤ ci + 1) ∧ ((n_c14_0 : Int) < x6) ∧ (l_c14_0.length = n_c14_0) ∧ (∀ u ∈ l_c14_0, (EI .i64).wf u)) ?_ ((ci + 1 - 1).toNat) ⟨1, none, 0, [], [], rfl, rfl, (m21.pick [1, 2, 3, 4, 0] (by decide) rfl), (by first | omega | (simp only [splice, List.length_append, List.length_set, List.length_replicate, List.length_map, List.length_take, List.length_drop, List.length_cons, List.length_nil] <;> omega)), (by first | omega | (simp only [splice, List.length_append, List.length_set, List.length_replicate, List.length_map, List.length_take, List.length_drop, List.length_cons, List.length_nil] <;> omega)), (by first | omega | (simp only [splice, List.length_append, List.length_set, List.length_replicate, List.length_map, List.length_take, List.length_drop, List.length_cons, List.length_nil] <;> omega)), (fun _ h => absurd h List.not_mem_nil)⟩
    rintro kq lq A22 ⟨x6, a_c14_0, n_c14_0, l_c14_0, D_c14_0, rfl, rfl, m23, hx6, hc14, hl_l_c14_0, hw_l_c14_0⟩
    refine KC.seq ?_
    refine KC.seq ?_
    refine KC.region ?_
    refine KO.pv (PV.move rfl) rfl rfl ?_
    refine KO.pv (PV.fieldAddr fo26_0_B15 rfl) rfl rfl ?_
    refine KO.load1 ag3_B15 rfl (m23.row (i := 3) rfl) rfl rfl rfl ?_
    refine KO.pv (PV.leqD rfl rfl rfl) rfl rfl ?_
    refine KO.nil ?_
    refine KC.condD rfl (fun h24 => ?_) (fun h24 => ?_)
    · refine KC.skip ?_
      refine KC.seq ?_
      refine KC.block ?_
      refine KC.drawG (n := 12) (anc := [0, 1, 0, 4, 12, 28, 0, 64, 192, 508, 1023, 2047]) (hv := [9, 11]) (ord := [2, 3, 4, 5, 6, 7, 8, 9, 0, 1, 10, 11]) (by kernel_rfl) (by kernel_rfl) (by kernel_rfl) (by kernel_rfl) (by kernel_rfl) fun H25 n26 g27 => ?_
      have m28 := m23.room n26 g27 [8] (by decide) (by decide)
      refine KD.pv 4 (PV.fieldAddr fo38_3_B15 rfl) rfl rfl rfl (by kernel_rfl) rfl rfl rfl ?_
      refine KD.load 12 rfl (m28.row (i := 1) rfl) (by rw [read1 ag34_B15]; exact rfl) (pastGo (k := 1) (l := [H25]) (by kernel_rfl) rfl (pastCons ⟨_, (m28.row (i := 1) rfl), (by rw [read1 ag34_B15]; exact rfl)⟩ pastNil)) veq_sl rfl (by kernel_rfl) rfl rfl rfl ?_
      have hia29 : (0 : Nat) + (0 : Int).toNat * 1 = 0 := by decide
      refine KD.pv 28 (hia29 ▸ PV.indexAddrZ un34_B15 sz24_B15 rfl rfl rfl (by decide) (by decide)) rfl rfl rfl (by kernel_rfl) rfl rfl rfl ?_
      refine KD.load 60 rfl (m28.row (i := 2) rfl) (by rw [read1 ag24_B15]; exact rfl) (pastGo (k := 1) (l := [H25]) (by kernel_rfl) rfl (pastCons ⟨_, (m28.row (i := 2) rfl), (by rw [read1 ag24_B15]; exact rfl)⟩ pastNil)) veq_sl rfl (by kernel_rfl) rfl rfl rfl ?_
      refine KD.pv 124 (PV.move rfl) rfl rfl rfl (by kernel_rfl) rfl rfl rfl ?_
      refine KD.pv 252 (PV.mul rfl rfl (wrap64 (by omega) (by omega))) rfl rfl rfl (by kernel_rfl) rfl rfl rfl ?_
      refine KD.buildSliceM 508 m28 (j := 0) rfl el24_B15 ez3_B15 rfl rfl (show _ = some [.int .i64 (2 * x6)] from rfl) rfl (by kernel_rfl) rfl rfl rfl fun H30 m31 => ?_
      refine KD.appendC 1020 (C := (EI .i64)) m31 (j := 5) rfl el24_B15 ez3_B15 sb3_B15 un24_B15 rfl rfl (newElems_row1 (C := (EI .i64)) (y := (2 * x6)) (m31.row (i := 0) rfl) rfl) rfl (by first | omega | (simp only [splice, List.length_append, List.length_set, List.length_replicate, List.length_map, List.length_take, List.length_drop, List.length_cons, List.length_nil] <;> omega)) rfl (by kernel_rfl) rfl rfl rfl fun a33 D34 H32 m35 => ?_
      refine KD.pv 1021 (PV.fieldAddr fo38_3_B15 rfl) rfl rfl rfl (by kernel_rfl) rfl rfl rfl ?_
      refine KD.load 1023 rfl (m35.row (i := 1) rfl) (by rw [read1 ag34_B15]; exact rfl) (pastGo (k := 2) (l := [H32, H25]) (by kernel_rfl) rfl (pastCons ⟨_, (m35.row (i := 1) rfl), (by rw [read1 ag34_B15]; exact rfl)⟩ (pastCons ⟨_, (m28.row (i := 1) rfl), (by rw [read1 ag34_B15]; exact rfl)⟩ pastNil))) veq_sl rfl (by kernel_rfl) rfl rfl rfl ?_
      have hia36 : (0 : Nat) + (0 : Int).toNat * 1 = 0 := by decide
      refine KD.pv 2047 (hia36 ▸ PV.indexAddrZ un34_B15 sz24_B15 rfl rfl rfl (by decide) (by decide)) rfl rfl rfl (by kernel_rfl) rfl rfl rfl ?_
      refine KD.storeM 4095 m35 (j := 2) rfl sz24_B15 rfl rfl rfl (show 0 + 1 ≤ 1 by decide) (show _ = [.slice a33 (n_c14_0 + 1) (n_c14_0 + 1)] from rfl) rfl (by kernel_rfl) rfl rfl fun H37 m38 => ?_
      refine KD.nil ⟨rfl, ?_⟩
      refine KC.region ?_
      refine KO.pv (PV.move rfl) rfl rfl ?_
      refine KO.pv (PV.add rfl rfl (wrap64 (by omega) (by omega))) rfl rfl ?_
      refine KO.pv (PV.assign rfl) rfl rfl ?_
      refine KO.nil ?_
      exact ⟨_, _, (by omega), (.cons rfl (.cons rfl (.cons rfl (.cons rfl .nil)))), (x6 + 1), a33, (n_c14_0 + 1), (l_c14_0 ++ [(2 * x6)]), D34, rfl, rfl, (m38.pick [1, 2, 3, 4, 5] (by decide) rfl), (by first | omega | (simp only [splice, List.length_append, List.length_set, List.length_replicate, List.length_map, List.length_take, List.length_drop, List.length_cons, List.length_nil] <;> omega)), (by first | omega | (simp only [splice, List.length_append, List.length_set, List.length_replicate, List.length_map, List.length_take, List.length_drop, List.length_cons, List.length_nil] <;> omega)), (by first | omega | (simp only [splice, List.length_append, List.length_set, List.length_replicate, List.length_map, List.length_take, List.length_drop, List.length_cons, List.length_nil] <;> omega)), (all_app hw_l_c14_0 (all_one (wf64 (by omega) (by omega))))⟩
    · refine KC.exit ?_
      refine KC.seq ?_
      refine KC.seq ?_
      refine KC.region ?_
      refine KO.pv (PV.fieldAddr fo26_1_B15 rfl) rfl rfl ?_
      refine KO.load1 ag22_B15 rfl (m23.row (i := 3) rfl) rfl rfl rfl ?_
      refine KO.pv (PV.len un22_B15 rfl) rfl rfl ?_
      refine KO.pv (PV.move rfl) rfl rfl ?_
      refine KO.nil ?_
      refine KC.block ?_
      refine KC.sub (l' := [(1, .pointer (some ⟨H.next, 0, none⟩)), (2, .pointer (some ⟨H1.next, 0, none⟩)), (5, .pointer (some ⟨H14.next, 0, none⟩)), (36, .int .i64 (n_cL : Int)), (37, .int .i64 0)]) (.cons rfl (.cons rfl (.cons rfl (.cons rfl (.cons rfl .nil))))) ?_
      have m39 := m23.lnilC (EI .i64) (e := 3) none rfl
      refine KC.loopN (fun kq lq A => ∃ (x37 : Int) (a_c5_2 : Option Addr) (n_c5_2 : Nat) (l_c5_2 : List Int) (D_c5_2 : List Nat), kq = ((n_cL : Int) - x37).toNat ∧ lq = [(1, .pointer (some ⟨H.next, 0, none⟩)), (2, .pointer (some ⟨H1.next, 0, none⟩)), (5, .pointer (some ⟨H14.next, 0, none⟩)), (36, .int .i64 (n_cL : Int)), (37, .int .i64 x37)] ∧ Mem [] H A [R.row H14.next 38 true [.int .i64 0, .int .i64 1, .slice a_c5_2 n_c5_2 n_c5_2, .slice (some ⟨H5.next, 0, none⟩) 1 1, .slice none 0 0, .slice none 0 0, .int .i64 1], R.row H5.next 24 true [.slice a_c14_0 n_c14_0 n_c14_0], R.row H1.next 38 true [.int .i64 0, .int .i64 0, .slice none 0 0, .slice none 0 0, .slice none 0 0, .slice none 0 0, .int .i64 0], R.row H.next 26 true [.int .i64 ci, .slice a_cL n_cL c_cL, .slice a_cA n_cA c_cA, .slice a_cB n_cB c_cB, .slice a_cC n_cC c_cC], R.lst 3 1 a_c14_0 n_c14_0 (cells (EI .i64) l_c14_0) D_c14_0, R.lst 3 1 a_c5_2 n_c5_2 (cells (EI .i64) l_c5_2) D_c5_2] ∧ (0 ≤ x37 ∧ x37 ≤ (n_cL : Int)) ∧ ((n_c5_2 : Int) ≤ x37) ∧ (l_c5_2.length = n_c5_2) ∧ (∀ u ∈ l_c5_2, (EI .i64).wf u)) ?_ (((n_cL : Int) - 0).toNat) ⟨0, none, 0, [], [], rfl, rfl, (m39.pick [1, 2, 3, 4, 5, 0] (by decide) rfl), (by first | omega | assumption | (constructor <;> omega)), (by first | omega | (simp only [splice, List.length_append, List.length_set, List.length_replicate, List.length_map, List.length_take, List.length_drop, List.length_cons, List.length_nil] <;> omega)), (by first | omega | (simp only [splice, List.length_append, List.length_set, List.length_replicate, List.length_map, List.length_take, List.length_drop, List.length_cons, List.length_nil] <;> omega)), (fun _ h => absurd h List.not_mem_nil)⟩
      rintro kq lq A40 ⟨x37, a_c5_2, n_c5_2, l_c5_2, D_c5_2, rfl, rfl, m41, hr10, hn5, hl_l_c5_2, hw_l_c5_2⟩
      refine KC.seq ?_
      refine KC.region ?_
      refine KO.pv (PV.lssD rfl rfl rfl) rfl rfl ?_
      refine KO.nil ?_
      refine KC.seq ?_
      refine KC.condD rfl (fun h42 => ?_) (fun h42 => ?_)
      · refine KC.skip ?_
        refine KC.seq ?_
        refine KC.block ?_
        refine KC.seq ?_
        refine KC.region ?_
        refine KO.pv (PV.move rfl) rfl rfl ?_
        refine KO.pv (PV.assign rfl) rfl rfl ?_
        refine KO.nil ?_
        refine KC.region ?_
        refine KO.pv (PV.fieldAddr fo38_2_B15 rfl) rfl rfl ?_
        refine KO.load1 ag24_B15 rfl (m41.row (i := 0) rfl) rfl rfl rfl ?_
        refine KO.pv (PV.fieldAddr fo26_0_B15 rfl) rfl rfl ?_
        refine KO.load1 ag3_B15 rfl (m41.row (i := 3) rfl) rfl rfl rfl ?_
        refine KO.pv (PV.add rfl rfl (wrap64 (by omega) (by omega))) rfl rfl ?_
        refine KO.pv (PV.move rfl) rfl rfl ?_
        refine KO.pv (PV.add rfl rfl (wrap64 (by omega) (by omega))) rfl rfl ?_
        refine KO.pv (PV.mul rfl rfl (wrap64 (by omega) (by omega))) rfl rfl ?_
        refine KO.buildSliceM m41 el24_B15 ez3_B15 rfl rfl (show _ = some [.int .i64 (2 * ((ci + 1) + x37))] from rfl) rfl rfl fun H43 m44 => ?_
        refine KO.appendC (C := (EI .i64)) m44 (i := 6) rfl el24_B15 ez3_B15 sb3_B15 un24_B15 rfl rfl (newElems_row1 (C := (EI .i64)) (y := (2 * ((ci + 1) + x37))) (m44.row (i := 0) rfl) rfl) rfl (by first | omega | (simp only [splice, List.length_append, List.length_set, List.length_replicate, List.length_map, List.length_take, List.length_drop, List.length_cons, List.length_nil] <;> omega)) rfl rfl fun a46 D47 H45 m48 => ?_
        refine KO.pv (PV.fieldAddr fo38_2_B15 rfl) rfl rfl ?_
        refine KO.storeM m48 (i := 1) rfl sz24_B15 rfl rfl rfl (show 2 + 1 ≤ 7 by decide) (show _ = [.int .i64 0, .int .i64 1, .slice a46 (n_c5_2 + 1) (n_c5_2 + 1), .slice (some ⟨H5.next, 0, none⟩) 1 1, .slice none 0 0, .slice none 0 0, .int .i64 1] from rfl) rfl fun H49 m50 => ?_
        refine KO.nil ?_
        refine KC.region ?_
        refine KO.pv (PV.add rfl rfl (wrap64 (by omega) (by omega))) rfl rfl ?_
        refine KO.pv (PV.move rfl) rfl rfl ?_
        refine KO.nil ?_
        exact ⟨_, _, (by omega), (.cons rfl (.cons rfl (.cons rfl (.cons rfl (.cons rfl .nil))))), (x37 + 1), a46, (n_c5_2 + 1), (l_c5_2 ++ [(2 * ((ci + 1) + x37))]), D47, rfl, rfl, (m50.pick [1, 2, 3, 4, 5, 6] (by decide) rfl), (by first | omega | assumption | (constructor <;> omega)), (by first | omega | (simp only [splice, List.length_append, List.length_set, List.length_replicate, List.length_map, List.length_take, List.length_drop, List.length_cons, List.length_nil] <;> omega)), (by first | omega | (simp only [splice, List.length_append, List.length_set, List.length_replicate, List.length_map, List.length_take, List.length_drop, List.length_cons, List.length_nil] <;> omega)), (all_app hw_l_c5_2 (all_one (wf64 (by omega) (by omega))))⟩
      · refine KC.exit ?_
        refine KC.seq ?_
        refine KC.region ?_
        refine KO.pv (PV.fieldAddr fo38_2_B15 rfl) rfl rfl ?_
        refine KO.load1 ag24_B15 rfl (m41.row (i := 0) rfl) rfl rfl rfl ?_
        refine KO.call rfl rfl rfl rfl (Clone_int A40 a_c5_2 n_c5_2 n_c5_2 _ (m41.vlst (i := 5) rfl hw_l_c5_2 (by first | omega | (simp only [splice, List.length_append, List.length_set, List.length_replicate, List.length_map, List.length_take, List.length_drop, List.length_cons, List.length_nil] <;> omega))) (by first | omega | assumption)) fun v51 H51 q51 => ?_
        obtain ⟨a51, n51, xs51, D51, hv51, mc51, p51_0, p51_1, p51_2, p51_3⟩ := q51
        dsimp only at hv51 mc51
        subst hv51
        have m52 := m41.seq mc51
        refine KO.pv (PV.fieldAddr fo38_4_B15 rfl) rfl rfl ?_
        refine KO.storeM m52 (i := 1) rfl sz24_B15 rfl rfl rfl (show 4 + 1 ≤ 7 by decide) (show _ = [.int .i64 0, .int .i64 1, .slice a_c5_2 n_c5_2 n_c5_2, .slice (some ⟨H5.next, 0, none⟩) 1 1, .slice a51 n51 n51, .slice none 0 0, .int .i64 1] from rfl) rfl fun H53 m54 => ?_
        refine KO.nil ?_
        refine KC.seq ?_
        refine KC.region ?_
        refine KO.loadN ag38_B15 sz38_B15 rfl (m54.row (i := 1) rfl) (takeN_of (p := [.int .i64 0, .int .i64 1, .slice a_c5_2 n_c5_2 n_c5_2, .slice (some ⟨H5.next, 0, none⟩) 1 1, .slice a51 n51 n51, .slice none 0 0, .int .i64 1]) rfl  rfl) rfl rfl ?_
        refine KO.storeM m54 (i := 3) rfl sz38_B15 rfl rfl rfl (show 0 + 7 ≤ 7 by decide) (show _ = [.int .i64 0, .int .i64 1, .slice a_c5_2 n_c5_2 n_c5_2, .slice (some ⟨H5.next, 0, none⟩) 1 1, .slice a51 n51 n51, .slice none 0 0, .int .i64 1] from rfl) rfl fun H55 m56 => ?_
        refine KO.pv (PV.assign rfl) rfl rfl ?_
        refine KO.nil ?_
        have m57 := m56.ownLst (C := (EI .i64)) (i := 6) rfl hw_l_c5_2 (by first | omega | (simp only [splice, List.length_append, List.length_set, List.length_replicate, List.length_map, List.length_take, List.length_drop, List.length_cons, List.length_nil] <;> omega))
        have m58 := m57.ownRow (C := ES) (xs := [(a_c14_0, n_c14_0, n_c14_0)]) (i := 2) (sp := none) (n := 1) (c := 1) rfl (fun _ _ => trivial) rfl (by omega) (by omega)
        have m59 := m58.ownLst (C := (EI .i64)) (i := 0) rfl (by assumption) (by first | omega | (simp only [splice, List.length_append, List.length_set, List.length_replicate, List.length_map, List.length_take, List.length_drop, List.length_cons, List.length_nil] <;> omega))
        have m60 := m59.ownLst (C := (EI .i64)) (i := 5) rfl hw_l_c14_0 (by first | omega | (simp only [splice, List.length_append, List.length_set, List.length_replicate, List.length_map, List.length_take, List.length_drop, List.length_cons, List.length_nil] <;> omega))
        have m61 := m60.innOne (i := 5) rfl
        exact KC.ret ⟨rfl, _, (.cell rfl (ldN (m56.row (i := 3) rfl) ag38_B15 sz38_B15 rfl rfl) (.tmp rfl .nil)), 0, 1, a_c5_2, n_c5_2, n_c5_2, l_c5_2, D_c5_2, (some ⟨H5.next, 0, none⟩), 1, 1, [(a_c14_0, n_c14_0, n_c14_0)], [H5.next], [l_c14_0], D_c14_0, a51, n51, n51, xs51, D51, 1, 0, rfl, m61.pick [6, 2, 5, 0] (by decide) rfl, (by first | omega | (intro h; omega) | (simp only [List.length_nil, true_and, and_true, or_true, true_or] <;> omega)), (by first | omega | (intro h; omega) | (simp only [List.length_nil, true_and, and_true, or_true, true_or] <;> omega)), (by first | omega | (intro h; omega) | (simp only [List.length_nil, true_and, and_true, or_true, true_or] <;> omega) | exact all_nil | (exact all_one (by omega))), (by first | omega | (intro h; omega) | (simp only [List.length_nil, true_and, and_true, or_true, true_or] <;> omega))⟩
end Go.Eng
