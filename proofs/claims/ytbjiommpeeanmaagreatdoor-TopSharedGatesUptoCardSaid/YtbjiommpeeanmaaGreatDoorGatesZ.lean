/- TopSharedGates answers true on the interpreter, and so on the machine. Conditions: none beyond each theorem's own. -/
import Derived.Test.YtbjiommpeeanmaaGreatDoorGatesB23
import Derived.Test.YtbjiommpeeanmaaGreatDoorGatesA
import Derived.KernelRfl
import Derived.Test.YtbjiommpeeanmaaGreatDoorAlive
set_option linter.all false
namespace Go.Eng
open Go Go.Proofs
theorem ag3_ZGates : isAggT E0.P 3 = some false := by kernel_rfl
theorem sz24_ZGates : sizeT E0.P 24 = some 1 := by kernel_rfl
theorem ag26_ZGates : isAggT E0.P 26 = some true := by kernel_rfl
theorem sz26_ZGates : sizeT E0.P 26 = some 5 := by kernel_rfl
theorem zt24_ZGates : zeroT E0.P 24 = some [.slice none 0 0] := by kernel_rfl
theorem el33_ZGates : elemT E0.P 33 = some 47 := by kernel_rfl
theorem ez47_ZGates : elemZ E0.P 47 = some (1, [.nilFunc]) := by kernel_rfl
theorem fo78_0_ZGates : foff E0.P 78 0 = some 0 := by kernel_rfl
theorem fo78_1_ZGates : foff E0.P 78 1 = some 5 := by kernel_rfl
theorem fo78_2_ZGates : foff E0.P 78 2 = some 6 := by kernel_rfl
theorem ag78_ZGates : isAggT E0.P 78 = some true := by kernel_rfl
theorem sz78_ZGates : sizeT E0.P 78 = some 7 := by kernel_rfl
theorem el92_ZGates : elemT E0.P 92 = some 84 := by kernel_rfl
theorem ez84_ZGates : elemZ E0.P 84 = some (1, [.nilFunc]) := by kernel_rfl
abbrev ShGates : Sh := .fld 0 (.fld 0 (.num .i64) (.fld 1 (.list 2 (.fld 0 (.num .i64) (.fld 1 (.num .i64) .nil))) (.fld 2 (.list 2 (.fld 0 (.num .i64) (.fld 1 (.num .i64) .nil))) (.fld 3 (.list 1 (.num .i64)) (.fld 4 (.list 1 (.num .i64)) .nil))))) (.fld 5 (.num .i64) (.fld 6 (.num .i64) .nil))
theorem arg_Gates {H : AHeap} {bx : Nat} {ns : List Int} {ss : List ByteArray} {D : List Nat} (h : Own H ⟨true, true, false⟩ ShGates bx ns ss D) (hl : ns.length ≤ 63000) :
    ∃ (r : Row) (yu0 : Int) (ya1 : Option Addr) (yn1 yc1 : Nat) (yl1 : List (Int × Int)) (ya2 : Option Addr) (yn2 yc2 : Nat) (yl2 : List (Int × Int)) (ya3 : Option Addr) (yn3 yc3 : Nat) (yl3 : List Int) (ya4 : Option Addr) (yn4 yc4 : Nat) (yl4 : List Int) (yu5 : Int) (yu6 : Int), H.row bx = some r ∧ r.cs[0]? = some (.int .i64 yu0) ∧ IntKind.i64.wrap yu0 = yu0 ∧ r.cs[1]? = some (.slice ya1 yn1 yc1) ∧ V EP H ya1 yn1 yc1 yl1 ∧ exactBase ya1 = true ∧ yn1 ≤ 63000 ∧ r.cs[2]? = some (.slice ya2 yn2 yc2) ∧ V EP H ya2 yn2 yc2 yl2 ∧ exactBase ya2 = true ∧ yn2 ≤ 63000 ∧ r.cs[3]? = some (.slice ya3 yn3 yc3) ∧ V (EI .i64) H ya3 yn3 yc3 yl3 ∧ exactBase ya3 = true ∧ yn3 ≤ 63000 ∧ r.cs[4]? = some (.slice ya4 yn4 yc4) ∧ V (EI .i64) H ya4 yn4 yc4 yl4 ∧ exactBase ya4 = true ∧ yn4 ≤ 63000 ∧ r.cs[5]? = some (.int .i64 yu5) ∧ IntKind.i64.wrap yu5 = yu5 ∧ r.cs[6]? = some (.int .i64 yu6) ∧ IntKind.i64.wrap yu6 = yu6 := by
  obtain ⟨r, hr, hw, hR⟩ := h.ex
  have hD := h.lD
  obtain ⟨n0, s0, D0, m0, t0, B0, r0, w0, rfl, rfl, rfl⟩ := hR
  obtain ⟨n1, s1, D1, m1, t1, B1, r1, w1, rfl, rfl, rfl⟩ := w0
  obtain ⟨n2, s2, D2, m2, t2, B2, r2, w2, rfl, rfl, rfl⟩ := w1
  obtain ⟨rfl, rfl, rfl⟩ := w2
  obtain ⟨n3, s3, D3, m3, t3, B3, r3, w3, rfl, rfl, rfl⟩ := r0
  obtain ⟨n4, s4, D4, m4, t4, B4, r4, w4, rfl, rfl, rfl⟩ := w3
  obtain ⟨n5, s5, D5, m5, t5, B5, r5, w5, rfl, rfl, rfl⟩ := w4
  obtain ⟨n6, s6, D6, m6, t6, B6, r6, w6, rfl, rfl, rfl⟩ := w5
  obtain ⟨n7, s7, D7, m7, t7, B7, r7, w7, rfl, rfl, rfl⟩ := w6
  obtain ⟨rfl, rfl, rfl⟩ := w7
  obtain ⟨yu0, k3, z3, -⟩ := r3
  obtain ⟨ya1, yn1, yc1, yl1, k4, v4, e4, g4⟩ := rd_list rdP r4 (fun j hj => hD j (by simp only [List.mem_append, hj, true_or, or_true]))
  obtain ⟨ya2, yn2, yc2, yl2, k5, v5, e5, g5⟩ := rd_list rdP r5 (fun j hj => hD j (by simp only [List.mem_append, hj, true_or, or_true]))
  obtain ⟨ya3, yn3, yc3, yl3, k6, v6, e6, g6⟩ := rd_list (rdI .i64) r6 (fun j hj => hD j (by simp only [List.mem_append, hj, true_or, or_true]))
  obtain ⟨ya4, yn4, yc4, yl4, k7, v7, e7, g7⟩ := rd_list (rdI .i64) r7 (fun j hj => hD j (by simp only [List.mem_append, hj, true_or, or_true]))
  obtain ⟨yu5, k1, z1, -⟩ := r1
  obtain ⟨yu6, k2, z2, -⟩ := r2
  exact ⟨r, yu0, ya1, yn1, yc1, yl1, ya2, yn2, yc2, yl2, ya3, yn3, yc3, yl3, ya4, yn4, yc4, yl4, yu5, yu6, hr, k3, z3, k4, v4, e4, (by simp only [List.length_append] at hl; omega), k5, v5, e5, (by simp only [List.length_append] at hl; omega), k6, v6, e6, (by simp only [List.length_append] at hl; omega), k7, v7, e7, (by simp only [List.length_append] at hl; omega), k1, z1, k2, z2⟩
theorem call_41 : CallOK' E0 3 9 47 41 ShGates := by
  intro H bx ns ss D hO hl1 _
  obtain ⟨r, yu0, ya1, yn1, yc1, yl1, ya2, yn2, yc2, yl2, ya3, yn3, yc3, yl3, ya4, yn4, yc4, yl4, yu5, yu6, hr, x0, w_u0, x1, h_l1, ex_l1, b_l1, x2, h_l2, ex_l2, b_l2, x3, h_l3, ex_l3, b_l3, x4, h_l4, ex_l4, b_l4, x5, w_u5, x6, w_u6⟩ := arg_Gates hO hl1
  obtain ⟨lo_u0, hi_u0⟩ := rangei64 w_u0
  obtain ⟨len_l1, cap_l1, max_l1, wf_l1⟩ := h_l1.len
  obtain ⟨len_l2, cap_l2, max_l2, wf_l2⟩ := h_l2.len
  obtain ⟨len_l3, cap_l3, max_l3, wf_l3⟩ := h_l3.len
  obtain ⟨len_l4, cap_l4, max_l4, wf_l4⟩ := h_l4.len
  obtain ⟨lo_u5, hi_u5⟩ := rangei64 w_u5
  obtain ⟨lo_u6, hi_u6⟩ := rangei64 w_u6
  have m0 : Mem [] H H [] := Mem.start
  refine WF.kg Tryz.func41 rfl rfl ?_
  refine KC.seq ?_
  refine KC.region ?_
  refine KO.pv (PV.assign rfl) rfl rfl ?_
  refine KO.nil ?_
  refine KC.seq ?_
  refine KC.region ?_
  refine KO.pv (PV.move rfl) rfl rfl ?_
  refine KO.pv (PV.nilCheck rfl) rfl rfl ?_
  refine KO.pv (PV.fieldAddr fo78_0_ZGates rfl) rfl rfl ?_
  refine KO.loadN ag26_ZGates sz26_ZGates rfl (m0.row0 hO.lb hr) (takeN_cons x0 (takeN_cons x1 (takeN_cons x2 (takeN_cons x3 (takeN_cons x4 takeN_nil))))) rfl rfl ?_
  refine KO.call rfl rfl rfl rfl (gates_Check H yu0 ya1 yn1 yc1 _ ya2 yn2 yc2 _ ya3 yn3 yc3 _ ya4 yn4 yc4 _ (wrap64 (by omega) (by omega)) (V.mem m0 h_l1) (V.mem m0 h_l2) (V.mem m0 h_l3) (V.mem m0 h_l4)) fun v1 H1 q1 => ?_
  obtain ⟨e1, hv1, mc1, p1_0, p1_1, p1_2⟩ := q1
  dsimp only at hv1 mc1
  subst hv1
  have m2 := m0.seq mc1
  refine KO.nil ?_
  refine KC.seq ?_
  refine KC.region ?_
  refine KO.pv (PV.assign rfl) rfl rfl ?_
  refine KO.nil ?_
  exact KC.ret ⟨rfl, _, (.tmp rfl .nil), call_none m2⟩
theorem call_43 : CallOK' E0 3 9 47 43 ShGates := by
  intro H bx ns ss D hO hl1 _
  obtain ⟨r, yu0, ya1, yn1, yc1, yl1, ya2, yn2, yc2, yl2, ya3, yn3, yc3, yl3, ya4, yn4, yc4, yl4, yu5, yu6, hr, x0, w_u0, x1, h_l1, ex_l1, b_l1, x2, h_l2, ex_l2, b_l2, x3, h_l3, ex_l3, b_l3, x4, h_l4, ex_l4, b_l4, x5, w_u5, x6, w_u6⟩ := arg_Gates hO hl1
  obtain ⟨lo_u0, hi_u0⟩ := rangei64 w_u0
  obtain ⟨len_l1, cap_l1, max_l1, wf_l1⟩ := h_l1.len
  obtain ⟨len_l2, cap_l2, max_l2, wf_l2⟩ := h_l2.len
  obtain ⟨len_l3, cap_l3, max_l3, wf_l3⟩ := h_l3.len
  obtain ⟨len_l4, cap_l4, max_l4, wf_l4⟩ := h_l4.len
  obtain ⟨lo_u5, hi_u5⟩ := rangei64 w_u5
  obtain ⟨lo_u6, hi_u6⟩ := rangei64 w_u6
  have m0 : Mem [] H H [] := Mem.start
  refine WF.kg Tryz.func43 rfl rfl ?_
  refine KC.seq ?_
  refine KC.region ?_
  refine KO.pv (PV.assign rfl) rfl rfl ?_
  refine KO.nil ?_
  refine KC.seq ?_
  refine KC.region ?_
  refine KO.pv (PV.move rfl) rfl rfl ?_
  refine KO.pv (PV.nilCheck rfl) rfl rfl ?_
  refine KO.pv (PV.fieldAddr fo78_0_ZGates rfl) rfl rfl ?_
  refine KO.loadN ag26_ZGates sz26_ZGates rfl (m0.row0 hO.lb hr) (takeN_cons x0 (takeN_cons x1 (takeN_cons x2 (takeN_cons x3 (takeN_cons x4 takeN_nil))))) rfl rfl ?_
  refine KO.call rfl rfl rfl rfl (gates_Vars H yu0 ya1 yn1 yc1 _ ya2 yn2 yc2 _ ya3 yn3 yc3 _ ya4 yn4 yc4 _ (wrap64 (by omega) (by omega)) (V.mem m0 h_l1) (V.mem m0 h_l2) (V.mem m0 h_l3) (V.mem m0 h_l4)) fun v1 H1 q1 => ?_
  obtain ⟨n1, e1, hv1, mc1, p1_0, p1_1, p1_2⟩ := q1
  dsimp only at hv1 mc1
  subst hv1
  have m2 := m0.seq mc1
  refine KO.nil ?_
  refine KC.seq ?_
  refine KC.region ?_
  refine KO.pv (PV.assign rfl) rfl rfl ?_
  refine KO.nil ?_
  exact KC.ret ⟨rfl, _, (.tmp rfl .nil), call_none m2⟩
theorem call_45 : CallOK' E0 3 9 47 45 ShGates := by
  intro H bx ns ss D hO hl1 _
  obtain ⟨r, yu0, ya1, yn1, yc1, yl1, ya2, yn2, yc2, yl2, ya3, yn3, yc3, yl3, ya4, yn4, yc4, yl4, yu5, yu6, hr, x0, w_u0, x1, h_l1, ex_l1, b_l1, x2, h_l2, ex_l2, b_l2, x3, h_l3, ex_l3, b_l3, x4, h_l4, ex_l4, b_l4, x5, w_u5, x6, w_u6⟩ := arg_Gates hO hl1
  obtain ⟨lo_u0, hi_u0⟩ := rangei64 w_u0
  obtain ⟨len_l1, cap_l1, max_l1, wf_l1⟩ := h_l1.len
  obtain ⟨len_l2, cap_l2, max_l2, wf_l2⟩ := h_l2.len
  obtain ⟨len_l3, cap_l3, max_l3, wf_l3⟩ := h_l3.len
  obtain ⟨len_l4, cap_l4, max_l4, wf_l4⟩ := h_l4.len
  obtain ⟨lo_u5, hi_u5⟩ := rangei64 w_u5
  obtain ⟨lo_u6, hi_u6⟩ := rangei64 w_u6
  have m0 : Mem [] H H [] := Mem.start
  refine WF.kg Tryz.func45 rfl rfl ?_
  refine KC.seq ?_
  refine KC.region ?_
  refine KO.pv (PV.assign rfl) rfl rfl ?_
  refine KO.nil ?_
  refine KC.seq ?_
  refine KC.drawG (n := 9) (anc := [0, 1, 3, 7, 0, 16, 48, 112, 255]) (hv := [8]) (ord := [0, 1, 2, 3, 4, 5, 6, 7, 8]) (by kernel_rfl) (by kernel_rfl) (by kernel_rfl) (by kernel_rfl) (by kernel_rfl) fun H1 n2 g3 => ?_
  have m4 := m0.room n2 g3 [] (by decide) (by decide)
  refine KD.pv 1 (PV.move rfl) rfl rfl rfl (by kernel_rfl) rfl rfl rfl ?_
  refine KD.pv 3 (PV.nilCheck rfl) rfl rfl rfl (by kernel_rfl) rfl rfl rfl ?_
  refine KD.pv 7 (PV.fieldAddr fo78_0_ZGates rfl) rfl rfl rfl (by kernel_rfl) rfl rfl rfl ?_
  refine KD.load 15 rfl (m4.row0 hO.lb hr) (readN ag26_ZGates sz26_ZGates (takeN_cons x0 (takeN_cons x1 (takeN_cons x2 (takeN_cons x3 (takeN_cons x4 takeN_nil)))))) (pastGo (k := 1) (l := [H1]) (by kernel_rfl) rfl (pastCons ⟨_, (m4.row0 hO.lb hr), (readN ag26_ZGates sz26_ZGates (takeN_cons x0 (takeN_cons x1 (takeN_cons x2 (takeN_cons x3 (takeN_cons x4 takeN_nil))))))⟩ pastNil)) (veq_agg (veqCons veqI (veqCons veqS (veqCons veqS (veqCons veqS (veqCons veqS veqNil)))))) rfl (by kernel_rfl) rfl rfl rfl ?_
  refine KD.pv 31 (PV.move rfl) rfl rfl rfl (by kernel_rfl) rfl rfl rfl ?_
  refine KD.pv 63 (PV.nilCheck rfl) rfl rfl rfl (by kernel_rfl) rfl rfl rfl ?_
  refine KD.pv 127 (PV.fieldAddr fo78_1_ZGates rfl) rfl rfl rfl (by kernel_rfl) rfl rfl rfl ?_
  refine KD.load 255 rfl (m4.row0 hO.lb hr) (by rw [read1 ag3_ZGates]; exact x5) (pastGo (k := 1) (l := [H1]) (by kernel_rfl) rfl (pastCons ⟨_, (m4.row0 hO.lb hr), (by rw [read1 ag3_ZGates]; exact x5)⟩ pastNil)) veq_int rfl (by kernel_rfl) rfl rfl rfl ?_
  refine KD.call 511 rfl rfl rfl (by kernel_rfl) rfl rfl rfl (gates_Kind H1 yu0 ya1 yn1 yc1 _ ya2 yn2 yc2 _ ya3 yn3 yc3 _ ya4 yn4 yc4 _ yu5 (wrap64 (by omega) (by omega)) (V.mem m4 h_l1) (V.mem m4 h_l2) (V.mem m4 h_l3) (V.mem m4 h_l4) (wrap64 (by omega) (by omega))) fun v5 H5 q5 => ?_
  obtain ⟨k5, i5, e5, hv5, mc5, p5_0, p5_1, p5_2⟩ := q5
  dsimp only at hv5 mc5
  subst hv5
  have m6 := m4.seq mc5
  refine KD.nil ⟨rfl, ?_⟩
  refine KC.seq ?_
  refine KC.region ?_
  refine KO.pv (PV.assign rfl) rfl rfl ?_
  refine KO.nil ?_
  exact KC.ret ⟨rfl, _, (.tmp rfl .nil), call_none m6⟩
theorem call_47 : CallOK' E0 3 9 47 47 ShGates := by
  intro H bx ns ss D hO hl1 _
  obtain ⟨r, yu0, ya1, yn1, yc1, yl1, ya2, yn2, yc2, yl2, ya3, yn3, yc3, yl3, ya4, yn4, yc4, yl4, yu5, yu6, hr, x0, w_u0, x1, h_l1, ex_l1, b_l1, x2, h_l2, ex_l2, b_l2, x3, h_l3, ex_l3, b_l3, x4, h_l4, ex_l4, b_l4, x5, w_u5, x6, w_u6⟩ := arg_Gates hO hl1
  obtain ⟨lo_u0, hi_u0⟩ := rangei64 w_u0
  obtain ⟨len_l1, cap_l1, max_l1, wf_l1⟩ := h_l1.len
  obtain ⟨len_l2, cap_l2, max_l2, wf_l2⟩ := h_l2.len
  obtain ⟨len_l3, cap_l3, max_l3, wf_l3⟩ := h_l3.len
  obtain ⟨len_l4, cap_l4, max_l4, wf_l4⟩ := h_l4.len
  obtain ⟨lo_u5, hi_u5⟩ := rangei64 w_u5
  obtain ⟨lo_u6, hi_u6⟩ := rangei64 w_u6
  have m0 : Mem [] H H [] := Mem.start
  refine WF.kg Tryz.func47 rfl rfl ?_
  refine KC.seq ?_
  refine KC.region ?_
  refine KO.pv (PV.assign rfl) rfl rfl ?_
  refine KO.nil ?_
  refine KC.seq ?_
  refine KC.drawG (n := 15) (anc := [0, 1, 3, 7, 0, 16, 48, 112, 255, 511, 1023, 1023, 0, 6143, 16383]) (hv := [8, 13]) (ord := [0, 1, 2, 3, 4, 5, 6, 7, 8, 9, 10, 12, 13, 11, 14]) (by kernel_rfl) (by kernel_rfl) (by kernel_rfl) (by kernel_rfl) (by kernel_rfl) fun H1 n2 g3 => ?_
  have m4 := m0.room n2 g3 [12] (by decide) (by decide)
  refine KD.pv 1 (PV.move rfl) rfl rfl rfl (by kernel_rfl) rfl rfl rfl ?_
  refine KD.pv 3 (PV.nilCheck rfl) rfl rfl rfl (by kernel_rfl) rfl rfl rfl ?_
  refine KD.pv 7 (PV.fieldAddr fo78_0_ZGates rfl) rfl rfl rfl (by kernel_rfl) rfl rfl rfl ?_
  refine KD.load 15 rfl (m4.row0 hO.lb hr) (readN ag26_ZGates sz26_ZGates (takeN_cons x0 (takeN_cons x1 (takeN_cons x2 (takeN_cons x3 (takeN_cons x4 takeN_nil)))))) (pastGo (k := 1) (l := [H1]) (by kernel_rfl) rfl (pastCons ⟨_, (m4.row0 hO.lb hr), (readN ag26_ZGates sz26_ZGates (takeN_cons x0 (takeN_cons x1 (takeN_cons x2 (takeN_cons x3 (takeN_cons x4 takeN_nil))))))⟩ pastNil)) (veq_agg (veqCons veqI (veqCons veqS (veqCons veqS (veqCons veqS (veqCons veqS veqNil)))))) rfl (by kernel_rfl) rfl rfl rfl ?_
  refine KD.pv 31 (PV.move rfl) rfl rfl rfl (by kernel_rfl) rfl rfl rfl ?_
  refine KD.pv 63 (PV.nilCheck rfl) rfl rfl rfl (by kernel_rfl) rfl rfl rfl ?_
  refine KD.pv 127 (PV.fieldAddr fo78_2_ZGates rfl) rfl rfl rfl (by kernel_rfl) rfl rfl rfl ?_
  refine KD.load 255 rfl (m4.row0 hO.lb hr) (by rw [read1 ag3_ZGates]; exact x6) (pastGo (k := 1) (l := [H1]) (by kernel_rfl) rfl (pastCons ⟨_, (m4.row0 hO.lb hr), (by rw [read1 ag3_ZGates]; exact x6)⟩ pastNil)) veq_int rfl (by kernel_rfl) rfl rfl rfl ?_
  refine KD.call 511 rfl rfl rfl (by kernel_rfl) rfl rfl rfl (gates_Cone H1 yu0 ya1 yn1 yc1 _ ya2 yn2 yc2 _ ya3 yn3 yc3 _ ya4 yn4 yc4 _ yu6 (wrap64 (by omega) (by omega)) (V.mem m4 h_l1) (V.mem m4 h_l2) (V.mem m4 h_l3) (V.mem m4 h_l4) (wrap64 (by omega) (by omega))) fun v5 H5 q5 => ?_
  obtain ⟨a5, n5, k5, xs5, D5, e5, hv5, mc5, p5_0, p5_1⟩ := q5
  dsimp only at hv5 mc5
  subst hv5
  have m6 := m4.seq mc5
  refine KD.pv 1023 (PV.move rfl) rfl rfl rfl (by kernel_rfl) rfl rfl rfl ?_
  refine KD.pv 2047 (PV.extract rfl rfl) rfl rfl rfl (by kernel_rfl) rfl rfl rfl ?_
  refine KD.allocM 6143 m6 (j := 1) rfl zt24_ZGates rfl (by kernel_rfl) rfl rfl rfl fun H7 m8 => ?_
  refine KD.storeM 14335 m8 (j := 1) rfl sz24_ZGates rfl rfl rfl (show 0 + 1 ≤ 1 by decide) (show _ = [.slice a5 n5 k5] from rfl) rfl (by kernel_rfl) rfl rfl fun H9 m10 => ?_
  refine KD.pv 16383 (PV.extract rfl rfl) rfl rfl rfl (by kernel_rfl) rfl rfl rfl ?_
  refine KD.pv 32767 (PV.assign rfl) rfl rfl rfl (by kernel_rfl) rfl rfl rfl ?_
  refine KD.nil ⟨rfl, ?_⟩
  refine KC.seq ?_
  refine KC.region ?_
  refine KO.pv (PV.makeFunc rfl rfl) rfl rfl ?_
  refine KO.buildSliceM m10 el33_ZGates ez47_ZGates rfl rfl (show _ = some [.func (.func 49) #[] #[.pointer (some ⟨(H.next + 12), 0, none⟩)]] from rfl) rfl rfl fun H11 m12 => ?_
  refine KO.pv (PV.assign rfl) rfl rfl ?_
  refine KO.nil ?_
  obtain ⟨nr13, rd13, ln13, lm13⟩ := OwnV.rd (rdI .i64) (m12.res (i := 1) rfl) (cs := [.slice a5 n5 k5]) (o := 0) rfl
  exact KC.ret ⟨rfl, _, (.tmp rfl .nil), call_one (m12.pick [0, 2, 1] (by decide) rfl) rfl (see_49 9) rd13 (by simp [R.own, R.inn, pickL]) (by omega) (by simp)⟩
theorem call_51 : CallOK' E0 3 9 47 51 ShGates := by
  intro H bx ns ss D hO hl1 _
  obtain ⟨r, yu0, ya1, yn1, yc1, yl1, ya2, yn2, yc2, yl2, ya3, yn3, yc3, yl3, ya4, yn4, yc4, yl4, yu5, yu6, hr, x0, w_u0, x1, h_l1, ex_l1, b_l1, x2, h_l2, ex_l2, b_l2, x3, h_l3, ex_l3, b_l3, x4, h_l4, ex_l4, b_l4, x5, w_u5, x6, w_u6⟩ := arg_Gates hO hl1
  obtain ⟨lo_u0, hi_u0⟩ := rangei64 w_u0
  obtain ⟨len_l1, cap_l1, max_l1, wf_l1⟩ := h_l1.len
  obtain ⟨len_l2, cap_l2, max_l2, wf_l2⟩ := h_l2.len
  obtain ⟨len_l3, cap_l3, max_l3, wf_l3⟩ := h_l3.len
  obtain ⟨len_l4, cap_l4, max_l4, wf_l4⟩ := h_l4.len
  obtain ⟨lo_u5, hi_u5⟩ := rangei64 w_u5
  obtain ⟨lo_u6, hi_u6⟩ := rangei64 w_u6
  have m0 : Mem [] H H [] := Mem.start
  refine WF.kg Tryz.func51 rfl rfl ?_
  refine KC.seq ?_
  refine KC.region ?_
  refine KO.pv (PV.assign rfl) rfl rfl ?_
  refine KO.nil ?_
  refine KC.seq ?_
  refine KC.region ?_
  refine KO.pv (PV.move rfl) rfl rfl ?_
  refine KO.pv (PV.nilCheck rfl) rfl rfl ?_
  refine KO.pv (PV.fieldAddr fo78_0_ZGates rfl) rfl rfl ?_
  refine KO.loadN ag26_ZGates sz26_ZGates rfl (m0.row0 hO.lb hr) (takeN_cons x0 (takeN_cons x1 (takeN_cons x2 (takeN_cons x3 (takeN_cons x4 takeN_nil))))) rfl rfl ?_
  refine KO.call rfl rfl rfl rfl (gates_Depth H yu0 ya1 yn1 yc1 _ ya2 yn2 yc2 _ ya3 yn3 yc3 _ ya4 yn4 yc4 _ (wrap64 (by omega) (by omega)) (V.mem m0 h_l1) (V.mem m0 h_l2) (V.mem m0 h_l3) (V.mem m0 h_l4)) fun v1 H1 q1 => ?_
  obtain ⟨z1, e1, hv1, mc1, p1_0⟩ := q1
  dsimp only at hv1 mc1
  subst hv1
  have m2 := m0.seq mc1
  refine KO.nil ?_
  refine KC.seq ?_
  refine KC.region ?_
  refine KO.pv (PV.assign rfl) rfl rfl ?_
  refine KO.nil ?_
  exact KC.ret ⟨rfl, _, (.tmp rfl .nil), call_none m2⟩
theorem top_6 (w : Bool × Bool) (hwS : Sh.bools (.fld 0 (.fld 0 (.num .i64) (.fld 1 (.list 2 (.fld 0 (.num .i64) (.fld 1 (.num .i64) .nil))) (.fld 2 (.list 2 (.fld 0 (.num .i64) (.fld 1 (.num .i64) .nil))) (.fld 3 (.list 1 (.num .i64)) (.fld 4 (.list 1 (.num .i64)) .nil))))) (.fld 5 (.num .i64) (.fld 6 (.num .i64) .nil))) = true → w.1 = true) (H : AHeap) (cs : List Value) (ns : List Int) (ss : List ByteArray) (D : List Nat) (hcl : cs.length = 7) (hone : cs.all oneC = true) (hR : Rd H ⟨false, w.1, w.2⟩ (.fld 0 (.fld 0 (.num .i64) (.fld 1 (.list 2 (.fld 0 (.num .i64) (.fld 1 (.num .i64) .nil))) (.fld 2 (.list 2 (.fld 0 (.num .i64) (.fld 1 (.num .i64) .nil))) (.fld 3 (.list 1 (.num .i64)) (.fld 4 (.list 1 (.num .i64)) .nil))))) (.fld 5 (.num .i64) (.fld 6 (.num .i64) .nil))) cs 0 ns ss D) (hD : ∀ j ∈ D, j < H.next) (l1 : ns.length ≤ 10000000) (l2 : ss.length ≤ 10000000) :
    WF E0 6 [.agg cs.toArray] H fun q => q.1 = .bool true := by
  have hcalls : ∀ f ∈ ([41, 43, 45, 47, 51] : List FuncId), CallOK' E0 3 9 47 f (.fld 0 (.fld 0 (.num .i64) (.fld 1 (.list 2 (.fld 0 (.num .i64) (.fld 1 (.num .i64) .nil))) (.fld 2 (.list 2 (.fld 0 (.num .i64) (.fld 1 (.num .i64) .nil))) (.fld 3 (.list 1 (.num .i64)) (.fld 4 (.list 1 (.num .i64)) .nil))))) (.fld 5 (.num .i64) (.fld 6 (.num .i64) .nil))) ∧ E0.ext f = none := by
    intro f hf
    simp only [List.mem_cons, List.not_mem_nil, or_false] at hf
    rcases hf with rfl | rfl | rfl | rfl | rfl
    · exact ⟨call_41, rfl⟩
    · exact ⟨call_43, rfl⟩
    · exact ⟨call_45, rfl⟩
    · exact ⟨call_47, rfl⟩
    · exact ⟨call_51, rfl⟩
  refine WF.k Tryz.func6 rfl rfl ?_
  refine KC.seq (KC.region ?_)
  refine KO.box (rfl) ((boxAgg hone)) rfl rfl fun G0 u0 => ?_
  refine KO.pv (PV.assign rfl) rfl rfl ?_
  refine KO.nil ?_
  rw [show cellsV (.agg cs.toArray) = cs by simp [cellsV]] at u0
  have hX : G0.row H.next = some ⟨78, true, true, cs⟩ := by rw [u0.row, if_pos rfl]
  have hn0 := u0.next
  refine KC.seq (KC.region ?_)
  refine KO.loadN ag78_ZGates sz78_ZGates rfl (hX) ((takeN_of (p := cs) (by rw [List.drop_zero, ← hcl, List.take_length]) hcl)) rfl rfl ?_
  refine KO.buildSlice el92_ZGates ez84_ZGates rfl rfl (rfl) rfl rfl fun G1 u1 => ?_
  refine KO.call rfl rfl rfl rfl (apart_38 (own := 39) (see := 40) (calls := [41, 43, 45, 47, 51]) own_39 (see_40 9) hcalls rfl rfl (by decide) G1 cs ns ss D hcl hone w hwS (hR.frame fun j hj => by have := hD j hj; rw [u1.row, if_neg (by omega), u0.row, if_neg (by omega)]) (fun j hj => by have := hD j hj; rw [u1.next]; omega) l1 l2 G0.next (by rw [u1.row, if_pos rfl]; rfl) (by rw [u1.next]; omega)) fun v2 G2 q2 => ?_
  dsimp only at q2
  subst q2
  refine KO.pv (PV.move rfl) rfl rfl ?_
  refine KO.call rfl rfl rfl rfl (WF.sum (Q := fun q => q.1 = .bool true) rfl rfl) fun v3 G3 q3 => ?_
  dsimp only at q3
  subst q3
  refine KO.pv (PV.pickT rfl rfl rfl) rfl rfl ?_
  refine KO.pv (PV.assign rfl) rfl rfl ?_
  refine KO.nil ?_
  exact KC.ret ⟨rfl, _, rfl, rfl⟩
end Go.Eng

namespace Go.Eng
open Go Go.Proofs
theorem cells78_Gates : Tryz.prog.cellsOf 78 = 7 := by kernel_rfl
theorem cells3_Gates : Tryz.prog.cellsOf 3 = 1 := by kernel_rfl
theorem cells26_Gates : Tryz.prog.cellsOf 26 = 5 := by kernel_rfl
theorem cells24_Gates : Tryz.prog.cellsOf 24 = 1 := by kernel_rfl
theorem cells23_Gates : Tryz.prog.cellsOf 23 = 1 := by kernel_rfl
theorem cells187_Gates : Tryz.prog.cellsOf 187 = 2 := by kernel_rfl
theorem cells22_Gates : Tryz.prog.cellsOf 22 = 1 := by kernel_rfl
theorem cells150_Gates : Tryz.prog.cellsOf 150 = 2 := by kernel_rfl
theorem fits24_Gates : Fits Tryz.prog (.list 1 (.num .i64)) 24 := ⟨3, Tryz.underlying24, cells3_Gates, by decide, by decide, by decide, .inl Tryz.underlying3⟩
theorem fits23_Gates : Fits Tryz.prog (.list 2 (.fld 0 (.num .i64) (.fld 1 (.num .i64) .nil))) 23 := ⟨187, Tryz.underlying23, cells187_Gates, by decide, by decide, by decide, .inr ⟨_, Tryz.underlying187, by
    rw [cells187_Gates]
    refine ⟨_, _, rfl, rfl, rfl, ⟨_, _, rfl, ?_, ?_, ⟨rfl, ?_⟩, .inl Tryz.underlying3⟩, .inl Tryz.underlying3⟩ <;> simp only [cells3_Gates]⟩⟩
theorem fits22_Gates : Fits Tryz.prog (.list 2 (.fld 0 (.num .i64) (.fld 1 (.num .i64) .nil))) 22 := ⟨150, Tryz.underlying22, cells150_Gates, by decide, by decide, by decide, .inr ⟨_, Tryz.underlying150, by
    rw [cells150_Gates]
    refine ⟨_, _, rfl, rfl, rfl, ⟨_, _, rfl, ?_, ?_, ⟨rfl, ?_⟩, .inl Tryz.underlying3⟩, .inl Tryz.underlying3⟩ <;> simp only [cells3_Gates]⟩⟩
theorem fitsA_Gates : Fits.go Tryz.prog (.fld 0 (.fld 0 (.num .i64) (.fld 1 (.list 2 (.fld 0 (.num .i64) (.fld 1 (.num .i64) .nil))) (.fld 2 (.list 2 (.fld 0 (.num .i64) (.fld 1 (.num .i64) .nil))) (.fld 3 (.list 1 (.num .i64)) (.fld 4 (.list 1 (.num .i64)) .nil))))) (.fld 5 (.num .i64) (.fld 6 (.num .i64) .nil))) [{ name := "C", type := 26, offset := 0, embedded := false, tag := "", pkgPath := "", byteOffset := 0 }, { name := "V", type := 3, offset := 5, embedded := false, tag := "", pkgPath := "", byteOffset := 104 }, { name := "L", type := 3, offset := 6, embedded := false, tag := "", pkgPath := "", byteOffset := 112 }] 0 7 := by
  refine ⟨_, _, rfl, rfl, rfl, ⟨_, _, rfl, ?_, ?_, ⟨_, _, rfl, ?_, ?_, ⟨rfl, ?_⟩, .inl Tryz.underlying3⟩, .inl Tryz.underlying3⟩, .inr ⟨_, Tryz.underlying26, by
    rw [cells26_Gates]
    refine ⟨_, _, rfl, rfl, rfl, ⟨_, _, rfl, ?_, ?_, ⟨_, _, rfl, ?_, ?_, ⟨_, _, rfl, ?_, ?_, ⟨_, _, rfl, ?_, ?_, ⟨rfl, ?_⟩, .inl fits24_Gates⟩, .inl fits24_Gates⟩, .inl fits23_Gates⟩, .inl fits22_Gates⟩, .inl Tryz.underlying3⟩ <;> simp only [cells3_Gates, cells22_Gates, cells23_Gates, cells24_Gates]⟩⟩ <;> simp only [cells26_Gates, cells3_Gates]
theorem core_Gates {K : Type} {enc : TypeId × Value → K} {μ : DataW K → Nat} (hμ : Msr μ) (W : World) (cs : Array Value) (hcs : cs.size = 7) {d0 : DataW K} {p0 : List MemPlace} {fuel : Nat} (hf : DataW.trod enc Tryz.prog W 0 (fun _ => true) true fuel 78 cs.toList = some (d0, p0)) (hz : W.noneFrozen p0) (hd : μ d0 ≤ 1048576) :
    Calls Tryz.prog 6 #[.agg cs] W fun e W' => e = .returned (.bool true) ∧ RowKit.Below W.heap.size W W' := by
  obtain ⟨φ, H, acs, ns, ss, D, k1, k2, k3, k4, k5, k6, k7, k8, k9, k10⟩ := arg_vr hμ (G := 8) (s := .fld 0 (.fld 0 (.num .i64) (.fld 1 (.list 2 (.fld 0 (.num .i64) (.fld 1 (.num .i64) .nil))) (.fld 2 (.list 2 (.fld 0 (.num .i64) (.fld 1 (.num .i64) .nil))) (.fld 3 (.list 1 (.num .i64)) (.fld 4 (.list 1 (.num .i64)) .nil))))) (.fld 5 (.num .i64) (.fld 6 (.num .i64) .nil))) (fun _ => rfl) Tryz.underlying78 (by rw [cells78_Gates]; exact fitsA_Gates) hf hz (by dsimp only; omega) _ _ (rel0 8 W) (fun i o hi => by simp [heap0, AHeap.get, Tr.get] at hi)
  have hal : acs.length = 7 := by rw [LRel.len k6]; simpa using hcs
  dsimp only at k10
  have hcall := calls_true k1 k2 k6 (top_6 (true, true) (fun _ => rfl) H acs ns ss D hal k7 k8 k9 (by omega) (by omega))
  rw [show cs.toList.toArray = cs by simp] at hcall
  exact hcall
end Go.Eng
