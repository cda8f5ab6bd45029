/- TopSharedTraces answers true on the interpreter, and so on the machine. Conditions: none beyond each theorem's own. -/
import Derived.Test.YthofopbfjpidhaaGreatDoorTracesB10
import Derived.Test.YthofopbfjpidhaaGreatDoorTracesA
import Derived.KernelRfl
import Derived.Test.YthofopbfjpidhaaGreatDoorAlive
set_option linter.all false
namespace Go.Eng
open Go Go.Proofs
theorem ag26_ZTraces : isAggT E0.P 26 = some true := by kernel_rfl
theorem sz26_ZTraces : sizeT E0.P 26 = some 5 := by kernel_rfl
theorem ag89_ZTraces : isAggT E0.P 89 = some false := by kernel_rfl
theorem sz109_ZTraces : sizeT E0.P 109 = some 1 := by kernel_rfl
theorem ag111_ZTraces : isAggT E0.P 111 = some true := by kernel_rfl
theorem sz111_ZTraces : sizeT E0.P 111 = some 2 := by kernel_rfl
theorem zt109_ZTraces : zeroT E0.P 109 = some [.slice none 0 0] := by kernel_rfl
theorem zt111_ZTraces : zeroT E0.P 111 = some [.slice none 0 0, .slice none 0 0] := by kernel_rfl
theorem fo113_0_ZTraces : foff E0.P 113 0 = some 0 := by kernel_rfl
theorem fo113_1_ZTraces : foff E0.P 113 1 = some 5 := by kernel_rfl
theorem fo113_2_ZTraces : foff E0.P 113 2 = some 6 := by kernel_rfl
theorem ag113_ZTraces : isAggT E0.P 113 = some true := by kernel_rfl
theorem sz113_ZTraces : sizeT E0.P 113 = some 8 := by kernel_rfl
theorem el33_ZTraces : elemT E0.P 33 = some 40 := by kernel_rfl
theorem ez40_ZTraces : elemZ E0.P 40 = some (1, [.nilFunc]) := by kernel_rfl
theorem el131_ZTraces : elemT E0.P 131 = some 119 := by kernel_rfl
theorem ez119_ZTraces : elemZ E0.P 119 = some (1, [.nilFunc]) := by kernel_rfl
abbrev ShTraces : Sh := .fld 0 (.fld 0 (.num .i64) (.fld 1 (.list 2 (.fld 0 (.num .i64) (.fld 1 (.num .i64) .nil))) (.fld 2 (.list 2 (.fld 0 (.num .i64) (.fld 1 (.num .i64) .nil))) (.fld 3 (.list 1 (.num .i64)) (.fld 4 (.list 1 (.num .i64)) .nil))))) (.fld 5 (.list 1 .bool) (.fld 6 (.fld 0 (.list 1 .bool) (.fld 1 (.list 1 (.list 1 .bool)) .nil)) .nil))
theorem arg_Traces {H : AHeap} {bx : Nat} {ns : List Int} {ss : List ByteArray} {D : List Nat} (h : Own H ⟨true, true, false⟩ ShTraces bx ns ss D) (hl : ns.length ≤ 63000) :
    ∃ (r : Row) (yu0 : Int) (ya1 : Option Addr) (yn1 yc1 : Nat) (yl1 : List (Int × Int)) (ya2 : Option Addr) (yn2 yc2 : Nat) (yl2 : List (Int × Int)) (ya3 : Option Addr) (yn3 yc3 : Nat) (yl3 : List Int) (ya4 : Option Addr) (yn4 yc4 : Nat) (yl4 : List Int) (ya5 : Option Addr) (yn5 yc5 : Nat) (yl5 : List Bool) (ya6 : Option Addr) (yn6 yc6 : Nat) (yl6 : List Bool) (ya7 : Option Addr) (yn7 yc7 : Nat) (yv7 : List (Option Addr × Nat × Nat)) (yl7 : List (List Bool)), H.row bx = some r ∧ r.cs[0]? = some (.int .i64 yu0) ∧ IntKind.i64.wrap yu0 = yu0 ∧ r.cs[1]? = some (.slice ya1 yn1 yc1) ∧ V EP H ya1 yn1 yc1 yl1 ∧ exactBase ya1 = true ∧ yn1 ≤ 63000 ∧ r.cs[2]? = some (.slice ya2 yn2 yc2) ∧ V EP H ya2 yn2 yc2 yl2 ∧ exactBase ya2 = true ∧ yn2 ≤ 63000 ∧ r.cs[3]? = some (.slice ya3 yn3 yc3) ∧ V (EI .i64) H ya3 yn3 yc3 yl3 ∧ exactBase ya3 = true ∧ yn3 ≤ 63000 ∧ r.cs[4]? = some (.slice ya4 yn4 yc4) ∧ V (EI .i64) H ya4 yn4 yc4 yl4 ∧ exactBase ya4 = true ∧ yn4 ≤ 63000 ∧ r.cs[5]? = some (.slice ya5 yn5 yc5) ∧ V EB H ya5 yn5 yc5 yl5 ∧ exactBase ya5 = true ∧ yn5 ≤ 63000 ∧ r.cs[6]? = some (.slice ya6 yn6 yc6) ∧ V EB H ya6 yn6 yc6 yl6 ∧ exactBase ya6 = true ∧ yn6 ≤ 63000 ∧ r.cs[7]? = some (.slice ya7 yn7 yc7) ∧ V ES H ya7 yn7 yc7 yv7 ∧ exactBase ya7 = true ∧ yn7 ≤ 63000 ∧ VV EB H yv7 yl7 ∧ (∀ xs ∈ yl7, xs.length ≤ 63000) := by
  obtain ⟨r, hr, hw, hR⟩ := h.ex
  have hD := h.lD
  obtain ⟨n0, s0, D0, m0, t0, B0, r0, w0, rfl, rfl, rfl⟩ := hR
  obtain ⟨n1, s1, D1, m1, t1, B1, r1, w1, rfl, rfl, rfl⟩ := w0
  obtain ⟨n2, s2, D2, m2, t2, B2, r2, w2, rfl, rfl, rfl⟩ := w1
  obtain ⟨rfl, rfl, rfl⟩ := w2
  obtain ⟨n3, s3, D3, m3, t3, B3, r3, w3, rfl, rfl, rfl⟩ := r0
  obtain ⟨n4, s4, D4, m4, t4, B4, r4, w4, rfl, rfl, rfl⟩ := w3
  obtain ⟨n5, s5, D5, m5, t5, B5, r5, w5, rfl, rfl, rfl⟩ := w4
  obtain ⟨n6, s6, D6, m6, t6, B6, r6, w6, rfl, rfl, rfl⟩ := w5
  obtain ⟨n7, s7, D7, m7, t7, B7, r7, w7, rfl, rfl, rfl⟩ := w6
  obtain ⟨rfl, rfl, rfl⟩ := w7
  obtain ⟨yu0, k3, z3, -⟩ := r3
  obtain ⟨ya1, yn1, yc1, yl1, k4, v4, e4, g4⟩ := rd_list rdP r4 (fun j hj => hD j (by simp only [List.mem_append, hj, true_or, or_true]))
  obtain ⟨ya2, yn2, yc2, yl2, k5, v5, e5, g5⟩ := rd_list rdP r5 (fun j hj => hD j (by simp only [List.mem_append, hj, true_or, or_true]))
  obtain ⟨ya3, yn3, yc3, yl3, k6, v6, e6, g6⟩ := rd_list (rdI .i64) r6 (fun j hj => hD j (by simp only [List.mem_append, hj, true_or, or_true]))
  obtain ⟨ya4, yn4, yc4, yl4, k7, v7, e7, g7⟩ := rd_list (rdI .i64) r7 (fun j hj => hD j (by simp only [List.mem_append, hj, true_or, or_true]))
  obtain ⟨ya5, yn5, yc5, yl5, k1, v1, e1, g1⟩ := rd_list rdB r1 (fun j hj => hD j (by simp only [List.mem_append, hj, true_or, or_true]))
  obtain ⟨n8, s8, D8, m8, t8, B8, r8, w8, rfl, rfl, rfl⟩ := r2
  obtain ⟨n9, s9, D9, m9, t9, B9, r9, w9, rfl, rfl, rfl⟩ := w8
  obtain ⟨rfl, rfl, rfl⟩ := w9
  obtain ⟨ya6, yn6, yc6, yl6, k8, v8, e8, g8⟩ := rd_list rdB r8 (fun j hj => hD j (by simp only [List.mem_append, hj, true_or, or_true]))
  obtain ⟨ya7, yn7, yc7, yv7, yl7, k9, v9, e9, g9, vv9, bb9⟩ := rd_lists rdB r9 (fun j hj => hD j (by simp only [List.mem_append, hj, true_or, or_true]))
  exact ⟨r, yu0, ya1, yn1, yc1, yl1, ya2, yn2, yc2, yl2, ya3, yn3, yc3, yl3, ya4, yn4, yc4, yl4, ya5, yn5, yc5, yl5, ya6, yn6, yc6, yl6, ya7, yn7, yc7, yv7, yl7, hr, k3, z3, k4, v4, e4, (by simp only [List.length_append] at hl; omega), k5, v5, e5, (by simp only [List.length_append] at hl; omega), k6, v6, e6, (by simp only [List.length_append] at hl; omega), k7, v7, e7, (by simp only [List.length_append] at hl; omega), k1, v1, e1, (by simp only [List.length_append] at hl; omega), k8, v8, e8, (by simp only [List.length_append] at hl; omega), k9, v9, e9, (by simp only [List.length_append] at hl; omega), vv9, (fun xs hx => by have := bb9 xs hx; simp only [List.length_append] at hl; omega)⟩
theorem call_79 : CallOK' E0 3 9 40 79 ShTraces := by
  intro H bx ns ss D hO hl1 _
  obtain ⟨r, yu0, ya1, yn1, yc1, yl1, ya2, yn2, yc2, yl2, ya3, yn3, yc3, yl3, ya4, yn4, yc4, yl4, ya5, yn5, yc5, yl5, ya6, yn6, yc6, yl6, ya7, yn7, yc7, yv7, yl7, hr, x0, w_u0, x1, h_l1, ex_l1, b_l1, x2, h_l2, ex_l2, b_l2, x3, h_l3, ex_l3, b_l3, x4, h_l4, ex_l4, b_l4, x5, h_l5, ex_l5, b_l5, x6, h_l6, ex_l6, b_l6, x7, h_l7, ex_l7, b_l7, i_l7, bi_l7⟩ := arg_Traces hO hl1
  obtain ⟨lo_u0, hi_u0⟩ := rangei64 w_u0
  obtain ⟨len_l1, cap_l1, max_l1, wf_l1⟩ := h_l1.len
  obtain ⟨len_l2, cap_l2, max_l2, wf_l2⟩ := h_l2.len
  obtain ⟨len_l3, cap_l3, max_l3, wf_l3⟩ := h_l3.len
  obtain ⟨len_l4, cap_l4, max_l4, wf_l4⟩ := h_l4.len
  obtain ⟨len_l5, cap_l5, max_l5, wf_l5⟩ := h_l5.len
  obtain ⟨len_l6, cap_l6, max_l6, wf_l6⟩ := h_l6.len
  obtain ⟨len_l7, cap_l7, max_l7, wf_l7⟩ := h_l7.len
  have m0 : Mem [] H H [] := Mem.start
  refine WF.kg Tryz.func79 rfl rfl ?_
  refine KC.seq ?_
  refine KC.region ?_
  refine KO.pv (PV.assign rfl) rfl rfl ?_
  refine KO.nil ?_
  refine KC.seq ?_
  refine KC.drawG (n := 9) (anc := [0, 1, 3, 7, 0, 16, 48, 112, 255]) (hv := [8]) (ord := [0, 1, 2, 3, 4, 5, 6, 7, 8]) (by kernel_rfl) (by kernel_rfl) (by kernel_rfl) (by kernel_rfl) (by kernel_rfl) fun H1 n2 g3 => ?_
  have m4 := m0.room n2 g3 [] (by decide) (by decide)
  refine KD.pv 1 (PV.move rfl) rfl rfl rfl (by kernel_rfl) rfl rfl rfl ?_
  refine KD.pv 3 (PV.nilCheck rfl) rfl rfl rfl (by kernel_rfl) rfl rfl rfl ?_
  refine KD.pv 7 (PV.fieldAddr fo113_0_ZTraces rfl) rfl rfl rfl (by kernel_rfl) rfl rfl rfl ?_
  refine KD.load 15 rfl (m4.row0 hO.lb hr) (readN ag26_ZTraces sz26_ZTraces (takeN_cons x0 (takeN_cons x1 (takeN_cons x2 (takeN_cons x3 (takeN_cons x4 takeN_nil)))))) (pastGo (k := 1) (l := [H1]) (by kernel_rfl) rfl (pastCons ⟨_, (m4.row0 hO.lb hr), (readN ag26_ZTraces sz26_ZTraces (takeN_cons x0 (takeN_cons x1 (takeN_cons x2 (takeN_cons x3 (takeN_cons x4 takeN_nil))))))⟩ pastNil)) (veq_agg (veqCons veqI (veqCons veqS (veqCons veqS (veqCons veqS (veqCons veqS veqNil)))))) rfl (by kernel_rfl) rfl rfl rfl ?_
  refine KD.pv 31 (PV.move rfl) rfl rfl rfl (by kernel_rfl) rfl rfl rfl ?_
  refine KD.pv 63 (PV.nilCheck rfl) rfl rfl rfl (by kernel_rfl) rfl rfl rfl ?_
  refine KD.pv 127 (PV.fieldAddr fo113_1_ZTraces rfl) rfl rfl rfl (by kernel_rfl) rfl rfl rfl ?_
  refine KD.load 255 rfl (m4.row0 hO.lb hr) (by rw [read1 ag89_ZTraces]; exact x5) (pastGo (k := 1) (l := [H1]) (by kernel_rfl) rfl (pastCons ⟨_, (m4.row0 hO.lb hr), (by rw [read1 ag89_ZTraces]; exact x5)⟩ pastNil)) veq_sl rfl (by kernel_rfl) rfl rfl rfl ?_
  refine KD.call 511 rfl rfl rfl (by kernel_rfl) rfl rfl rfl (tr_First H1 yu0 ya1 yn1 yc1 _ ya2 yn2 yc2 _ ya3 yn3 yc3 _ ya4 yn4 yc4 _ ya5 yn5 yc5 _ (wrap64 (by omega) (by omega)) (V.mem m4 h_l1) (V.mem m4 h_l2) (V.mem m4 h_l3) (V.mem m4 h_l4) (V.mem m4 h_l5)) fun v5 H5 q5 => ?_
  obtain ⟨o5, e5, hv5, mc5⟩ := q5
  dsimp only at hv5 mc5
  subst hv5
  have m6 := m4.seq mc5
  refine KD.nil ⟨rfl, ?_⟩
  refine KC.seq ?_
  refine KC.region ?_
  refine KO.pv (PV.assign rfl) rfl rfl ?_
  refine KO.nil ?_
  exact KC.ret ⟨rfl, _, (.tmp rfl .nil), call_none m6⟩
theorem call_81 : CallOK' E0 3 9 40 81 ShTraces := by
  intro H bx ns ss D hO hl1 _
  obtain ⟨r, yu0, ya1, yn1, yc1, yl1, ya2, yn2, yc2, yl2, ya3, yn3, yc3, yl3, ya4, yn4, yc4, yl4, ya5, yn5, yc5, yl5, ya6, yn6, yc6, yl6, ya7, yn7, yc7, yv7, yl7, hr, x0, w_u0, x1, h_l1, ex_l1, b_l1, x2, h_l2, ex_l2, b_l2, x3, h_l3, ex_l3, b_l3, x4, h_l4, ex_l4, b_l4, x5, h_l5, ex_l5, b_l5, x6, h_l6, ex_l6, b_l6, x7, h_l7, ex_l7, b_l7, i_l7, bi_l7⟩ := arg_Traces hO hl1
  obtain ⟨lo_u0, hi_u0⟩ := rangei64 w_u0
  obtain ⟨len_l1, cap_l1, max_l1, wf_l1⟩ := h_l1.len
  obtain ⟨len_l2, cap_l2, max_l2, wf_l2⟩ := h_l2.len
  obtain ⟨len_l3, cap_l3, max_l3, wf_l3⟩ := h_l3.len
  obtain ⟨len_l4, cap_l4, max_l4, wf_l4⟩ := h_l4.len
  obtain ⟨len_l5, cap_l5, max_l5, wf_l5⟩ := h_l5.len
  obtain ⟨len_l6, cap_l6, max_l6, wf_l6⟩ := h_l6.len
  obtain ⟨len_l7, cap_l7, max_l7, wf_l7⟩ := h_l7.len
  have m0 : Mem [] H H [] := Mem.start
  refine WF.kg Tryz.func81 rfl rfl ?_
  refine KC.seq ?_
  refine KC.region ?_
  refine KO.pv (PV.assign rfl) rfl rfl ?_
  refine KO.nil ?_
  refine KC.seq ?_
  refine KC.drawG (n := 9) (anc := [0, 1, 3, 7, 0, 16, 48, 112, 255]) (hv := [8]) (ord := [0, 1, 2, 3, 4, 5, 6, 7, 8]) (by kernel_rfl) (by kernel_rfl) (by kernel_rfl) (by kernel_rfl) (by kernel_rfl) fun H1 n2 g3 => ?_
  have m4 := m0.room n2 g3 [] (by decide) (by decide)
  refine KD.pv 1 (PV.move rfl) rfl rfl rfl (by kernel_rfl) rfl rfl rfl ?_
  refine KD.pv 3 (PV.nilCheck rfl) rfl rfl rfl (by kernel_rfl) rfl rfl rfl ?_
  refine KD.pv 7 (PV.fieldAddr fo113_0_ZTraces rfl) rfl rfl rfl (by kernel_rfl) rfl rfl rfl ?_
  refine KD.load 15 rfl (m4.row0 hO.lb hr) (readN ag26_ZTraces sz26_ZTraces (takeN_cons x0 (takeN_cons x1 (takeN_cons x2 (takeN_cons x3 (takeN_cons x4 takeN_nil)))))) (pastGo (k := 1) (l := [H1]) (by kernel_rfl) rfl (pastCons ⟨_, (m4.row0 hO.lb hr), (readN ag26_ZTraces sz26_ZTraces (takeN_cons x0 (takeN_cons x1 (takeN_cons x2 (takeN_cons x3 (takeN_cons x4 takeN_nil))))))⟩ pastNil)) (veq_agg (veqCons veqI (veqCons veqS (veqCons veqS (veqCons veqS (veqCons veqS veqNil)))))) rfl (by kernel_rfl) rfl rfl rfl ?_
  refine KD.pv 31 (PV.move rfl) rfl rfl rfl (by kernel_rfl) rfl rfl rfl ?_
  refine KD.pv 63 (PV.nilCheck rfl) rfl rfl rfl (by kernel_rfl) rfl rfl rfl ?_
  refine KD.pv 127 (PV.fieldAddr fo113_2_ZTraces rfl) rfl rfl rfl (by kernel_rfl) rfl rfl rfl ?_
  refine KD.load 255 rfl (m4.row0 hO.lb hr) (readN ag111_ZTraces sz111_ZTraces (takeN_cons x6 (takeN_cons x7 takeN_nil))) (pastGo (k := 1) (l := [H1]) (by kernel_rfl) rfl (pastCons ⟨_, (m4.row0 hO.lb hr), (readN ag111_ZTraces sz111_ZTraces (takeN_cons x6 (takeN_cons x7 takeN_nil)))⟩ pastNil)) (veq_agg (veqCons veqS (veqCons veqS veqNil))) rfl (by kernel_rfl) rfl rfl rfl ?_
  refine KD.call 511 rfl rfl rfl (by kernel_rfl) rfl rfl rfl (tr_Check H1 yu0 ya1 yn1 yc1 _ ya2 yn2 yc2 _ ya3 yn3 yc3 _ ya4 yn4 yc4 _ ya6 yn6 yc6 _ ya7 yn7 yc7 _ _ (wrap64 (by omega) (by omega)) (V.mem m4 h_l1) (V.mem m4 h_l2) (V.mem m4 h_l3) (V.mem m4 h_l4) (V.mem m4 h_l6) (V.mem m4 h_l7) (VV.mem m4 i_l7)) fun v5 H5 q5 => ?_
  obtain ⟨e5, hv5, mc5, p5_0, p5_1, p5_2⟩ := q5
  dsimp only at hv5 mc5
  subst hv5
  have m6 := m4.seq mc5
  refine KD.nil ⟨rfl, ?_⟩
  refine KC.seq ?_
  refine KC.region ?_
  refine KO.pv (PV.assign rfl) rfl rfl ?_
  refine KO.nil ?_
  exact KC.ret ⟨rfl, _, (.tmp rfl .nil), call_none m6⟩
theorem call_83 : CallOK' E0 3 9 40 83 ShTraces := by
  intro H bx ns ss D hO hl1 _
  obtain ⟨r, yu0, ya1, yn1, yc1, yl1, ya2, yn2, yc2, yl2, ya3, yn3, yc3, yl3, ya4, yn4, yc4, yl4, ya5, yn5, yc5, yl5, ya6, yn6, yc6, yl6, ya7, yn7, yc7, yv7, yl7, hr, x0, w_u0, x1, h_l1, ex_l1, b_l1, x2, h_l2, ex_l2, b_l2, x3, h_l3, ex_l3, b_l3, x4, h_l4, ex_l4, b_l4, x5, h_l5, ex_l5, b_l5, x6, h_l6, ex_l6, b_l6, x7, h_l7, ex_l7, b_l7, i_l7, bi_l7⟩ := arg_Traces hO hl1
  obtain ⟨lo_u0, hi_u0⟩ := rangei64 w_u0
  obtain ⟨len_l1, cap_l1, max_l1, wf_l1⟩ := h_l1.len
  obtain ⟨len_l2, cap_l2, max_l2, wf_l2⟩ := h_l2.len
  obtain ⟨len_l3, cap_l3, max_l3, wf_l3⟩ := h_l3.len
  obtain ⟨len_l4, cap_l4, max_l4, wf_l4⟩ := h_l4.len
  obtain ⟨len_l5, cap_l5, max_l5, wf_l5⟩ := h_l5.len
  obtain ⟨len_l6, cap_l6, max_l6, wf_l6⟩ := h_l6.len
  obtain ⟨len_l7, cap_l7, max_l7, wf_l7⟩ := h_l7.len
  have m0 : Mem [] H H [] := Mem.start
  refine WF.kg Tryz.func83 rfl rfl ?_
  refine KC.seq ?_
  refine KC.region ?_
  refine KO.pv (PV.assign rfl) rfl rfl ?_
  refine KO.nil ?_
  refine KC.seq ?_
  refine KC.drawG (n := 15) (anc := [0, 1, 3, 7, 0, 16, 48, 112, 255, 511, 1023, 1023, 0, 6143, 16383]) (hv := [8, 13]) (ord := [0, 1, 2, 3, 4, 5, 6, 7, 8, 9, 10, 12, 13, 11, 14]) (by kernel_rfl) (by kernel_rfl) (by kernel_rfl) (by kernel_rfl) (by kernel_rfl) fun H1 n2 g3 => ?_
  have m4 := m0.room n2 g3 [12] (by decide) (by decide)
  refine KD.pv 1 (PV.move rfl) rfl rfl rfl (by kernel_rfl) rfl rfl rfl ?_
  refine KD.pv 3 (PV.nilCheck rfl) rfl rfl rfl (by kernel_rfl) rfl rfl rfl ?_
  refine KD.pv 7 (PV.fieldAddr fo113_0_ZTraces rfl) rfl rfl rfl (by kernel_rfl) rfl rfl rfl ?_
  refine KD.load 15 rfl (m4.row0 hO.lb hr) (readN ag26_ZTraces sz26_ZTraces (takeN_cons x0 (takeN_cons x1 (takeN_cons x2 (takeN_cons x3 (takeN_cons x4 takeN_nil)))))) (pastGo (k := 1) (l := [H1]) (by kernel_rfl) rfl (pastCons ⟨_, (m4.row0 hO.lb hr), (readN ag26_ZTraces sz26_ZTraces (takeN_cons x0 (takeN_cons x1 (takeN_cons x2 (takeN_cons x3 (takeN_cons x4 takeN_nil))))))⟩ pastNil)) (veq_agg (veqCons veqI (veqCons veqS (veqCons veqS (veqCons veqS (veqCons veqS veqNil)))))) rfl (by kernel_rfl) rfl rfl rfl ?_
  refine KD.pv 31 (PV.move rfl) rfl rfl rfl (by kernel_rfl) rfl rfl rfl ?_
  refine KD.pv 63 (PV.nilCheck rfl) rfl rfl rfl (by kernel_rfl) rfl rfl rfl ?_
  refine KD.pv 127 (PV.fieldAddr fo113_2_ZTraces rfl) rfl rfl rfl (by kernel_rfl) rfl rfl rfl ?_
  refine KD.load 255 rfl (m4.row0 hO.lb hr) (readN ag111_ZTraces sz111_ZTraces (takeN_cons x6 (takeN_cons x7 takeN_nil))) (pastGo (k := 1) (l := [H1]) (by kernel_rfl) rfl (pastCons ⟨_, (m4.row0 hO.lb hr), (readN ag111_ZTraces sz111_ZTraces (takeN_cons x6 (takeN_cons x7 takeN_nil)))⟩ pastNil)) (veq_agg (veqCons veqS (veqCons veqS veqNil))) rfl (by kernel_rfl) rfl rfl rfl ?_
  refine KD.call 511 rfl rfl rfl (by kernel_rfl) rfl rfl rfl (tr_States H1 yu0 ya1 yn1 yc1 _ ya2 yn2 yc2 _ ya3 yn3 yc3 _ ya4 yn4 yc4 _ ya6 yn6 yc6 _ ya7 yn7 yc7 _ _ (wrap64 (by omega) (by omega)) (V.mem m4 h_l1) (V.mem m4 h_l2) (V.mem m4 h_l3) (V.mem m4 h_l4) (V.mem m4 h_l6) (V.mem m4 h_l7) (VV.mem m4 i_l7) (by first | omega | assumption) (by first | omega | assumption)) fun v5 H5 q5 => ?_
  obtain ⟨a5, n5, e5, v5, D5, l5, E5, hv5, mc5, p5_0, p5_1⟩ := q5
  dsimp only at hv5 mc5
  subst hv5
  have m6 := m4.seq mc5
  have ll5_0 : v5.length = n5 := m6.lstLen (E := ES) (i := 0) rfl
  refine KD.pv 1023 (PV.move rfl) rfl rfl rfl (by kernel_rfl) rfl rfl rfl ?_
  refine KD.pv 2047 (PV.extract rfl rfl) rfl rfl rfl (by kernel_rfl) rfl rfl rfl ?_
  refine KD.allocM 6143 m6 (j := 2) rfl zt109_ZTraces rfl (by kernel_rfl) rfl rfl rfl fun H7 m8 => ?_
  refine KD.storeM 14335 m8 (j := 2) rfl sz109_ZTraces rfl rfl rfl (show 0 + 1 ≤ 1 by decide) (show _ = [.slice a5 n5 n5] from rfl) rfl (by kernel_rfl) rfl rfl fun H9 m10 => ?_
  refine KD.pv 16383 (PV.extract rfl rfl) rfl rfl rfl (by kernel_rfl) rfl rfl rfl ?_
  refine KD.pv 32767 (PV.assign rfl) rfl rfl rfl (by kernel_rfl) rfl rfl rfl ?_
  refine KD.nil ⟨rfl, ?_⟩
  refine KC.seq ?_
  refine KC.region ?_
  refine KO.pv (PV.makeFunc rfl rfl) rfl rfl ?_
  refine KO.buildSliceM m10 el33_ZTraces ez40_ZTraces rfl rfl (show _ = some [.func (.func 85) #[] #[.pointer (some ⟨(H.next + 12), 0, none⟩)]] from rfl) rfl rfl fun H11 m12 => ?_
  refine KO.pv (PV.assign rfl) rfl rfl ?_
  refine KO.nil ?_
  have m13 := m12.ownLst (C := ES) (i := 1) rfl (fun _ _ => trivial) (by first | omega | (simp only [splice, List.length_append, List.length_set, List.length_replicate, List.length_map, List.length_take, List.length_drop, List.length_cons, List.length_nil] <;> omega))
  obtain ⟨nr14, rd14, ln14⟩ := InnOK.rd rdB (m13.res (i := 1) rfl) (m13.res (i := 2) rfl) (cs := [.slice a5 n5 n5]) (o := 0) rfl
  have lt14 := total_le (xss := l5) (k := 63000) (by first | assumption | exact all_nil)
  have li14 := m13.innLen (i := 2) rfl
  have lo14 := m13.ownLen (i := 1) rfl
  exact KC.ret ⟨rfl, _, (.tmp rfl .nil), call_one (m13.pick [0, 3, 1, 2] (by decide) rfl) rfl (see_85 9) rd14 (by simp [R.own, R.inn, pickL]) (by omega) (by simp)⟩
theorem call_87 : CallOK' E0 3 9 40 87 ShTraces := by
  intro H bx ns ss D hO hl1 _
  obtain ⟨r, yu0, ya1, yn1, yc1, yl1, ya2, yn2, yc2, yl2, ya3, yn3, yc3, yl3, ya4, yn4, yc4, yl4, ya5, yn5, yc5, yl5, ya6, yn6, yc6, yl6, ya7, yn7, yc7, yv7, yl7, hr, x0, w_u0, x1, h_l1, ex_l1, b_l1, x2, h_l2, ex_l2, b_l2, x3, h_l3, ex_l3, b_l3, x4, h_l4, ex_l4, b_l4, x5, h_l5, ex_l5, b_l5, x6, h_l6, ex_l6, b_l6, x7, h_l7, ex_l7, b_l7, i_l7, bi_l7⟩ := arg_Traces hO hl1
  obtain ⟨lo_u0, hi_u0⟩ := rangei64 w_u0
  obtain ⟨len_l1, cap_l1, max_l1, wf_l1⟩ := h_l1.len
  obtain ⟨len_l2, cap_l2, max_l2, wf_l2⟩ := h_l2.len
  obtain ⟨len_l3, cap_l3, max_l3, wf_l3⟩ := h_l3.len
  obtain ⟨len_l4, cap_l4, max_l4, wf_l4⟩ := h_l4.len
  obtain ⟨len_l5, cap_l5, max_l5, wf_l5⟩ := h_l5.len
  obtain ⟨len_l6, cap_l6, max_l6, wf_l6⟩ := h_l6.len
  obtain ⟨len_l7, cap_l7, max_l7, wf_l7⟩ := h_l7.len
  have m0 : Mem [] H H [] := Mem.start
  refine WF.kg Tryz.func87 rfl rfl ?_
  refine KC.seq ?_
  refine KC.region ?_
  refine KO.pv (PV.assign rfl) rfl rfl ?_
  refine KO.nil ?_
  refine KC.seq ?_
  refine KC.drawG (n := 9) (anc := [0, 1, 3, 7, 0, 16, 48, 112, 255]) (hv := [8]) (ord := [0, 1, 2, 3, 4, 5, 6, 7, 8]) (by kernel_rfl) (by kernel_rfl) (by kernel_rfl) (by kernel_rfl) (by kernel_rfl) fun H1 n2 g3 => ?_
  have m4 := m0.room n2 g3 [] (by decide) (by decide)
  refine KD.pv 1 (PV.move rfl) rfl rfl rfl (by kernel_rfl) rfl rfl rfl ?_
  refine KD.pv 3 (PV.nilCheck rfl) rfl rfl rfl (by kernel_rfl) rfl rfl rfl ?_
  refine KD.pv 7 (PV.fieldAddr fo113_0_ZTraces rfl) rfl rfl rfl (by kernel_rfl) rfl rfl rfl ?_
  refine KD.load 15 rfl (m4.row0 hO.lb hr) (readN ag26_ZTraces sz26_ZTraces (takeN_cons x0 (takeN_cons x1 (takeN_cons x2 (takeN_cons x3 (takeN_cons x4 takeN_nil)))))) (pastGo (k := 1) (l := [H1]) (by kernel_rfl) rfl (pastCons ⟨_, (m4.row0 hO.lb hr), (readN ag26_ZTraces sz26_ZTraces (takeN_cons x0 (takeN_cons x1 (takeN_cons x2 (takeN_cons x3 (takeN_cons x4 takeN_nil))))))⟩ pastNil)) (veq_agg (veqCons veqI (veqCons veqS (veqCons veqS (veqCons veqS (veqCons veqS veqNil)))))) rfl (by kernel_rfl) rfl rfl rfl ?_
  refine KD.pv 31 (PV.move rfl) rfl rfl rfl (by kernel_rfl) rfl rfl rfl ?_
  refine KD.pv 63 (PV.nilCheck rfl) rfl rfl rfl (by kernel_rfl) rfl rfl rfl ?_
  refine KD.pv 127 (PV.fieldAddr fo113_2_ZTraces rfl) rfl rfl rfl (by kernel_rfl) rfl rfl rfl ?_
  refine KD.load 255 rfl (m4.row0 hO.lb hr) (readN ag111_ZTraces sz111_ZTraces (takeN_cons x6 (takeN_cons x7 takeN_nil))) (pastGo (k := 1) (l := [H1]) (by kernel_rfl) rfl (pastCons ⟨_, (m4.row0 hO.lb hr), (readN ag111_ZTraces sz111_ZTraces (takeN_cons x6 (takeN_cons x7 takeN_nil)))⟩ pastNil)) (veq_agg (veqCons veqS (veqCons veqS veqNil))) rfl (by kernel_rfl) rfl rfl rfl ?_
  refine KD.call 511 rfl rfl rfl (by kernel_rfl) rfl rfl rfl (tr_Right H1 yu0 ya1 yn1 yc1 _ ya2 yn2 yc2 _ ya3 yn3 yc3 _ ya4 yn4 yc4 _ ya6 yn6 yc6 _ ya7 yn7 yc7 _ _ (wrap64 (by omega) (by omega)) (V.mem m4 h_l1) (V.mem m4 h_l2) (V.mem m4 h_l3) (V.mem m4 h_l4) (V.mem m4 h_l6) (V.mem m4 h_l7) (VV.mem m4 i_l7) (by first | omega | assumption) (by first | omega | assumption)) fun v5 H5 q5 => ?_
  obtain ⟨z5, e5, hv5, mc5⟩ := q5
  dsimp only at hv5 mc5
  subst hv5
  have m6 := m4.seq mc5
  refine KD.nil ⟨rfl, ?_⟩
  refine KC.seq ?_
  refine KC.region ?_
  refine KO.pv (PV.assign rfl) rfl rfl ?_
  refine KO.nil ?_
  exact KC.ret ⟨rfl, _, (.tmp rfl .nil), call_none m6⟩
theorem call_89 : CallOK' E0 3 9 40 89 ShTraces := by
  intro H bx ns ss D hO hl1 _
  obtain ⟨r, yu0, ya1, yn1, yc1, yl1, ya2, yn2, yc2, yl2, ya3, yn3, yc3, yl3, ya4, yn4, yc4, yl4, ya5, yn5, yc5, yl5, ya6, yn6, yc6, yl6, ya7, yn7, yc7, yv7, yl7, hr, x0, w_u0, x1, h_l1, ex_l1, b_l1, x2, h_l2, ex_l2, b_l2, x3, h_l3, ex_l3, b_l3, x4, h_l4, ex_l4, b_l4, x5, h_l5, ex_l5, b_l5, x6, h_l6, ex_l6, b_l6, x7, h_l7, ex_l7, b_l7, i_l7, bi_l7⟩ := arg_Traces hO hl1
  obtain ⟨lo_u0, hi_u0⟩ := rangei64 w_u0
  obtain ⟨len_l1, cap_l1, max_l1, wf_l1⟩ := h_l1.len
  obtain ⟨len_l2, cap_l2, max_l2, wf_l2⟩ := h_l2.len
  obtain ⟨len_l3, cap_l3, max_l3, wf_l3⟩ := h_l3.len
  obtain ⟨len_l4, cap_l4, max_l4, wf_l4⟩ := h_l4.len
  obtain ⟨len_l5, cap_l5, max_l5, wf_l5⟩ := h_l5.len
  obtain ⟨len_l6, cap_l6, max_l6, wf_l6⟩ := h_l6.len
  obtain ⟨len_l7, cap_l7, max_l7, wf_l7⟩ := h_l7.len
  have m0 : Mem [] H H [] := Mem.start
  refine WF.kg Tryz.func89 rfl rfl ?_
  refine KC.seq ?_
  refine KC.region ?_
  refine KO.pv (PV.assign rfl) rfl rfl ?_
  refine KO.nil ?_
  refine KC.seq ?_
  refine KC.drawG (n := 9) (anc := [0, 1, 3, 7, 0, 16, 48, 112, 255]) (hv := [8]) (ord := [0, 1, 2, 3, 4, 5, 6, 7, 8]) (by kernel_rfl) (by kernel_rfl) (by kernel_rfl) (by kernel_rfl) (by kernel_rfl) fun H1 n2 g3 => ?_
  have m4 := m0.room n2 g3 [] (by decide) (by decide)
  refine KD.pv 1 (PV.move rfl) rfl rfl rfl (by kernel_rfl) rfl rfl rfl ?_
  refine KD.pv 3 (PV.nilCheck rfl) rfl rfl rfl (by kernel_rfl) rfl rfl rfl ?_
  refine KD.pv 7 (PV.fieldAddr fo113_0_ZTraces rfl) rfl rfl rfl (by kernel_rfl) rfl rfl rfl ?_
  refine KD.load 15 rfl (m4.row0 hO.lb hr) (readN ag26_ZTraces sz26_ZTraces (takeN_cons x0 (takeN_cons x1 (takeN_cons x2 (takeN_cons x3 (takeN_cons x4 takeN_nil)))))) (pastGo (k := 1) (l := [H1]) (by kernel_rfl) rfl (pastCons ⟨_, (m4.row0 hO.lb hr), (readN ag26_ZTraces sz26_ZTraces (takeN_cons x0 (takeN_cons x1 (takeN_cons x2 (takeN_cons x3 (takeN_cons x4 takeN_nil))))))⟩ pastNil)) (veq_agg (veqCons veqI (veqCons veqS (veqCons veqS (veqCons veqS (veqCons veqS veqNil)))))) rfl (by kernel_rfl) rfl rfl rfl ?_
  refine KD.pv 31 (PV.move rfl) rfl rfl rfl (by kernel_rfl) rfl rfl rfl ?_
  refine KD.pv 63 (PV.nilCheck rfl) rfl rfl rfl (by kernel_rfl) rfl rfl rfl ?_
  refine KD.pv 127 (PV.fieldAddr fo113_2_ZTraces rfl) rfl rfl rfl (by kernel_rfl) rfl rfl rfl ?_
  refine KD.load 255 rfl (m4.row0 hO.lb hr) (readN ag111_ZTraces sz111_ZTraces (takeN_cons x6 (takeN_cons x7 takeN_nil))) (pastGo (k := 1) (l := [H1]) (by kernel_rfl) rfl (pastCons ⟨_, (m4.row0 hO.lb hr), (readN ag111_ZTraces sz111_ZTraces (takeN_cons x6 (takeN_cons x7 takeN_nil)))⟩ pastNil)) (veq_agg (veqCons veqS (veqCons veqS veqNil))) rfl (by kernel_rfl) rfl rfl rfl ?_
  refine KD.call 511 rfl rfl rfl (by kernel_rfl) rfl rfl rfl (tr_Witness H1 yu0 ya1 yn1 yc1 _ ya2 yn2 yc2 _ ya3 yn3 yc3 _ ya4 yn4 yc4 _ ya6 yn6 yc6 _ ya7 yn7 yc7 _ _ (wrap64 (by omega) (by omega)) (V.mem m4 h_l1) (V.mem m4 h_l2) (V.mem m4 h_l3) (V.mem m4 h_l4) (V.mem m4 h_l6) (V.mem m4 h_l7) (VV.mem m4 i_l7) (by first | omega | assumption) (by first | omega | assumption) (by first | omega | assumption)) fun v5 H5 q5 => ?_
  obtain ⟨z5, e5, hv5, mc5, p5_0⟩ := q5
  dsimp only at hv5 mc5
  subst hv5
  have m6 := m4.seq mc5
  refine KD.nil ⟨rfl, ?_⟩
  refine KC.seq ?_
  refine KC.region ?_
  refine KO.pv (PV.assign rfl) rfl rfl ?_
  refine KO.nil ?_
  exact KC.ret ⟨rfl, _, (.tmp rfl .nil), call_none m6⟩
theorem call_91 : CallOK' E0 3 9 40 91 ShTraces := by
  intro H bx ns ss D hO hl1 _
  obtain ⟨r, yu0, ya1, yn1, yc1, yl1, ya2, yn2, yc2, yl2, ya3, yn3, yc3, yl3, ya4, yn4, yc4, yl4, ya5, yn5, yc5, yl5, ya6, yn6, yc6, yl6, ya7, yn7, yc7, yv7, yl7, hr, x0, w_u0, x1, h_l1, ex_l1, b_l1, x2, h_l2, ex_l2, b_l2, x3, h_l3, ex_l3, b_l3, x4, h_l4, ex_l4, b_l4, x5, h_l5, ex_l5, b_l5, x6, h_l6, ex_l6, b_l6, x7, h_l7, ex_l7, b_l7, i_l7, bi_l7⟩ := arg_Traces hO hl1
  obtain ⟨lo_u0, hi_u0⟩ := rangei64 w_u0
  obtain ⟨len_l1, cap_l1, max_l1, wf_l1⟩ := h_l1.len
  obtain ⟨len_l2, cap_l2, max_l2, wf_l2⟩ := h_l2.len
  obtain ⟨len_l3, cap_l3, max_l3, wf_l3⟩ := h_l3.len
  obtain ⟨len_l4, cap_l4, max_l4, wf_l4⟩ := h_l4.len
  obtain ⟨len_l5, cap_l5, max_l5, wf_l5⟩ := h_l5.len
  obtain ⟨len_l6, cap_l6, max_l6, wf_l6⟩ := h_l6.len
  obtain ⟨len_l7, cap_l7, max_l7, wf_l7⟩ := h_l7.len
  have m0 : Mem [] H H [] := Mem.start
  refine WF.kg Tryz.func91 rfl rfl ?_
  refine KC.seq ?_
  refine KC.region ?_
  refine KO.pv (PV.assign rfl) rfl rfl ?_
  refine KO.nil ?_
  refine KC.seq ?_
  refine KC.drawG (n := 15) (anc := [0, 1, 3, 7, 0, 16, 48, 112, 255, 511, 1023, 1023, 0, 6143, 16383]) (hv := [8, 13]) (ord := [0, 1, 2, 3, 4, 5, 6, 7, 8, 9, 10, 12, 13, 11, 14]) (by kernel_rfl) (by kernel_rfl) (by kernel_rfl) (by kernel_rfl) (by kernel_rfl) fun H1 n2 g3 => ?_
  have m4 := m0.room n2 g3 [12] (by decide) (by decide)
  refine KD.pv 1 (PV.move rfl) rfl rfl rfl (by kernel_rfl) rfl rfl rfl ?_
  refine KD.pv 3 (PV.nilCheck rfl) rfl rfl rfl (by kernel_rfl) rfl rfl rfl ?_
  refine KD.pv 7 (PV.fieldAddr fo113_0_ZTraces rfl) rfl rfl rfl (by kernel_rfl) rfl rfl rfl ?_
  refine KD.load 15 rfl (m4.row0 hO.lb hr) (readN ag26_ZTraces sz26_ZTraces (takeN_cons x0 (takeN_cons x1 (takeN_cons x2 (takeN_cons x3 (takeN_cons x4 takeN_nil)))))) (pastGo (k := 1) (l := [H1]) (by kernel_rfl) rfl (pastCons ⟨_, (m4.row0 hO.lb hr), (readN ag26_ZTraces sz26_ZTraces (takeN_cons x0 (takeN_cons x1 (takeN_cons x2 (takeN_cons x3 (takeN_cons x4 takeN_nil))))))⟩ pastNil)) (veq_agg (veqCons veqI (veqCons veqS (veqCons veqS (veqCons veqS (veqCons veqS veqNil)))))) rfl (by kernel_rfl) rfl rfl rfl ?_
  refine KD.pv 31 (PV.move rfl) rfl rfl rfl (by kernel_rfl) rfl rfl rfl ?_
  refine KD.pv 63 (PV.nilCheck rfl) rfl rfl rfl (by kernel_rfl) rfl rfl rfl ?_
  refine KD.pv 127 (PV.fieldAddr fo113_2_ZTraces rfl) rfl rfl rfl (by kernel_rfl) rfl rfl rfl ?_
  refine KD.load 255 rfl (m4.row0 hO.lb hr) (readN ag111_ZTraces sz111_ZTraces (takeN_cons x6 (takeN_cons x7 takeN_nil))) (pastGo (k := 1) (l := [H1]) (by kernel_rfl) rfl (pastCons ⟨_, (m4.row0 hO.lb hr), (readN ag111_ZTraces sz111_ZTraces (takeN_cons x6 (takeN_cons x7 takeN_nil)))⟩ pastNil)) (veq_agg (veqCons veqS (veqCons veqS veqNil))) rfl (by kernel_rfl) rfl rfl rfl ?_
  refine KD.call 511 rfl rfl rfl (by kernel_rfl) rfl rfl rfl (tr_Cut H1 yu0 ya1 yn1 yc1 _ ya2 yn2 yc2 _ ya3 yn3 yc3 _ ya4 yn4 yc4 _ ya6 yn6 yc6 _ ya7 yn7 yc7 _ _ (wrap64 (by omega) (by omega)) (V.mem m4 h_l1) (V.mem m4 h_l2) (V.mem m4 h_l3) (V.mem m4 h_l4) (V.mem m4 h_l6) (V.mem m4 h_l7) (VV.mem m4 i_l7) (by first | omega | assumption) (by first | omega | assumption) (by assumption)) fun v5 H5 q5 => ?_
  obtain ⟨a15, n15, c15, l15, D15, a25, n25, c25, v25, D25, l25, E25, e5, hv5, mc5, p5_0, p5_1⟩ := q5
  dsimp only at hv5 mc5
  subst hv5
  have m6 := m4.seq mc5
  refine KD.pv 1023 (PV.move rfl) rfl rfl rfl (by kernel_rfl) rfl rfl rfl ?_
  refine KD.pv 2047 (PV.extract rfl rfl) rfl rfl rfl (by kernel_rfl) rfl rfl rfl ?_
  refine KD.allocM 6143 m6 (j := 3) rfl zt111_ZTraces rfl (by kernel_rfl) rfl rfl rfl fun H7 m8 => ?_
  refine KD.storeM 14335 m8 (j := 3) rfl sz111_ZTraces rfl rfl rfl (show 0 + 2 ≤ 2 by decide) (show _ = [.slice a15 n15 c15, .slice a25 n25 c25] from rfl) rfl (by kernel_rfl) rfl rfl fun H9 m10 => ?_
  refine KD.pv 16383 (PV.extract rfl rfl) rfl rfl rfl (by kernel_rfl) rfl rfl rfl ?_
  refine KD.pv 32767 (PV.assign rfl) rfl rfl rfl (by kernel_rfl) rfl rfl rfl ?_
  refine KD.nil ⟨rfl, ?_⟩
  refine KC.seq ?_
  refine KC.region ?_
  refine KO.pv (PV.makeFunc rfl rfl) rfl rfl ?_
  refine KO.buildSliceM m10 el33_ZTraces ez40_ZTraces rfl rfl (show _ = some [.func (.func 93) #[] #[.pointer (some ⟨(H.next + 12), 0, none⟩)]] from rfl) rfl rfl fun H11 m12 => ?_
  refine KO.pv (PV.assign rfl) rfl rfl ?_
  refine KO.nil ?_
  obtain ⟨nr13, rd13, ln13, lm13⟩ := OwnV.rd rdB (m12.res (i := 1) rfl) (cs := [.slice a15 n15 c15, .slice a25 n25 c25]) (o := 0) rfl
  obtain ⟨nr14, rd14, ln14⟩ := InnOK.rd rdB (m12.res (i := 2) rfl) (m12.res (i := 3) rfl) (cs := [.slice a15 n15 c15, .slice a25 n25 c25]) (o := 1) rfl
  have lt14 := total_le (xss := l25) (k := 63000) (by first | assumption | exact all_nil)
  have li14 := m12.innLen (i := 3) rfl
  have lo14 := m12.ownLen (i := 2) rfl
  exact KC.ret ⟨rfl, _, (.tmp rfl .nil), call_one (m12.pick [0, 4, 1, 2, 3] (by decide) rfl) rfl (see_93 9) ⟨_, _, _, _, _, _, rd13, ⟨_, _, _, _, _, _, rd14, ⟨rfl, rfl, rfl⟩, rfl, rfl, rfl⟩, rfl, rfl, rfl⟩ (by simp [R.own, R.inn, pickL]) (by simp only [List.length_append, List.length_cons, List.length_nil] <;> omega) (by simp)⟩
theorem top_8 (w : Bool × Bool) (hwS : Sh.bools (.fld 0 (.fld 0 (.num .i64) (.fld 1 (.list 2 (.fld 0 (.num .i64) (.fld 1 (.num .i64) .nil))) (.fld 2 (.list 2 (.fld 0 (.num .i64) (.fld 1 (.num .i64) .nil))) (.fld 3 (.list 1 (.num .i64)) (.fld 4 (.list 1 (.num .i64)) .nil))))) (.fld 5 (.list 1 .bool) (.fld 6 (.fld 0 (.list 1 .bool) (.fld 1 (.list 1 (.list 1 .bool)) .nil)) .nil))) = true → w.1 = true) (H : AHeap) (cs : List Value) (ns : List Int) (ss : List ByteArray) (D : List Nat) (hcl : cs.length = 8) (hone : cs.all oneC = true) (hR : Rd H ⟨false, w.1, w.2⟩ (.fld 0 (.fld 0 (.num .i64) (.fld 1 (.list 2 (.fld 0 (.num .i64) (.fld 1 (.num .i64) .nil))) (.fld 2 (.list 2 (.fld 0 (.num .i64) (.fld 1 (.num .i64) .nil))) (.fld 3 (.list 1 (.num .i64)) (.fld 4 (.list 1 (.num .i64)) .nil))))) (.fld 5 (.list 1 .bool) (.fld 6 (.fld 0 (.list 1 .bool) (.fld 1 (.list 1 (.list 1 .bool)) .nil)) .nil))) cs 0 ns ss D) (hD : ∀ j ∈ D, j < H.next) (l1 : ns.length ≤ 10000000) (l2 : ss.length ≤ 10000000) :
    WF E0 8 [.agg cs.toArray] H fun q => q.1 = .bool true := by
  have hcalls : ∀ f ∈ ([79, 81, 83, 87, 89, 91] : List FuncId), CallOK' E0 3 9 40 f (.fld 0 (.fld 0 (.num .i64) (.fld 1 (.list 2 (.fld 0 (.num .i64) (.fld 1 (.num .i64) .nil))) (.fld 2 (.list 2 (.fld 0 (.num .i64) (.fld 1 (.num .i64) .nil))) (.fld 3 (.list 1 (.num .i64)) (.fld 4 (.list 1 (.num .i64)) .nil))))) (.fld 5 (.list 1 .bool) (.fld 6 (.fld 0 (.list 1 .bool) (.fld 1 (.list 1 (.list 1 .bool)) .nil)) .nil))) ∧ E0.ext f = none := by
    intro f hf
    simp only [List.mem_cons, List.not_mem_nil, or_false] at hf
    rcases hf with rfl | rfl | rfl | rfl | rfl | rfl
    · exact ⟨call_79, rfl⟩
    · exact ⟨call_81, rfl⟩
    · exact ⟨call_83, rfl⟩
    · exact ⟨call_87, rfl⟩
    · exact ⟨call_89, rfl⟩
    · exact ⟨call_91, rfl⟩
  refine WF.k Tryz.func8 rfl rfl ?_
  refine KC.seq (KC.region ?_)
  refine KO.box (rfl) ((boxAgg hone)) rfl rfl fun G0 u0 => ?_
  refine KO.pv (PV.assign rfl) rfl rfl ?_
  refine KO.nil ?_
  rw [show cellsV (.agg cs.toArray) = cs by simp [cellsV]] at u0
  have hX : G0.row H.next = some ⟨113, true, true, cs⟩ := by rw [u0.row, if_pos rfl]
  have hn0 := u0.next
  refine KC.seq (KC.region ?_)
  refine KO.loadN ag113_ZTraces sz113_ZTraces rfl (hX) ((takeN_of (p := cs) (by rw [List.drop_zero, ← hcl, List.take_length]) hcl)) rfl rfl ?_
  refine KO.buildSlice el131_ZTraces ez119_ZTraces rfl rfl (rfl) rfl rfl fun G1 u1 => ?_
  refine KO.call rfl rfl rfl rfl (apart_76 (own := 77) (see := 78) (calls := [79, 81, 83, 87, 89, 91]) own_77 (see_78 9) hcalls rfl rfl (by decide) G1 cs ns ss D hcl hone w hwS (hR.frame fun j hj => by have := hD j hj; rw [u1.row, if_neg (by omega), u0.row, if_neg (by omega)]) (fun j hj => by have := hD j hj; rw [u1.next]; omega) l1 l2 G0.next (by rw [u1.row, if_pos rfl]; rfl) (by rw [u1.next]; omega)) fun v2 G2 q2 => ?_
  dsimp only at q2
  subst q2
  refine KO.pv (PV.move rfl) rfl rfl ?_
  refine KO.call rfl rfl rfl rfl (WF.sum (Q := fun q => q.1 = .bool true) rfl rfl) fun v3 G3 q3 => ?_
  dsimp only at q3
  subst q3
  refine KO.pv (PV.pickT rfl rfl rfl) rfl rfl ?_
  refine KO.pv (PV.assign rfl) rfl rfl ?_
  refine KO.nil ?_
  exact KC.ret ⟨rfl, _, rfl, rfl⟩
end Go.Eng

namespace Go.Eng
open Go Go.Proofs
theorem cells113_Traces : Tryz.prog.cellsOf 113 = 8 := by kernel_rfl
theorem cells111_Traces : Tryz.prog.cellsOf 111 = 2 := by kernel_rfl
theorem cells109_Traces : Tryz.prog.cellsOf 109 = 1 := by kernel_rfl
theorem cells89_Traces : Tryz.prog.cellsOf 89 = 1 := by kernel_rfl
theorem cells4_Traces : Tryz.prog.cellsOf 4 = 1 := by kernel_rfl
theorem cells26_Traces : Tryz.prog.cellsOf 26 = 5 := by kernel_rfl
theorem cells24_Traces : Tryz.prog.cellsOf 24 = 1 := by kernel_rfl
theorem cells3_Traces : Tryz.prog.cellsOf 3 = 1 := by kernel_rfl
theorem cells23_Traces : Tryz.prog.cellsOf 23 = 1 := by kernel_rfl
theorem cells145_Traces : Tryz.prog.cellsOf 145 = 2 := by kernel_rfl
theorem cells22_Traces : Tryz.prog.cellsOf 22 = 1 := by kernel_rfl
theorem cells147_Traces : Tryz.prog.cellsOf 147 = 2 := by kernel_rfl
theorem fits89_Traces : Fits Tryz.prog (.list 1 .bool) 89 := ⟨4, Tryz.underlying89, cells4_Traces, by decide, by decide, by decide, .inl Tryz.underlying4⟩
theorem fits109_Traces : Fits Tryz.prog (.list 1 (.list 1 .bool)) 109 := ⟨89, Tryz.underlying109, cells89_Traces, by decide, by decide, by decide, .inl fits89_Traces⟩
theorem fits24_Traces : Fits Tryz.prog (.list 1 (.num .i64)) 24 := ⟨3, Tryz.underlying24, cells3_Traces, by decide, by decide, by decide, .inl Tryz.underlying3⟩
theorem fits23_Traces : Fits Tryz.prog (.list 2 (.fld 0 (.num .i64) (.fld 1 (.num .i64) .nil))) 23 := ⟨145, Tryz.underlying23, cells145_Traces, by decide, by decide, by decide, .inr ⟨_, Tryz.underlying145, by
    rw [cells145_Traces]
    refine ⟨_, _, rfl, rfl, rfl, ⟨_, _, rfl, ?_, ?_, ⟨rfl, ?_⟩, .inl Tryz.underlying3⟩, .inl Tryz.underlying3⟩ <;> simp only [cells3_Traces]⟩⟩
theorem fits22_Traces : Fits Tryz.prog (.list 2 (.fld 0 (.num .i64) (.fld 1 (.num .i64) .nil))) 22 := ⟨147, Tryz.underlying22, cells147_Traces, by decide, by decide, by decide, .inr ⟨_, Tryz.underlying147, by
    rw [cells147_Traces]
    refine ⟨_, _, rfl, rfl, rfl, ⟨_, _, rfl, ?_, ?_, ⟨rfl, ?_⟩, .inl Tryz.underlying3⟩, .inl Tryz.underlying3⟩ <;> simp only [cells3_Traces]⟩⟩
theorem fitsA_Traces : Fits.go Tryz.prog (.fld 0 (.fld 0 (.num .i64) (.fld 1 (.list 2 (.fld 0 (.num .i64) (.fld 1 (.num .i64) .nil))) (.fld 2 (.list 2 (.fld 0 (.num .i64) (.fld 1 (.num .i64) .nil))) (.fld 3 (.list 1 (.num .i64)) (.fld 4 (.list 1 (.num .i64)) .nil))))) (.fld 5 (.list 1 .bool) (.fld 6 (.fld 0 (.list 1 .bool) (.fld 1 (.list 1 (.list 1 .bool)) .nil)) .nil))) [{ name := "C", type := 26, offset := 0, embedded := false, tag := "", pkgPath := "", byteOffset := 0 }, { name := "State", type := 89, offset := 5, embedded := false, tag := "", pkgPath := "", byteOffset := 104 }, { name := "T", type := 111, offset := 6, embedded := false, tag := "", pkgPath := "", byteOffset := 128 }] 0 8 := by
  refine ⟨_, _, rfl, rfl, rfl, ⟨_, _, rfl, ?_, ?_, ⟨_, _, rfl, ?_, ?_, ⟨rfl, ?_⟩, .inr ⟨_, Tryz.underlying111, by
    rw [cells111_Traces]
    refine ⟨_, _, rfl, rfl, rfl, ⟨_, _, rfl, ?_, ?_, ⟨rfl, ?_⟩, .inl fits109_Traces⟩, .inl fits89_Traces⟩ <;> simp only [cells89_Traces, cells109_Traces]⟩⟩, .inl fits89_Traces⟩, .inr ⟨_, Tryz.underlying26, by
    rw [cells26_Traces]
    refine ⟨_, _, rfl, rfl, rfl, ⟨_, _, rfl, ?_, ?_, ⟨_, _, rfl, ?_, ?_, ⟨_, _, rfl, ?_, ?_, ⟨_, _, rfl, ?_, ?_, ⟨rfl, ?_⟩, .inl fits24_Traces⟩, .inl fits24_Traces⟩, .inl fits23_Traces⟩, .inl fits22_Traces⟩, .inl Tryz.underlying3⟩ <;> simp only [cells3_Traces, cells22_Traces, cells23_Traces, cells24_Traces]⟩⟩ <;> simp only [cells26_Traces, cells89_Traces, cells111_Traces]
theorem core_Traces {K : Type} {enc : TypeId × Value → K} {μ : DataW K → Nat} (hμ : Msr μ) (W : World) (cs : Array Value) (hcs : cs.size = 8) {d0 : DataW K} {p0 : List MemPlace} {fuel : Nat} (hf : DataW.trod enc Tryz.prog W 0 (fun _ => true) true fuel 113 cs.toList = some (d0, p0)) (hz : W.noneFrozen p0) (hd : μ d0 ≤ 1048576) :
    Calls Tryz.prog 8 #[.agg cs] W fun e W' => e = .returned (.bool true) ∧ RowKit.Below W.heap.size W W' := by
  obtain ⟨φ, H, acs, ns, ss, D, k1, k2, k3, k4, k5, k6, k7, k8, k9, k10⟩ := arg_vr hμ (G := 8) (s := .fld 0 (.fld 0 (.num .i64) (.fld 1 (.list 2 (.fld 0 (.num .i64) (.fld 1 (.num .i64) .nil))) (.fld 2 (.list 2 (.fld 0 (.num .i64) (.fld 1 (.num .i64) .nil))) (.fld 3 (.list 1 (.num .i64)) (.fld 4 (.list 1 (.num .i64)) .nil))))) (.fld 5 (.list 1 .bool) (.fld 6 (.fld 0 (.list 1 .bool) (.fld 1 (.list 1 (.list 1 .bool)) .nil)) .nil))) (fun _ => rfl) Tryz.underlying113 (by rw [cells113_Traces]; exact fitsA_Traces) hf hz (by dsimp only; omega) _ _ (rel0 8 W) (fun i o hi => by simp [heap0, AHeap.get, Tr.get] at hi)
  have hal : acs.length = 8 := by rw [LRel.len k6]; simpa using hcs
  dsimp only at k10
  have hcall := calls_true k1 k2 k6 (top_8 (true, true) (fun _ => rfl) H acs ns ss D hal k7 k8 k9 (by omega) (by omega))
  rw [show cs.toList.toArray = cs by simp] at hcall
  exact hcall
end Go.Eng
