/- TopSharedPreds answers true on the interpreter, and so on the machine. Conditions: none beyond each theorem's own. -/
import Derived.Test.YthofopbfjpidhaaGreatDoorPredsB11
import Derived.Test.YthofopbfjpidhaaGreatDoorPredsA
import Derived.KernelRfl
import Derived.Test.YthofopbfjpidhaaGreatDoorAlive
set_option linter.all false
namespace Go.Eng
open Go Go.Proofs
theorem ag3_ZPreds : isAggT E0.P 3 = some false := by kernel_rfl
theorem ag24_ZPreds : isAggT E0.P 24 = some false := by kernel_rfl
theorem ag26_ZPreds : isAggT E0.P 26 = some true := by kernel_rfl
theorem sz26_ZPreds : sizeT E0.P 26 = some 5 := by kernel_rfl
theorem ag89_ZPreds : isAggT E0.P 89 = some false := by kernel_rfl
theorem ag44_ZPreds : isAggT E0.P 44 = some true := by kernel_rfl
theorem sz44_ZPreds : sizeT E0.P 44 = some 2 := by kernel_rfl
theorem zt44_ZPreds : zeroT E0.P 44 = some [.slice none 0 0, .int .i64 0] := by kernel_rfl
theorem zt26_ZPreds : zeroT E0.P 26 = some [.int .i64 0, .slice none 0 0, .slice none 0 0, .slice none 0 0, .slice none 0 0] := by kernel_rfl
theorem ag42_ZPreds : isAggT E0.P 42 = some false := by kernel_rfl
theorem el33_ZPreds : elemT E0.P 33 = some 40 := by kernel_rfl
theorem ez40_ZPreds : elemZ E0.P 40 = some (1, [.nilFunc]) := by kernel_rfl
theorem fo91_0_ZPreds : foff E0.P 91 0 = some 0 := by kernel_rfl
theorem fo91_1_ZPreds : foff E0.P 91 1 = some 1 := by kernel_rfl
theorem fo91_2_ZPreds : foff E0.P 91 2 = some 3 := by kernel_rfl
theorem fo91_3_ZPreds : foff E0.P 91 3 = some 4 := by kernel_rfl
theorem fo91_4_ZPreds : foff E0.P 91 4 = some 5 := by kernel_rfl
theorem fo91_5_ZPreds : foff E0.P 91 5 = some 7 := by kernel_rfl
theorem fo91_6_ZPreds : foff E0.P 91 6 = some 12 := by kernel_rfl
theorem ag91_ZPreds : isAggT E0.P 91 = some true := by kernel_rfl
theorem sz91_ZPreds : sizeT E0.P 91 = some 13 := by kernel_rfl
theorem el107_ZPreds : elemT E0.P 107 = some 97 := by kernel_rfl
theorem ez97_ZPreds : elemZ E0.P 97 = some (1, [.nilFunc]) := by kernel_rfl
abbrev ShPreds : Sh := .fld 0 (.num .i64) (.fld 1 (.fld 0 (.list 2 (.fld 0 (.num .i64) (.fld 1 (.num .i64) .nil))) (.fld 1 (.num .i64) .nil)) (.fld 3 (.list 1 .bool) (.fld 4 (.list 1 (.list 1 (.num .i64))) (.fld 5 (.fld 0 (.list 2 (.fld 0 (.num .i64) (.fld 1 (.num .i64) .nil))) (.fld 1 (.num .i64) .nil)) (.fld 7 (.fld 0 (.num .i64) (.fld 1 (.list 2 (.fld 0 (.num .i64) (.fld 1 (.num .i64) .nil))) (.fld 2 (.list 2 (.fld 0 (.num .i64) (.fld 1 (.num .i64) .nil))) (.fld 3 (.list 1 (.num .i64)) (.fld 4 (.list 1 (.num .i64)) .nil))))) (.fld 12 (.list 1 (.num .i64)) .nil))))))
theorem arg_Preds {H : AHeap} {bx : Nat} {ns : List Int} {ss : List ByteArray} {D : List Nat} (h : Own H ⟨true, true, false⟩ ShPreds bx ns ss D) (hl : ns.length ≤ 63000) :
    ∃ (r : Row) (yu0 : Int) (ya1 : Option Addr) (yn1 yc1 : Nat) (yl1 : List (Int × Int)) (yu2 : Int) (ya3 : Option Addr) (yn3 yc3 : Nat) (yl3 : List Bool) (ya4 : Option Addr) (yn4 yc4 : Nat) (yv4 : List (Option Addr × Nat × Nat)) (yl4 : List (List Int)) (ya5 : Option Addr) (yn5 yc5 : Nat) (yl5 : List (Int × Int)) (yu6 : Int) (yu7 : Int) (ya8 : Option Addr) (yn8 yc8 : Nat) (yl8 : List (Int × Int)) (ya9 : Option Addr) (yn9 yc9 : Nat) (yl9 : List (Int × Int)) (ya10 : Option Addr) (yn10 yc10 : Nat) (yl10 : List Int) (ya11 : Option Addr) (yn11 yc11 : Nat) (yl11 : List Int) (ya12 : Option Addr) (yn12 yc12 : Nat) (yl12 : List Int), H.row bx = some r ∧ r.cs[0]? = some (.int .i64 yu0) ∧ IntKind.i64.wrap yu0 = yu0 ∧ r.cs[1]? = some (.slice ya1 yn1 yc1) ∧ V EP H ya1 yn1 yc1 yl1 ∧ exactBase ya1 = true ∧ yn1 ≤ 63000 ∧ r.cs[2]? = some (.int .i64 yu2) ∧ IntKind.i64.wrap yu2 = yu2 ∧ r.cs[3]? = some (.slice ya3 yn3 yc3) ∧ V EB H ya3 yn3 yc3 yl3 ∧ exactBase ya3 = true ∧ yn3 ≤ 63000 ∧ r.cs[4]? = some (.slice ya4 yn4 yc4) ∧ V ES H ya4 yn4 yc4 yv4 ∧ exactBase ya4 = true ∧ yn4 ≤ 63000 ∧ VV (EI .i64) H yv4 yl4 ∧ (∀ xs ∈ yl4, xs.length ≤ 63000) ∧ r.cs[5]? = some (.slice ya5 yn5 yc5) ∧ V EP H ya5 yn5 yc5 yl5 ∧ exactBase ya5 = true ∧ yn5 ≤ 63000 ∧ r.cs[6]? = some (.int .i64 yu6) ∧ IntKind.i64.wrap yu6 = yu6 ∧ r.cs[7]? = some (.int .i64 yu7) ∧ IntKind.i64.wrap yu7 = yu7 ∧ r.cs[8]? = some (.slice ya8 yn8 yc8) ∧ V EP H ya8 yn8 yc8 yl8 ∧ exactBase ya8 = true ∧ yn8 ≤ 63000 ∧ r.cs[9]? = some (.slice ya9 yn9 yc9) ∧ V EP H ya9 yn9 yc9 yl9 ∧ exactBase ya9 = true ∧ yn9 ≤ 63000 ∧ r.cs[10]? = some (.slice ya10 yn10 yc10) ∧ V (EI .i64) H ya10 yn10 yc10 yl10 ∧ exactBase ya10 = true ∧ yn10 ≤ 63000 ∧ r.cs[11]? = some (.slice ya11 yn11 yc11) ∧ V (EI .i64) H ya11 yn11 yc11 yl11 ∧ exactBase ya11 = true ∧ yn11 ≤ 63000 ∧ r.cs[12]? = some (.slice ya12 yn12 yc12) ∧ V (EI .i64) H ya12 yn12 yc12 yl12 ∧ exactBase ya12 = true ∧ yn12 ≤ 63000 := by
  obtain ⟨r, hr, hw, hR⟩ := h.ex
  have hD := h.lD
  obtain ⟨n0, s0, D0, m0, t0, B0, r0, w0, rfl, rfl, rfl⟩ := hR
  obtain ⟨n1, s1, D1, m1, t1, B1, r1, w1, rfl, rfl, rfl⟩ := w0
  obtain ⟨n2, s2, D2, m2, t2, B2, r2, w2, rfl, rfl, rfl⟩ := w1
  obtain ⟨n3, s3, D3, m3, t3, B3, r3, w3, rfl, rfl, rfl⟩ := w2
  obtain ⟨n4, s4, D4, m4, t4, B4, r4, w4, rfl, rfl, rfl⟩ := w3
  obtain ⟨n5, s5, D5, m5, t5, B5, r5, w5, rfl, rfl, rfl⟩ := w4
  obtain ⟨n6, s6, D6, m6, t6, B6, r6, w6, rfl, rfl, rfl⟩ := w5
  obtain ⟨rfl, rfl, rfl⟩ := w6
  obtain ⟨yu0, k0, z0, -⟩ := r0
  obtain ⟨n7, s7, D7, m7, t7, B7, r7, w7, rfl, rfl, rfl⟩ := r1
  obtain ⟨n8, s8, D8, m8, t8, B8, r8, w8, rfl, rfl, rfl⟩ := w7
  obtain ⟨rfl, rfl, rfl⟩ := w8
  obtain ⟨ya1, yn1, yc1, yl1, k7, v7, e7, g7⟩ := rd_list rdP r7 (fun j hj => hD j (by simp only [List.mem_append, hj, true_or, or_true]))
  obtain ⟨yu2, k8, z8, -⟩ := r8
  obtain ⟨ya3, yn3, yc3, yl3, k2, v2, e2, g2⟩ := rd_list rdB r2 (fun j hj => hD j (by simp only [List.mem_append, hj, true_or, or_true]))
  obtain ⟨ya4, yn4, yc4, yv4, yl4, k3, v3, e3, g3, vv3, bb3⟩ := rd_lists (rdI .i64) r3 (fun j hj => hD j (by simp only [List.mem_append, hj, true_or, or_true]))
  obtain ⟨n9, s9, D9, m9, t9, B9, r9, w9, rfl, rfl, rfl⟩ := r4
  obtain ⟨n10, s10, D10, m10, t10, B10, r10, w10, rfl, rfl, rfl⟩ := w9
  obtain ⟨rfl, rfl, rfl⟩ := w10
  obtain ⟨ya5, yn5, yc5, yl5, k9, v9, e9, g9⟩ := rd_list rdP r9 (fun j hj => hD j (by simp only [List.mem_append, hj, true_or, or_true]))
  obtain ⟨yu6, k10, z10, -⟩ := r10
  obtain ⟨n11, s11, D11, m11, t11, B11, r11, w11, rfl, rfl, rfl⟩ := r5
  obtain ⟨n12, s12, D12, m12, t12, B12, r12, w12, rfl, rfl, rfl⟩ := w11
  obtain ⟨n13, s13, D13, m13, t13, B13, r13, w13, rfl, rfl, rfl⟩ := w12
  obtain ⟨n14, s14, D14, m14, t14, B14, r14, w14, rfl, rfl, rfl⟩ := w13
  obtain ⟨n15, s15, D15, m15, t15, B15, r15, w15, rfl, rfl, rfl⟩ := w14
  obtain ⟨rfl, rfl, rfl⟩ := w15
  obtain ⟨yu7, k11, z11, -⟩ := r11
  obtain ⟨ya8, yn8, yc8, yl8, k12, v12, e12, g12⟩ := rd_list rdP r12 (fun j hj => hD j (by simp only [List.mem_append, hj, true_or, or_true]))
  obtain ⟨ya9, yn9, yc9, yl9, k13, v13, e13, g13⟩ := rd_list rdP r13 (fun j hj => hD j (by simp only [List.mem_append, hj, true_or, or_true]))
  obtain ⟨ya10, yn10, yc10, yl10, k14, v14, e14, g14⟩ := rd_list (rdI .i64) r14 (fun j hj => hD j (by simp only [List.mem_append, hj, true_or, or_true]))
  obtain ⟨ya11, yn11, yc11, yl11, k15, v15, e15, g15⟩ := rd_list (rdI .i64) r15 (fun j hj => hD j (by simp only [List.mem_append, hj, true_or, or_true]))
  obtain ⟨ya12, yn12, yc12, yl12, k6, v6, e6, g6⟩ := rd_list (rdI .i64) r6 (fun j hj => hD j (by simp only [List.mem_append, hj, true_or, or_true]))
  exact ⟨r, yu0, ya1, yn1, yc1, yl1, yu2, ya3, yn3, yc3, yl3, ya4, yn4, yc4, yv4, yl4, ya5, yn5, yc5, yl5, yu6, yu7, ya8, yn8, yc8, yl8, ya9, yn9, yc9, yl9, ya10, yn10, yc10, yl10, ya11, yn11, yc11, yl11, ya12, yn12, yc12, yl12, hr, k0, z0, k7, v7, e7, (by simp only [List.length_append] at hl; omega), k8, z8, k2, v2, e2, (by simp only [List.length_append] at hl; omega), k3, v3, e3, (by simp only [List.length_append] at hl; omega), vv3, (fun xs hx => by have := bb3 xs hx; simp only [List.length_append] at hl; omega), k9, v9, e9, (by simp only [List.length_append] at hl; omega), k10, z10, k11, z11, k12, v12, e12, (by simp only [List.length_append] at hl; omega), k13, v13, e13, (by simp only [List.length_append] at hl; omega), k14, v14, e14, (by simp only [List.length_append] at hl; omega), k15, v15, e15, (by simp only [List.length_append] at hl; omega), k6, v6, e6, (by simp only [List.length_append] at hl; omega)⟩
theorem call_56 : CallOK' E0 3 9 40 56 ShPreds := by
  intro H bx ns ss D hO hl1 _
  obtain ⟨r, yu0, ya1, yn1, yc1, yl1, yu2, ya3, yn3, yc3, yl3, ya4, yn4, yc4, yv4, yl4, ya5, yn5, yc5, yl5, yu6, yu7, ya8, yn8, yc8, yl8, ya9, yn9, yc9, yl9, ya10, yn10, yc10, yl10, ya11, yn11, yc11, yl11, ya12, yn12, yc12, yl12, hr, x0, w_u0, x1, h_l1, ex_l1, b_l1, x2, w_u2, x3, h_l3, ex_l3, b_l3, x4, h_l4, ex_l4, b_l4, i_l4, bi_l4, x5, h_l5, ex_l5, b_l5, x6, w_u6, x7, w_u7, x8, h_l8, ex_l8, b_l8, x9, h_l9, ex_l9, b_l9, x10, h_l10, ex_l10, b_l10, x11, h_l11, ex_l11, b_l11, x12, h_l12, ex_l12, b_l12⟩ := arg_Preds hO hl1
  obtain ⟨lo_u0, hi_u0⟩ := rangei64 w_u0
  obtain ⟨len_l1, cap_l1, max_l1, wf_l1⟩ := h_l1.len
  obtain ⟨lo_u2, hi_u2⟩ := rangei64 w_u2
  obtain ⟨len_l3, cap_l3, max_l3, wf_l3⟩ := h_l3.len
  obtain ⟨len_l4, cap_l4, max_l4, wf_l4⟩ := h_l4.len
  obtain ⟨len_l5, cap_l5, max_l5, wf_l5⟩ := h_l5.len
  obtain ⟨lo_u6, hi_u6⟩ := rangei64 w_u6
  obtain ⟨lo_u7, hi_u7⟩ := rangei64 w_u7
  obtain ⟨len_l8, cap_l8, max_l8, wf_l8⟩ := h_l8.len
  obtain ⟨len_l9, cap_l9, max_l9, wf_l9⟩ := h_l9.len
  obtain ⟨len_l10, cap_l10, max_l10, wf_l10⟩ := h_l10.len
  obtain ⟨len_l11, cap_l11, max_l11, wf_l11⟩ := h_l11.len
  obtain ⟨len_l12, cap_l12, max_l12, wf_l12⟩ := h_l12.len
  have m0 : Mem [] H H [] := Mem.start
  refine WF.kg Tryz.func56 rfl rfl ?_
  refine KC.seq ?_
  refine KC.region ?_
  refine KO.pv (PV.assign rfl) rfl rfl ?_
  refine KO.nil ?_
  refine KC.seq ?_
  refine KC.drawG (n := 9) (anc := [0, 1, 3, 7, 0, 16, 48, 112, 255]) (hv := [8]) (ord := [0, 1, 2, 3, 4, 5, 6, 7, 8]) (by kernel_rfl) (by kernel_rfl) (by kernel_rfl) (by kernel_rfl) (by kernel_rfl) fun H1 n2 g3 => ?_
  have m4 := m0.room n2 g3 [] (by decide) (by decide)
  refine KD.pv 1 (PV.move rfl) rfl rfl rfl (by kernel_rfl) rfl rfl rfl ?_
  refine KD.pv 3 (PV.nilCheck rfl) rfl rfl rfl (by kernel_rfl) rfl rfl rfl ?_
  refine KD.pv 7 (PV.fieldAddr fo91_0_ZPreds rfl) rfl rfl rfl (by kernel_rfl) rfl rfl rfl ?_
  refine KD.load 15 rfl (m4.row0 hO.lb hr) (by rw [read1 ag3_ZPreds]; exact x0) (pastGo (k := 1) (l := [H1]) (by kernel_rfl) rfl (pastCons ⟨_, (m4.row0 hO.lb hr), (by rw [read1 ag3_ZPreds]; exact x0)⟩ pastNil)) veq_int rfl (by kernel_rfl) rfl rfl rfl ?_
  refine KD.pv 31 (PV.move rfl) rfl rfl rfl (by kernel_rfl) rfl rfl rfl ?_
  refine KD.pv 63 (PV.nilCheck rfl) rfl rfl rfl (by kernel_rfl) rfl rfl rfl ?_
  refine KD.pv 127 (PV.fieldAddr fo91_1_ZPreds rfl) rfl rfl rfl (by kernel_rfl) rfl rfl rfl ?_
  refine KD.load 255 rfl (m4.row0 hO.lb hr) (readN ag44_ZPreds sz44_ZPreds (takeN_cons x1 (takeN_cons x2 takeN_nil))) (pastGo (k := 1) (l := [H1]) (by kernel_rfl) rfl (pastCons ⟨_, (m4.row0 hO.lb hr), (readN ag44_ZPreds sz44_ZPreds (takeN_cons x1 (takeN_cons x2 takeN_nil)))⟩ pastNil)) (veq_agg (veqCons veqS (veqCons veqI veqNil))) rfl (by kernel_rfl) rfl rfl rfl ?_
  refine KD.call 511 rfl rfl rfl (by kernel_rfl) rfl rfl rfl (pr_Check H1 yu0 ya1 yn1 yc1 _ yu2 (wrap64 (by omega) (by omega)) (V.mem m4 h_l1) (wrap64 (by omega) (by omega))) fun v5 H5 q5 => ?_
  obtain ⟨e5, hv5, mc5, p5_0, p5_1⟩ := q5
  dsimp only at hv5 mc5
  subst hv5
  have m6 := m4.seq mc5
  refine KD.nil ⟨rfl, ?_⟩
  refine KC.seq ?_
  refine KC.region ?_
  refine KO.pv (PV.assign rfl) rfl rfl ?_
  refine KO.nil ?_
  exact KC.ret ⟨rfl, _, (.tmp rfl .nil), call_none m6⟩
theorem call_58 : CallOK' E0 3 9 40 58 ShPreds := by
  intro H bx ns ss D hO hl1 _
  obtain ⟨r, yu0, ya1, yn1, yc1, yl1, yu2, ya3, yn3, yc3, yl3, ya4, yn4, yc4, yv4, yl4, ya5, yn5, yc5, yl5, yu6, yu7, ya8, yn8, yc8, yl8, ya9, yn9, yc9, yl9, ya10, yn10, yc10, yl10, ya11, yn11, yc11, yl11, ya12, yn12, yc12, yl12, hr, x0, w_u0, x1, h_l1, ex_l1, b_l1, x2, w_u2, x3, h_l3, ex_l3, b_l3, x4, h_l4, ex_l4, b_l4, i_l4, bi_l4, x5, h_l5, ex_l5, b_l5, x6, w_u6, x7, w_u7, x8, h_l8, ex_l8, b_l8, x9, h_l9, ex_l9, b_l9, x10, h_l10, ex_l10, b_l10, x11, h_l11, ex_l11, b_l11, x12, h_l12, ex_l12, b_l12⟩ := arg_Preds hO hl1
  obtain ⟨lo_u0, hi_u0⟩ := rangei64 w_u0
  obtain ⟨len_l1, cap_l1, max_l1, wf_l1⟩ := h_l1.len
  obtain ⟨lo_u2, hi_u2⟩ := rangei64 w_u2
  obtain ⟨len_l3, cap_l3, max_l3, wf_l3⟩ := h_l3.len
  obtain ⟨len_l4, cap_l4, max_l4, wf_l4⟩ := h_l4.len
  obtain ⟨len_l5, cap_l5, max_l5, wf_l5⟩ := h_l5.len
  obtain ⟨lo_u6, hi_u6⟩ := rangei64 w_u6
  obtain ⟨lo_u7, hi_u7⟩ := rangei64 w_u7
  obtain ⟨len_l8, cap_l8, max_l8, wf_l8⟩ := h_l8.len
  obtain ⟨len_l9, cap_l9, max_l9, wf_l9⟩ := h_l9.len
  obtain ⟨len_l10, cap_l10, max_l10, wf_l10⟩ := h_l10.len
  obtain ⟨len_l11, cap_l11, max_l11, wf_l11⟩ := h_l11.len
  obtain ⟨len_l12, cap_l12, max_l12, wf_l12⟩ := h_l12.len
  have m0 : Mem [] H H [] := Mem.start
  refine WF.kg Tryz.func58 rfl rfl ?_
  refine KC.seq ?_
  refine KC.region ?_
  refine KO.pv (PV.assign rfl) rfl rfl ?_
  refine KO.nil ?_
  refine KC.seq ?_
  refine KC.drawG (n := 9) (anc := [0, 1, 3, 7, 0, 16, 48, 112, 255]) (hv := [8]) (ord := [0, 1, 2, 3, 4, 5, 6, 7, 8]) (by kernel_rfl) (by kernel_rfl) (by kernel_rfl) (by kernel_rfl) (by kernel_rfl) fun H1 n2 g3 => ?_
  have m4 := m0.room n2 g3 [] (by decide) (by decide)
  refine KD.pv 1 (PV.move rfl) rfl rfl rfl (by kernel_rfl) rfl rfl rfl ?_
  refine KD.pv 3 (PV.nilCheck rfl) rfl rfl rfl (by kernel_rfl) rfl rfl rfl ?_
  refine KD.pv 7 (PV.fieldAddr fo91_1_ZPreds rfl) rfl rfl rfl (by kernel_rfl) rfl rfl rfl ?_
  refine KD.load 15 rfl (m4.row0 hO.lb hr) (readN ag44_ZPreds sz44_ZPreds (takeN_cons x1 (takeN_cons x2 takeN_nil))) (pastGo (k := 1) (l := [H1]) (by kernel_rfl) rfl (pastCons ⟨_, (m4.row0 hO.lb hr), (readN ag44_ZPreds sz44_ZPreds (takeN_cons x1 (takeN_cons x2 takeN_nil)))⟩ pastNil)) (veq_agg (veqCons veqS (veqCons veqI veqNil))) rfl (by kernel_rfl) rfl rfl rfl ?_
  refine KD.pv 31 (PV.move rfl) rfl rfl rfl (by kernel_rfl) rfl rfl rfl ?_
  refine KD.pv 63 (PV.nilCheck rfl) rfl rfl rfl (by kernel_rfl) rfl rfl rfl ?_
  refine KD.pv 127 (PV.fieldAddr fo91_2_ZPreds rfl) rfl rfl rfl (by kernel_rfl) rfl rfl rfl ?_
  refine KD.load 255 rfl (m4.row0 hO.lb hr) (by rw [read1 ag89_ZPreds]; exact x3) (pastGo (k := 1) (l := [H1]) (by kernel_rfl) rfl (pastCons ⟨_, (m4.row0 hO.lb hr), (by rw [read1 ag89_ZPreds]; exact x3)⟩ pastNil)) veq_sl rfl (by kernel_rfl) rfl rfl rfl ?_
  refine KD.call 511 rfl rfl rfl (by kernel_rfl) rfl rfl rfl (pr_Value H1 ya1 yn1 yc1 _ yu2 ya3 yn3 yc3 _ (V.mem m4 h_l1) (wrap64 (by omega) (by omega)) (V.mem m4 h_l3) (by first | omega | assumption)) fun v5 H5 q5 => ?_
  obtain ⟨o5, e5, hv5, mc5⟩ := q5
  dsimp only at hv5 mc5
  subst hv5
  have m6 := m4.seq mc5
  refine KD.nil ⟨rfl, ?_⟩
  refine KC.seq ?_
  refine KC.region ?_
  refine KO.pv (PV.assign rfl) rfl rfl ?_
  refine KO.nil ?_
  exact KC.ret ⟨rfl, _, (.tmp rfl .nil), call_none m6⟩
theorem call_60 : CallOK' E0 3 9 40 60 ShPreds := by
  intro H bx ns ss D hO hl1 _
  obtain ⟨r, yu0, ya1, yn1, yc1, yl1, yu2, ya3, yn3, yc3, yl3, ya4, yn4, yc4, yv4, yl4, ya5, yn5, yc5, yl5, yu6, yu7, ya8, yn8, yc8, yl8, ya9, yn9, yc9, yl9, ya10, yn10, yc10, yl10, ya11, yn11, yc11, yl11, ya12, yn12, yc12, yl12, hr, x0, w_u0, x1, h_l1, ex_l1, b_l1, x2, w_u2, x3, h_l3, ex_l3, b_l3, x4, h_l4, ex_l4, b_l4, i_l4, bi_l4, x5, h_l5, ex_l5, b_l5, x6, w_u6, x7, w_u7, x8, h_l8, ex_l8, b_l8, x9, h_l9, ex_l9, b_l9, x10, h_l10, ex_l10, b_l10, x11, h_l11, ex_l11, b_l11, x12, h_l12, ex_l12, b_l12⟩ := arg_Preds hO hl1
  obtain ⟨lo_u0, hi_u0⟩ := rangei64 w_u0
  obtain ⟨len_l1, cap_l1, max_l1, wf_l1⟩ := h_l1.len
  obtain ⟨lo_u2, hi_u2⟩ := rangei64 w_u2
  obtain ⟨len_l3, cap_l3, max_l3, wf_l3⟩ := h_l3.len
  obtain ⟨len_l4, cap_l4, max_l4, wf_l4⟩ := h_l4.len
  obtain ⟨len_l5, cap_l5, max_l5, wf_l5⟩ := h_l5.len
  obtain ⟨lo_u6, hi_u6⟩ := rangei64 w_u6
  obtain ⟨lo_u7, hi_u7⟩ := rangei64 w_u7
  obtain ⟨len_l8, cap_l8, max_l8, wf_l8⟩ := h_l8.len
  obtain ⟨len_l9, cap_l9, max_l9, wf_l9⟩ := h_l9.len
  obtain ⟨len_l10, cap_l10, max_l10, wf_l10⟩ := h_l10.len
  obtain ⟨len_l11, cap_l11, max_l11, wf_l11⟩ := h_l11.len
  obtain ⟨len_l12, cap_l12, max_l12, wf_l12⟩ := h_l12.len
  have m0 : Mem [] H H [] := Mem.start
  refine WF.kg Tryz.func60 rfl rfl ?_
  refine KC.seq ?_
  refine KC.region ?_
  refine KO.pv (PV.assign rfl) rfl rfl ?_
  refine KO.nil ?_
  refine KC.seq ?_
  refine KC.drawG (n := 15) (anc := [0, 1, 3, 7, 0, 16, 48, 112, 255, 511, 1023, 1023, 0, 6143, 16383]) (hv := [8, 13]) (ord := [0, 1, 2, 3, 4, 5, 6, 7, 8, 9, 10, 12, 13, 11, 14]) (by kernel_rfl) (by kernel_rfl) (by kernel_rfl) (by kernel_rfl) (by kernel_rfl) fun H1 n2 g3 => ?_
  have m4 := m0.room n2 g3 [12] (by decide) (by decide)
  refine KD.pv 1 (PV.move rfl) rfl rfl rfl (by kernel_rfl) rfl rfl rfl ?_
  refine KD.pv 3 (PV.nilCheck rfl) rfl rfl rfl (by kernel_rfl) rfl rfl rfl ?_
  refine KD.pv 7 (PV.fieldAddr fo91_0_ZPreds rfl) rfl rfl rfl (by kernel_rfl) rfl rfl rfl ?_
  refine KD.load 15 rfl (m4.row0 hO.lb hr) (by rw [read1 ag3_ZPreds]; exact x0) (pastGo (k := 1) (l := [H1]) (by kernel_rfl) rfl (pastCons ⟨_, (m4.row0 hO.lb hr), (by rw [read1 ag3_ZPreds]; exact x0)⟩ pastNil)) veq_int rfl (by kernel_rfl) rfl rfl rfl ?_
  refine KD.pv 31 (PV.move rfl) rfl rfl rfl (by kernel_rfl) rfl rfl rfl ?_
  refine KD.pv 63 (PV.nilCheck rfl) rfl rfl rfl (by kernel_rfl) rfl rfl rfl ?_
  refine KD.pv 127 (PV.fieldAddr fo91_3_ZPreds rfl) rfl rfl rfl (by kernel_rfl) rfl rfl rfl ?_
  refine KD.load 255 rfl (m4.row0 hO.lb hr) (by rw [read1 ag42_ZPreds]; exact x4) (pastGo (k := 1) (l := [H1]) (by kernel_rfl) rfl (pastCons ⟨_, (m4.row0 hO.lb hr), (by rw [read1 ag42_ZPreds]; exact x4)⟩ pastNil)) veq_sl rfl (by kernel_rfl) rfl rfl rfl ?_
  refine KD.call 511 rfl rfl rfl (by kernel_rfl) rfl rfl rfl (pr_Clauses H1 yu0 ya4 yn4 yc4 _ _ (wrap64 (by omega) (by omega)) (V.mem m4 h_l4) (VV.mem m4 i_l4)) fun v5 H5 q5 => ?_
  obtain ⟨ra5, rn5, rc5, rx5, rD5, rl5, e5, hv5, mc5, p5_0, p5_1⟩ := q5
  dsimp only at hv5 mc5
  subst hv5
  have m6 := m4.seq mc5
  refine KD.pv 1023 (PV.move rfl) rfl rfl rfl (by kernel_rfl) rfl rfl rfl ?_
  refine KD.pv 2047 (PV.extract rfl rfl) rfl rfl rfl (by kernel_rfl) rfl rfl rfl ?_
  refine KD.allocM 6143 m6 (j := 1) rfl zt44_ZPreds rfl (by kernel_rfl) rfl rfl rfl fun H7 m8 => ?_
  refine KD.storeM 14335 m8 (j := 1) rfl sz44_ZPreds rfl rfl rfl (show 0 + 2 ≤ 2 by decide) (show _ = [.slice ra5 rn5 rc5, .int .i64 rl5] from rfl) rfl (by kernel_rfl) rfl rfl fun H9 m10 => ?_
  refine KD.pv 16383 (PV.extract rfl rfl) rfl rfl rfl (by kernel_rfl) rfl rfl rfl ?_
  refine KD.pv 32767 (PV.assign rfl) rfl rfl rfl (by kernel_rfl) rfl rfl rfl ?_
  refine KD.nil ⟨rfl, ?_⟩
  refine KC.seq ?_
  refine KC.region ?_
  refine KO.pv (PV.makeFunc rfl rfl) rfl rfl ?_
  refine KO.buildSliceM m10 el33_ZPreds ez40_ZPreds rfl rfl (show _ = some [.func (.func 62) #[] #[.pointer (some ⟨(H.next + 12), 0, none⟩)]] from rfl) rfl rfl fun H11 m12 => ?_
  refine KO.pv (PV.assign rfl) rfl rfl ?_
  refine KO.nil ?_
  obtain ⟨nr13, rd13, ln13, lm13⟩ := OwnV.rd rdP (m12.res (i := 1) rfl) (cs := [.slice ra5 rn5 rc5, .int .i64 rl5]) (o := 0) rfl
  exact KC.ret ⟨rfl, _, (.tmp rfl .nil), call_one (m12.pick [0, 2, 1] (by decide) rfl) rfl (see_62 9) ⟨_, _, _, _, _, _, rd13, ⟨_, _, _, _, _, _, ⟨_, rfl, (wrap64 (by omega) (by omega)), rfl, rfl, rfl⟩, ⟨rfl, rfl, rfl⟩, rfl, rfl, rfl⟩, rfl, rfl, rfl⟩ (by simp [R.own, R.inn, pickL]) (by simp only [List.length_append, List.length_cons, List.length_nil] <;> omega) (by simp)⟩
theorem call_64 : CallOK' E0 3 9 40 64 ShPreds := by
  intro H bx ns ss D hO hl1 _
  obtain ⟨r, yu0, ya1, yn1, yc1, yl1, yu2, ya3, yn3, yc3, yl3, ya4, yn4, yc4, yv4, yl4, ya5, yn5, yc5, yl5, yu6, yu7, ya8, yn8, yc8, yl8, ya9, yn9, yc9, yl9, ya10, yn10, yc10, yl10, ya11, yn11, yc11, yl11, ya12, yn12, yc12, yl12, hr, x0, w_u0, x1, h_l1, ex_l1, b_l1, x2, w_u2, x3, h_l3, ex_l3, b_l3, x4, h_l4, ex_l4, b_l4, i_l4, bi_l4, x5, h_l5, ex_l5, b_l5, x6, w_u6, x7, w_u7, x8, h_l8, ex_l8, b_l8, x9, h_l9, ex_l9, b_l9, x10, h_l10, ex_l10, b_l10, x11, h_l11, ex_l11, b_l11, x12, h_l12, ex_l12, b_l12⟩ := arg_Preds hO hl1
  obtain ⟨lo_u0, hi_u0⟩ := rangei64 w_u0
  obtain ⟨len_l1, cap_l1, max_l1, wf_l1⟩ := h_l1.len
  obtain ⟨lo_u2, hi_u2⟩ := rangei64 w_u2
  obtain ⟨len_l3, cap_l3, max_l3, wf_l3⟩ := h_l3.len
  obtain ⟨len_l4, cap_l4, max_l4, wf_l4⟩ := h_l4.len
  obtain ⟨len_l5, cap_l5, max_l5, wf_l5⟩ := h_l5.len
  obtain ⟨lo_u6, hi_u6⟩ := rangei64 w_u6
  obtain ⟨lo_u7, hi_u7⟩ := rangei64 w_u7
  obtain ⟨len_l8, cap_l8, max_l8, wf_l8⟩ := h_l8.len
  obtain ⟨len_l9, cap_l9, max_l9, wf_l9⟩ := h_l9.len
  obtain ⟨len_l10, cap_l10, max_l10, wf_l10⟩ := h_l10.len
  obtain ⟨len_l11, cap_l11, max_l11, wf_l11⟩ := h_l11.len
  obtain ⟨len_l12, cap_l12, max_l12, wf_l12⟩ := h_l12.len
  have m0 : Mem [] H H [] := Mem.start
  refine WF.kg Tryz.func64 rfl rfl ?_
  refine KC.seq ?_
  refine KC.region ?_
  refine KO.pv (PV.assign rfl) rfl rfl ?_
  refine KO.nil ?_
  refine KC.seq ?_
  refine KC.drawG (n := 19) (anc := [0, 1, 3, 7, 0, 16, 48, 112, 0, 256, 768, 1792, 4095, 8191, 16383, 16383, 0, 98303, 262143]) (hv := [12, 17]) (ord := [0, 1, 2, 3, 4, 5, 6, 7, 8, 9, 10, 11, 12, 13, 14, 16, 17, 15, 18]) (by kernel_rfl) (by kernel_rfl) (by kernel_rfl) (by kernel_rfl) (by kernel_rfl) fun H1 n2 g3 => ?_
  have m4 := m0.room n2 g3 [16] (by decide) (by decide)
  refine KD.pv 1 (PV.move rfl) rfl rfl rfl (by kernel_rfl) rfl rfl rfl ?_
  refine KD.pv 3 (PV.nilCheck rfl) rfl rfl rfl (by kernel_rfl) rfl rfl rfl ?_
  refine KD.pv 7 (PV.fieldAddr fo91_0_ZPreds rfl) rfl rfl rfl (by kernel_rfl) rfl rfl rfl ?_
  refine KD.load 15 rfl (m4.row0 hO.lb hr) (by rw [read1 ag3_ZPreds]; exact x0) (pastGo (k := 1) (l := [H1]) (by kernel_rfl) rfl (pastCons ⟨_, (m4.row0 hO.lb hr), (by rw [read1 ag3_ZPreds]; exact x0)⟩ pastNil)) veq_int rfl (by kernel_rfl) rfl rfl rfl ?_
  refine KD.pv 31 (PV.move rfl) rfl rfl rfl (by kernel_rfl) rfl rfl rfl ?_
  refine KD.pv 63 (PV.nilCheck rfl) rfl rfl rfl (by kernel_rfl) rfl rfl rfl ?_
  refine KD.pv 127 (PV.fieldAddr fo91_1_ZPreds rfl) rfl rfl rfl (by kernel_rfl) rfl rfl rfl ?_
  refine KD.load 255 rfl (m4.row0 hO.lb hr) (readN ag44_ZPreds sz44_ZPreds (takeN_cons x1 (takeN_cons x2 takeN_nil))) (pastGo (k := 1) (l := [H1]) (by kernel_rfl) rfl (pastCons ⟨_, (m4.row0 hO.lb hr), (readN ag44_ZPreds sz44_ZPreds (takeN_cons x1 (takeN_cons x2 takeN_nil)))⟩ pastNil)) (veq_agg (veqCons veqS (veqCons veqI veqNil))) rfl (by kernel_rfl) rfl rfl rfl ?_
  refine KD.pv 511 (PV.move rfl) rfl rfl rfl (by kernel_rfl) rfl rfl rfl ?_
  refine KD.pv 1023 (PV.nilCheck rfl) rfl rfl rfl (by kernel_rfl) rfl rfl rfl ?_
  refine KD.pv 2047 (PV.fieldAddr fo91_4_ZPreds rfl) rfl rfl rfl (by kernel_rfl) rfl rfl rfl ?_
  refine KD.load 4095 rfl (m4.row0 hO.lb hr) (readN ag44_ZPreds sz44_ZPreds (takeN_cons x5 (takeN_cons x6 takeN_nil))) (pastGo (k := 1) (l := [H1]) (by kernel_rfl) rfl (pastCons ⟨_, (m4.row0 hO.lb hr), (readN ag44_ZPreds sz44_ZPreds (takeN_cons x5 (takeN_cons x6 takeN_nil)))⟩ pastNil)) (veq_agg (veqCons veqS (veqCons veqI veqNil))) rfl (by kernel_rfl) rfl rfl rfl ?_
  refine KD.call 8191 rfl rfl rfl (by kernel_rfl) rfl rfl rfl (pr_And H1 yu0 ya1 yn1 yc1 _ yu2 ya5 yn5 yc5 _ yu6 (wrap64 (by omega) (by omega)) (V.mem m4 h_l1) (wrap64 (by omega) (by omega)) (V.mem m4 h_l5) (wrap64 (by omega) (by omega))) fun v5 H5 q5 => ?_
  obtain ⟨ra5, rn5, rc5, rx5, rD5, rl5, e5, hv5, mc5, p5_0, p5_1⟩ := q5
  dsimp only at hv5 mc5
  subst hv5
  have m6 := m4.seq mc5
  refine KD.pv 16383 (PV.move rfl) rfl rfl rfl (by kernel_rfl) rfl rfl rfl ?_
  refine KD.pv 32767 (PV.extract rfl rfl) rfl rfl rfl (by kernel_rfl) rfl rfl rfl ?_
  refine KD.allocM 98303 m6 (j := 1) rfl zt44_ZPreds rfl (by kernel_rfl) rfl rfl rfl fun H7 m8 => ?_
  refine KD.storeM 229375 m8 (j := 1) rfl sz44_ZPreds rfl rfl rfl (show 0 + 2 ≤ 2 by decide) (show _ = [.slice ra5 rn5 rc5, .int .i64 rl5] from rfl) rfl (by kernel_rfl) rfl rfl fun H9 m10 => ?_
  refine KD.pv 262143 (PV.extract rfl rfl) rfl rfl rfl (by kernel_rfl) rfl rfl rfl ?_
  refine KD.pv 524287 (PV.assign rfl) rfl rfl rfl (by kernel_rfl) rfl rfl rfl ?_
  refine KD.nil ⟨rfl, ?_⟩
  refine KC.seq ?_
  refine KC.region ?_
  refine KO.pv (PV.makeFunc rfl rfl) rfl rfl ?_
  refine KO.buildSliceM m10 el33_ZPreds ez40_ZPreds rfl rfl (show _ = some [.func (.func 66) #[] #[.pointer (some ⟨(H.next + 16), 0, none⟩)]] from rfl) rfl rfl fun H11 m12 => ?_
  refine KO.pv (PV.assign rfl) rfl rfl ?_
  refine KO.nil ?_
  obtain ⟨nr13, rd13, ln13, lm13⟩ := OwnV.rd rdP (m12.res (i := 1) rfl) (cs := [.slice ra5 rn5 rc5, .int .i64 rl5]) (o := 0) rfl
  exact KC.ret ⟨rfl, _, (.tmp rfl .nil), call_one (m12.pick [0, 2, 1] (by decide) rfl) rfl (see_66 9) ⟨_, _, _, _, _, _, rd13, ⟨_, _, _, _, _, _, ⟨_, rfl, (wrap64 (by omega) (by omega)), rfl, rfl, rfl⟩, ⟨rfl, rfl, rfl⟩, rfl, rfl, rfl⟩, rfl, rfl, rfl⟩ (by simp [R.own, R.inn, pickL]) (by simp only [List.length_append, List.length_cons, List.length_nil] <;> omega) (by simp)⟩
theorem call_67 : CallOK' E0 3 9 40 67 ShPreds := by
  intro H bx ns ss D hO hl1 _
  obtain ⟨r, yu0, ya1, yn1, yc1, yl1, yu2, ya3, yn3, yc3, yl3, ya4, yn4, yc4, yv4, yl4, ya5, yn5, yc5, yl5, yu6, yu7, ya8, yn8, yc8, yl8, ya9, yn9, yc9, yl9, ya10, yn10, yc10, yl10, ya11, yn11, yc11, yl11, ya12, yn12, yc12, yl12, hr, x0, w_u0, x1, h_l1, ex_l1, b_l1, x2, w_u2, x3, h_l3, ex_l3, b_l3, x4, h_l4, ex_l4, b_l4, i_l4, bi_l4, x5, h_l5, ex_l5, b_l5, x6, w_u6, x7, w_u7, x8, h_l8, ex_l8, b_l8, x9, h_l9, ex_l9, b_l9, x10, h_l10, ex_l10, b_l10, x11, h_l11, ex_l11, b_l11, x12, h_l12, ex_l12, b_l12⟩ := arg_Preds hO hl1
  obtain ⟨lo_u0, hi_u0⟩ := rangei64 w_u0
  obtain ⟨len_l1, cap_l1, max_l1, wf_l1⟩ := h_l1.len
  obtain ⟨lo_u2, hi_u2⟩ := rangei64 w_u2
  obtain ⟨len_l3, cap_l3, max_l3, wf_l3⟩ := h_l3.len
  obtain ⟨len_l4, cap_l4, max_l4, wf_l4⟩ := h_l4.len
  obtain ⟨len_l5, cap_l5, max_l5, wf_l5⟩ := h_l5.len
  obtain ⟨lo_u6, hi_u6⟩ := rangei64 w_u6
  obtain ⟨lo_u7, hi_u7⟩ := rangei64 w_u7
  obtain ⟨len_l8, cap_l8, max_l8, wf_l8⟩ := h_l8.len
  obtain ⟨len_l9, cap_l9, max_l9, wf_l9⟩ := h_l9.len
  obtain ⟨len_l10, cap_l10, max_l10, wf_l10⟩ := h_l10.len
  obtain ⟨len_l11, cap_l11, max_l11, wf_l11⟩ := h_l11.len
  obtain ⟨len_l12, cap_l12, max_l12, wf_l12⟩ := h_l12.len
  have m0 : Mem [] H H [] := Mem.start
  refine WF.kg Tryz.func67 rfl rfl ?_
  refine KC.seq ?_
  refine KC.region ?_
  refine KO.pv (PV.assign rfl) rfl rfl ?_
  refine KO.nil ?_
  refine KC.seq ?_
  refine KC.drawG (n := 19) (anc := [0, 1, 3, 7, 0, 16, 48, 112, 0, 256, 768, 1792, 4095, 8191, 16383, 16383, 0, 98303, 262143]) (hv := [12, 17]) (ord := [0, 1, 2, 3, 4, 5, 6, 7, 8, 9, 10, 11, 12, 13, 14, 16, 17, 15, 18]) (by kernel_rfl) (by kernel_rfl) (by kernel_rfl) (by kernel_rfl) (by kernel_rfl) fun H1 n2 g3 => ?_
  have m4 := m0.room n2 g3 [16] (by decide) (by decide)
  refine KD.pv 1 (PV.move rfl) rfl rfl rfl (by kernel_rfl) rfl rfl rfl ?_
  refine KD.pv 3 (PV.nilCheck rfl) rfl rfl rfl (by kernel_rfl) rfl rfl rfl ?_
  refine KD.pv 7 (PV.fieldAddr fo91_0_ZPreds rfl) rfl rfl rfl (by kernel_rfl) rfl rfl rfl ?_
  refine KD.load 15 rfl (m4.row0 hO.lb hr) (by rw [read1 ag3_ZPreds]; exact x0) (pastGo (k := 1) (l := [H1]) (by kernel_rfl) rfl (pastCons ⟨_, (m4.row0 hO.lb hr), (by rw [read1 ag3_ZPreds]; exact x0)⟩ pastNil)) veq_int rfl (by kernel_rfl) rfl rfl rfl ?_
  refine KD.pv 31 (PV.move rfl) rfl rfl rfl (by kernel_rfl) rfl rfl rfl ?_
  refine KD.pv 63 (PV.nilCheck rfl) rfl rfl rfl (by kernel_rfl) rfl rfl rfl ?_
  refine KD.pv 127 (PV.fieldAddr fo91_1_ZPreds rfl) rfl rfl rfl (by kernel_rfl) rfl rfl rfl ?_
  refine KD.load 255 rfl (m4.row0 hO.lb hr) (readN ag44_ZPreds sz44_ZPreds (takeN_cons x1 (takeN_cons x2 takeN_nil))) (pastGo (k := 1) (l := [H1]) (by kernel_rfl) rfl (pastCons ⟨_, (m4.row0 hO.lb hr), (readN ag44_ZPreds sz44_ZPreds (takeN_cons x1 (takeN_cons x2 takeN_nil)))⟩ pastNil)) (veq_agg (veqCons veqS (veqCons veqI veqNil))) rfl (by kernel_rfl) rfl rfl rfl ?_
  refine KD.pv 511 (PV.move rfl) rfl rfl rfl (by kernel_rfl) rfl rfl rfl ?_
  refine KD.pv 1023 (PV.nilCheck rfl) rfl rfl rfl (by kernel_rfl) rfl rfl rfl ?_
  refine KD.pv 2047 (PV.fieldAddr fo91_4_ZPreds rfl) rfl rfl rfl (by kernel_rfl) rfl rfl rfl ?_
  refine KD.load 4095 rfl (m4.row0 hO.lb hr) (readN ag44_ZPreds sz44_ZPreds (takeN_cons x5 (takeN_cons x6 takeN_nil))) (pastGo (k := 1) (l := [H1]) (by kernel_rfl) rfl (pastCons ⟨_, (m4.row0 hO.lb hr), (readN ag44_ZPreds sz44_ZPreds (takeN_cons x5 (takeN_cons x6 takeN_nil)))⟩ pastNil)) (veq_agg (veqCons veqS (veqCons veqI veqNil))) rfl (by kernel_rfl) rfl rfl rfl ?_
  refine KD.call 8191 rfl rfl rfl (by kernel_rfl) rfl rfl rfl (pr_Or H1 yu0 ya1 yn1 yc1 _ yu2 ya5 yn5 yc5 _ yu6 (wrap64 (by omega) (by omega)) (V.mem m4 h_l1) (wrap64 (by omega) (by omega)) (V.mem m4 h_l5) (wrap64 (by omega) (by omega))) fun v5 H5 q5 => ?_
  obtain ⟨ra5, rn5, rc5, rx5, rD5, rl5, e5, hv5, mc5, p5_0, p5_1⟩ := q5
  dsimp only at hv5 mc5
  subst hv5
  have m6 := m4.seq mc5
  refine KD.pv 16383 (PV.move rfl) rfl rfl rfl (by kernel_rfl) rfl rfl rfl ?_
  refine KD.pv 32767 (PV.extract rfl rfl) rfl rfl rfl (by kernel_rfl) rfl rfl rfl ?_
  refine KD.allocM 98303 m6 (j := 1) rfl zt44_ZPreds rfl (by kernel_rfl) rfl rfl rfl fun H7 m8 => ?_
  refine KD.storeM 229375 m8 (j := 1) rfl sz44_ZPreds rfl rfl rfl (show 0 + 2 ≤ 2 by decide) (show _ = [.slice ra5 rn5 rc5, .int .i64 rl5] from rfl) rfl (by kernel_rfl) rfl rfl fun H9 m10 => ?_
  refine KD.pv 262143 (PV.extract rfl rfl) rfl rfl rfl (by kernel_rfl) rfl rfl rfl ?_
  refine KD.pv 524287 (PV.assign rfl) rfl rfl rfl (by kernel_rfl) rfl rfl rfl ?_
  refine KD.nil ⟨rfl, ?_⟩
  refine KC.seq ?_
  refine KC.region ?_
  refine KO.pv (PV.makeFunc rfl rfl) rfl rfl ?_
  refine KO.buildSliceM m10 el33_ZPreds ez40_ZPreds rfl rfl (show _ = some [.func (.func 69) #[] #[.pointer (some ⟨(H.next + 16), 0, none⟩)]] from rfl) rfl rfl fun H11 m12 => ?_
  refine KO.pv (PV.assign rfl) rfl rfl ?_
  refine KO.nil ?_
  obtain ⟨nr13, rd13, ln13, lm13⟩ := OwnV.rd rdP (m12.res (i := 1) rfl) (cs := [.slice ra5 rn5 rc5, .int .i64 rl5]) (o := 0) rfl
  exact KC.ret ⟨rfl, _, (.tmp rfl .nil), call_one (m12.pick [0, 2, 1] (by decide) rfl) rfl (see_69 9) ⟨_, _, _, _, _, _, rd13, ⟨_, _, _, _, _, _, ⟨_, rfl, (wrap64 (by omega) (by omega)), rfl, rfl, rfl⟩, ⟨rfl, rfl, rfl⟩, rfl, rfl, rfl⟩, rfl, rfl, rfl⟩ (by simp [R.own, R.inn, pickL]) (by simp only [List.length_append, List.length_cons, List.length_nil] <;> omega) (by simp)⟩
theorem call_70 : CallOK' E0 3 9 40 70 ShPreds := by
  intro H bx ns ss D hO hl1 _
  obtain ⟨r, yu0, ya1, yn1, yc1, yl1, yu2, ya3, yn3, yc3, yl3, ya4, yn4, yc4, yv4, yl4, ya5, yn5, yc5, yl5, yu6, yu7, ya8, yn8, yc8, yl8, ya9, yn9, yc9, yl9, ya10, yn10, yc10, yl10, ya11, yn11, yc11, yl11, ya12, yn12, yc12, yl12, hr, x0, w_u0, x1, h_l1, ex_l1, b_l1, x2, w_u2, x3, h_l3, ex_l3, b_l3, x4, h_l4, ex_l4, b_l4, i_l4, bi_l4, x5, h_l5, ex_l5, b_l5, x6, w_u6, x7, w_u7, x8, h_l8, ex_l8, b_l8, x9, h_l9, ex_l9, b_l9, x10, h_l10, ex_l10, b_l10, x11, h_l11, ex_l11, b_l11, x12, h_l12, ex_l12, b_l12⟩ := arg_Preds hO hl1
  obtain ⟨lo_u0, hi_u0⟩ := rangei64 w_u0
  obtain ⟨len_l1, cap_l1, max_l1, wf_l1⟩ := h_l1.len
  obtain ⟨lo_u2, hi_u2⟩ := rangei64 w_u2
  obtain ⟨len_l3, cap_l3, max_l3, wf_l3⟩ := h_l3.len
  obtain ⟨len_l4, cap_l4, max_l4, wf_l4⟩ := h_l4.len
  obtain ⟨len_l5, cap_l5, max_l5, wf_l5⟩ := h_l5.len
  obtain ⟨lo_u6, hi_u6⟩ := rangei64 w_u6
  obtain ⟨lo_u7, hi_u7⟩ := rangei64 w_u7
  obtain ⟨len_l8, cap_l8, max_l8, wf_l8⟩ := h_l8.len
  obtain ⟨len_l9, cap_l9, max_l9, wf_l9⟩ := h_l9.len
  obtain ⟨len_l10, cap_l10, max_l10, wf_l10⟩ := h_l10.len
  obtain ⟨len_l11, cap_l11, max_l11, wf_l11⟩ := h_l11.len
  obtain ⟨len_l12, cap_l12, max_l12, wf_l12⟩ := h_l12.len
  have m0 : Mem [] H H [] := Mem.start
  refine WF.kg Tryz.func70 rfl rfl ?_
  refine KC.seq ?_
  refine KC.region ?_
  refine KO.pv (PV.assign rfl) rfl rfl ?_
  refine KO.nil ?_
  refine KC.seq ?_
  refine KC.drawG (n := 15) (anc := [0, 1, 3, 7, 0, 16, 48, 112, 255, 511, 1023, 1023, 0, 6143, 16383]) (hv := [8, 13]) (ord := [0, 1, 2, 3, 4, 5, 6, 7, 8, 9, 10, 12, 13, 11, 14]) (by kernel_rfl) (by kernel_rfl) (by kernel_rfl) (by kernel_rfl) (by kernel_rfl) fun H1 n2 g3 => ?_
  have m4 := m0.room n2 g3 [12] (by decide) (by decide)
  refine KD.pv 1 (PV.move rfl) rfl rfl rfl (by kernel_rfl) rfl rfl rfl ?_
  refine KD.pv 3 (PV.nilCheck rfl) rfl rfl rfl (by kernel_rfl) rfl rfl rfl ?_
  refine KD.pv 7 (PV.fieldAddr fo91_0_ZPreds rfl) rfl rfl rfl (by kernel_rfl) rfl rfl rfl ?_
  refine KD.load 15 rfl (m4.row0 hO.lb hr) (by rw [read1 ag3_ZPreds]; exact x0) (pastGo (k := 1) (l := [H1]) (by kernel_rfl) rfl (pastCons ⟨_, (m4.row0 hO.lb hr), (by rw [read1 ag3_ZPreds]; exact x0)⟩ pastNil)) veq_int rfl (by kernel_rfl) rfl rfl rfl ?_
  refine KD.pv 31 (PV.move rfl) rfl rfl rfl (by kernel_rfl) rfl rfl rfl ?_
  refine KD.pv 63 (PV.nilCheck rfl) rfl rfl rfl (by kernel_rfl) rfl rfl rfl ?_
  refine KD.pv 127 (PV.fieldAddr fo91_1_ZPreds rfl) rfl rfl rfl (by kernel_rfl) rfl rfl rfl ?_
  refine KD.load 255 rfl (m4.row0 hO.lb hr) (readN ag44_ZPreds sz44_ZPreds (takeN_cons x1 (takeN_cons x2 takeN_nil))) (pastGo (k := 1) (l := [H1]) (by kernel_rfl) rfl (pastCons ⟨_, (m4.row0 hO.lb hr), (readN ag44_ZPreds sz44_ZPreds (takeN_cons x1 (takeN_cons x2 takeN_nil)))⟩ pastNil)) (veq_agg (veqCons veqS (veqCons veqI veqNil))) rfl (by kernel_rfl) rfl rfl rfl ?_
  refine KD.call 511 rfl rfl rfl (by kernel_rfl) rfl rfl rfl (pr_Not H1 yu0 ya1 yn1 yc1 _ yu2 (wrap64 (by omega) (by omega)) (V.mem m4 h_l1) (wrap64 (by omega) (by omega))) fun v5 H5 q5 => ?_
  obtain ⟨ra5, rn5, rc5, rx5, rD5, rl5, e5, hv5, mc5, p5_0, p5_1⟩ := q5
  dsimp only at hv5 mc5
  subst hv5
  have m6 := m4.seq mc5
  refine KD.pv 1023 (PV.move rfl) rfl rfl rfl (by kernel_rfl) rfl rfl rfl ?_
  refine KD.pv 2047 (PV.extract rfl rfl) rfl rfl rfl (by kernel_rfl) rfl rfl rfl ?_
  refine KD.allocM 6143 m6 (j := 1) rfl zt44_ZPreds rfl (by kernel_rfl) rfl rfl rfl fun H7 m8 => ?_
  refine KD.storeM 14335 m8 (j := 1) rfl sz44_ZPreds rfl rfl rfl (show 0 + 2 ≤ 2 by decide) (show _ = [.slice ra5 rn5 rc5, .int .i64 rl5] from rfl) rfl (by kernel_rfl) rfl rfl fun H9 m10 => ?_
  refine KD.pv 16383 (PV.extract rfl rfl) rfl rfl rfl (by kernel_rfl) rfl rfl rfl ?_
  refine KD.pv 32767 (PV.assign rfl) rfl rfl rfl (by kernel_rfl) rfl rfl rfl ?_
  refine KD.nil ⟨rfl, ?_⟩
  refine KC.seq ?_
  refine KC.region ?_
  refine KO.pv (PV.makeFunc rfl rfl) rfl rfl ?_
  refine KO.buildSliceM m10 el33_ZPreds ez40_ZPreds rfl rfl (show _ = some [.func (.func 72) #[] #[.pointer (some ⟨(H.next + 12), 0, none⟩)]] from rfl) rfl rfl fun H11 m12 => ?_
  refine KO.pv (PV.assign rfl) rfl rfl ?_
  refine KO.nil ?_
  obtain ⟨nr13, rd13, ln13, lm13⟩ := OwnV.rd rdP (m12.res (i := 1) rfl) (cs := [.slice ra5 rn5 rc5, .int .i64 rl5]) (o := 0) rfl
  exact KC.ret ⟨rfl, _, (.tmp rfl .nil), call_one (m12.pick [0, 2, 1] (by decide) rfl) rfl (see_72 9) ⟨_, _, _, _, _, _, rd13, ⟨_, _, _, _, _, _, ⟨_, rfl, (wrap64 (by omega) (by omega)), rfl, rfl, rfl⟩, ⟨rfl, rfl, rfl⟩, rfl, rfl, rfl⟩, rfl, rfl, rfl⟩ (by simp [R.own, R.inn, pickL]) (by simp only [List.length_append, List.length_cons, List.length_nil] <;> omega) (by simp)⟩
theorem call_73 : CallOK' E0 3 9 40 73 ShPreds := by
  intro H bx ns ss D hO hl1 _
  obtain ⟨r, yu0, ya1, yn1, yc1, yl1, yu2, ya3, yn3, yc3, yl3, ya4, yn4, yc4, yv4, yl4, ya5, yn5, yc5, yl5, yu6, yu7, ya8, yn8, yc8, yl8, ya9, yn9, yc9, yl9, ya10, yn10, yc10, yl10, ya11, yn11, yc11, yl11, ya12, yn12, yc12, yl12, hr, x0, w_u0, x1, h_l1, ex_l1, b_l1, x2, w_u2, x3, h_l3, ex_l3, b_l3, x4, h_l4, ex_l4, b_l4, i_l4, bi_l4, x5, h_l5, ex_l5, b_l5, x6, w_u6, x7, w_u7, x8, h_l8, ex_l8, b_l8, x9, h_l9, ex_l9, b_l9, x10, h_l10, ex_l10, b_l10, x11, h_l11, ex_l11, b_l11, x12, h_l12, ex_l12, b_l12⟩ := arg_Preds hO hl1
  obtain ⟨lo_u0, hi_u0⟩ := rangei64 w_u0
  obtain ⟨len_l1, cap_l1, max_l1, wf_l1⟩ := h_l1.len
  obtain ⟨lo_u2, hi_u2⟩ := rangei64 w_u2
  obtain ⟨len_l3, cap_l3, max_l3, wf_l3⟩ := h_l3.len
  obtain ⟨len_l4, cap_l4, max_l4, wf_l4⟩ := h_l4.len
  obtain ⟨len_l5, cap_l5, max_l5, wf_l5⟩ := h_l5.len
  obtain ⟨lo_u6, hi_u6⟩ := rangei64 w_u6
  obtain ⟨lo_u7, hi_u7⟩ := rangei64 w_u7
  obtain ⟨len_l8, cap_l8, max_l8, wf_l8⟩ := h_l8.len
  obtain ⟨len_l9, cap_l9, max_l9, wf_l9⟩ := h_l9.len
  obtain ⟨len_l10, cap_l10, max_l10, wf_l10⟩ := h_l10.len
  obtain ⟨len_l11, cap_l11, max_l11, wf_l11⟩ := h_l11.len
  obtain ⟨len_l12, cap_l12, max_l12, wf_l12⟩ := h_l12.len
  have m0 : Mem [] H H [] := Mem.start
  refine WF.kg Tryz.func73 rfl rfl ?_
  refine KC.seq ?_
  refine KC.region ?_
  refine KO.pv (PV.assign rfl) rfl rfl ?_
  refine KO.nil ?_
  refine KC.seq ?_
  refine KC.drawG (n := 21) (anc := [0, 1, 3, 7, 0, 16, 48, 112, 0, 256, 768, 1792, 4095, 8191, 16383, 16383, 16383, 0, 163839, 458751, 1048575]) (hv := [12, 18]) (ord := [0, 1, 2, 3, 4, 5, 6, 7, 8, 9, 10, 11, 12, 13, 14, 17, 18, 15, 16, 19, 20]) (by kernel_rfl) (by kernel_rfl) (by kernel_rfl) (by kernel_rfl) (by kernel_rfl) fun H1 n2 g3 => ?_
  have m4 := m0.room n2 g3 [17] (by decide) (by decide)
  refine KD.pv 1 (PV.move rfl) rfl rfl rfl (by kernel_rfl) rfl rfl rfl ?_
  refine KD.pv 3 (PV.nilCheck rfl) rfl rfl rfl (by kernel_rfl) rfl rfl rfl ?_
  refine KD.pv 7 (PV.fieldAddr fo91_5_ZPreds rfl) rfl rfl rfl (by kernel_rfl) rfl rfl rfl ?_
  refine KD.load 15 rfl (m4.row0 hO.lb hr) (readN ag26_ZPreds sz26_ZPreds (takeN_cons x7 (takeN_cons x8 (takeN_cons x9 (takeN_cons x10 (takeN_cons x11 takeN_nil)))))) (pastGo (k := 1) (l := [H1]) (by kernel_rfl) rfl (pastCons ⟨_, (m4.row0 hO.lb hr), (readN ag26_ZPreds sz26_ZPreds (takeN_cons x7 (takeN_cons x8 (takeN_cons x9 (takeN_cons x10 (takeN_cons x11 takeN_nil))))))⟩ pastNil)) (veq_agg (veqCons veqI (veqCons veqS (veqCons veqS (veqCons veqS (veqCons veqS veqNil)))))) rfl (by kernel_rfl) rfl rfl rfl ?_
  refine KD.pv 31 (PV.move rfl) rfl rfl rfl (by kernel_rfl) rfl rfl rfl ?_
  refine KD.pv 63 (PV.nilCheck rfl) rfl rfl rfl (by kernel_rfl) rfl rfl rfl ?_
  refine KD.pv 127 (PV.fieldAddr fo91_1_ZPreds rfl) rfl rfl rfl (by kernel_rfl) rfl rfl rfl ?_
  refine KD.load 255 rfl (m4.row0 hO.lb hr) (readN ag44_ZPreds sz44_ZPreds (takeN_cons x1 (takeN_cons x2 takeN_nil))) (pastGo (k := 1) (l := [H1]) (by kernel_rfl) rfl (pastCons ⟨_, (m4.row0 hO.lb hr), (readN ag44_ZPreds sz44_ZPreds (takeN_cons x1 (takeN_cons x2 takeN_nil)))⟩ pastNil)) (veq_agg (veqCons veqS (veqCons veqI veqNil))) rfl (by kernel_rfl) rfl rfl rfl ?_
  refine KD.pv 511 (PV.move rfl) rfl rfl rfl (by kernel_rfl) rfl rfl rfl ?_
  refine KD.pv 1023 (PV.nilCheck rfl) rfl rfl rfl (by kernel_rfl) rfl rfl rfl ?_
  refine KD.pv 2047 (PV.fieldAddr fo91_6_ZPreds rfl) rfl rfl rfl (by kernel_rfl) rfl rfl rfl ?_
  refine KD.load 4095 rfl (m4.row0 hO.lb hr) (by rw [read1 ag24_ZPreds]; exact x12) (pastGo (k := 1) (l := [H1]) (by kernel_rfl) rfl (pastCons ⟨_, (m4.row0 hO.lb hr), (by rw [read1 ag24_ZPreds]; exact x12)⟩ pastNil)) veq_sl rfl (by kernel_rfl) rfl rfl rfl ?_
  refine KD.call 8191 rfl rfl rfl (by kernel_rfl) rfl rfl rfl (pr_Put H1 yu7 ya8 yn8 yc8 _ ya9 yn9 yc9 _ ya10 yn10 yc10 _ ya11 yn11 yc11 _ ya1 yn1 yc1 _ yu2 ya12 yn12 yc12 _ (wrap64 (by omega) (by omega)) (V.mem m4 h_l8) (V.mem m4 h_l9) (V.mem m4 h_l10) (V.mem m4 h_l11) (V.mem m4 h_l1) (wrap64 (by omega) (by omega)) (V.mem m4 h_l12)) fun v5 H5 q5 => ?_
  obtain ⟨ri5, la5, ln5, lc5, lx5, lD5, aa5, an5, ac5, ax5, aD5, ba5, bn5, bc5, bx5, bD5, qa5, qn5, qc5, qx5, qD5, z5, e5, hv5, mc5, p5_0, p5_1, p5_2⟩ := q5
  dsimp only at hv5 mc5
  subst hv5
  have m6 := m4.seq mc5
  refine KD.pv 16383 (PV.move rfl) rfl rfl rfl (by kernel_rfl) rfl rfl rfl ?_
  refine KD.pv 32767 (PV.extract rfl rfl) rfl rfl rfl (by kernel_rfl) rfl rfl rfl ?_
  refine KD.allocM 163839 m6 (j := 4) rfl zt26_ZPreds rfl (by kernel_rfl) rfl rfl rfl fun H7 m8 => ?_
  refine KD.storeM 425983 m8 (j := 4) rfl sz26_ZPreds rfl rfl rfl (show 0 + 5 ≤ 5 by decide) (show _ = [.int .i64 ri5, .slice la5 ln5 lc5, .slice aa5 an5 ac5, .slice ba5 bn5 bc5, .slice qa5 qn5 qc5] from rfl) rfl (by kernel_rfl) rfl rfl fun H9 m10 => ?_
  refine KD.pv 458751 (PV.extract rfl rfl) rfl rfl rfl (by kernel_rfl) rfl rfl rfl ?_
  refine KD.pv 524287 (PV.extract rfl rfl) rfl rfl rfl (by kernel_rfl) rfl rfl rfl ?_
  refine KD.pv 1048575 (PV.assign rfl) rfl rfl rfl (by kernel_rfl) rfl rfl rfl ?_
  refine KD.pv 2097151 (PV.assign rfl) rfl rfl rfl (by kernel_rfl) rfl rfl rfl ?_
  refine KD.nil ⟨rfl, ?_⟩
  refine KC.seq ?_
  refine KC.region ?_
  refine KO.pv (PV.makeFunc rfl rfl) rfl rfl ?_
  refine KO.buildSliceM m10 el33_ZPreds ez40_ZPreds rfl rfl (show _ = some [.func (.func 75) #[] #[.pointer (some ⟨(H.next + 17), 0, none⟩)]] from rfl) rfl rfl fun H11 m12 => ?_
  refine KO.pv (PV.assign rfl) rfl rfl ?_
  refine KO.nil ?_
  obtain ⟨nr13, rd13, ln13, lm13⟩ := OwnV.rd rdP (m12.res (i := 1) rfl) (cs := [.int .i64 ri5, .slice la5 ln5 lc5, .slice aa5 an5 ac5, .slice ba5 bn5 bc5, .slice qa5 qn5 qc5]) (o := 1) rfl
  obtain ⟨nr14, rd14, ln14, lm14⟩ := OwnV.rd rdP (m12.res (i := 2) rfl) (cs := [.int .i64 ri5, .slice la5 ln5 lc5, .slice aa5 an5 ac5, .slice ba5 bn5 bc5, .slice qa5 qn5 qc5]) (o := 2) rfl
  obtain ⟨nr15, rd15, ln15, lm15⟩ := OwnV.rd (rdI .i64) (m12.res (i := 3) rfl) (cs := [.int .i64 ri5, .slice la5 ln5 lc5, .slice aa5 an5 ac5, .slice ba5 bn5 bc5, .slice qa5 qn5 qc5]) (o := 3) rfl
  obtain ⟨nr16, rd16, ln16, lm16⟩ := OwnV.rd (rdI .i64) (m12.res (i := 4) rfl) (cs := [.int .i64 ri5, .slice la5 ln5 lc5, .slice aa5 an5 ac5, .slice ba5 bn5 bc5, .slice qa5 qn5 qc5]) (o := 4) rfl
  exact KC.ret ⟨rfl, _, (.tmp rfl .nil), call_one (m12.pick [0, 5, 1, 2, 3, 4] (by decide) rfl) rfl (see_75 9) ⟨_, _, _, _, _, _, ⟨_, rfl, (wrap64 (by omega) (by omega)), rfl, rfl, rfl⟩, ⟨_, _, _, _, _, _, rd13, ⟨_, _, _, _, _, _, rd14, ⟨_, _, _, _, _, _, rd15, ⟨_, _, _, _, _, _, rd16, ⟨rfl, rfl, rfl⟩, rfl, rfl, rfl⟩, rfl, rfl, rfl⟩, rfl, rfl, rfl⟩, rfl, rfl, rfl⟩, rfl, rfl, rfl⟩ (by simp [R.own, R.inn, pickL]) (by simp only [List.length_append, List.length_cons, List.length_nil] <;> omega) (by simp)⟩
theorem top_7 (w : Bool × Bool) (hwS : Sh.bools (.fld 0 (.num .i64) (.fld 1 (.fld 0 (.list 2 (.fld 0 (.num .i64) (.fld 1 (.num .i64) .nil))) (.fld 1 (.num .i64) .nil)) (.fld 3 (.list 1 .bool) (.fld 4 (.list 1 (.list 1 (.num .i64))) (.fld 5 (.fld 0 (.list 2 (.fld 0 (.num .i64) (.fld 1 (.num .i64) .nil))) (.fld 1 (.num .i64) .nil)) (.fld 7 (.fld 0 (.num .i64) (.fld 1 (.list 2 (.fld 0 (.num .i64) (.fld 1 (.num .i64) .nil))) (.fld 2 (.list 2 (.fld 0 (.num .i64) (.fld 1 (.num .i64) .nil))) (.fld 3 (.list 1 (.num .i64)) (.fld 4 (.list 1 (.num .i64)) .nil))))) (.fld 12 (.list 1 (.num .i64)) .nil))))))) = true → w.1 = true) (H : AHeap) (cs : List Value) (ns : List Int) (ss : List ByteArray) (D : List Nat) (hcl : cs.length = 13) (hone : cs.all oneC = true) (hR : Rd H ⟨false, w.1, w.2⟩ (.fld 0 (.num .i64) (.fld 1 (.fld 0 (.list 2 (.fld 0 (.num .i64) (.fld 1 (.num .i64) .nil))) (.fld 1 (.num .i64) .nil)) (.fld 3 (.list 1 .bool) (.fld 4 (.list 1 (.list 1 (.num .i64))) (.fld 5 (.fld 0 (.list 2 (.fld 0 (.num .i64) (.fld 1 (.num .i64) .nil))) (.fld 1 (.num .i64) .nil)) (.fld 7 (.fld 0 (.num .i64) (.fld 1 (.list 2 (.fld 0 (.num .i64) (.fld 1 (.num .i64) .nil))) (.fld 2 (.list 2 (.fld 0 (.num .i64) (.fld 1 (.num .i64) .nil))) (.fld 3 (.list 1 (.num .i64)) (.fld 4 (.list 1 (.num .i64)) .nil))))) (.fld 12 (.list 1 (.num .i64)) .nil))))))) cs 0 ns ss D) (hD : ∀ j ∈ D, j < H.next) (l1 : ns.length ≤ 10000000) (l2 : ss.length ≤ 10000000) :
    WF E0 7 [.agg cs.toArray] H fun q => q.1 = .bool true := by
  have hcalls : ∀ f ∈ ([56, 58, 60, 64, 67, 70, 73] : List FuncId), CallOK' E0 3 9 40 f (.fld 0 (.num .i64) (.fld 1 (.fld 0 (.list 2 (.fld 0 (.num .i64) (.fld 1 (.num .i64) .nil))) (.fld 1 (.num .i64) .nil)) (.fld 3 (.list 1 .bool) (.fld 4 (.list 1 (.list 1 (.num .i64))) (.fld 5 (.fld 0 (.list 2 (.fld 0 (.num .i64) (.fld 1 (.num .i64) .nil))) (.fld 1 (.num .i64) .nil)) (.fld 7 (.fld 0 (.num .i64) (.fld 1 (.list 2 (.fld 0 (.num .i64) (.fld 1 (.num .i64) .nil))) (.fld 2 (.list 2 (.fld 0 (.num .i64) (.fld 1 (.num .i64) .nil))) (.fld 3 (.list 1 (.num .i64)) (.fld 4 (.list 1 (.num .i64)) .nil))))) (.fld 12 (.list 1 (.num .i64)) .nil))))))) ∧ E0.ext f = none := by
    intro f hf
    simp only [List.mem_cons, List.not_mem_nil, or_false] at hf
    rcases hf with rfl | rfl | rfl | rfl | rfl | rfl | rfl
    · exact ⟨call_56, rfl⟩
    · exact ⟨call_58, rfl⟩
    · exact ⟨call_60, rfl⟩
    · exact ⟨call_64, rfl⟩
    · exact ⟨call_67, rfl⟩
    · exact ⟨call_70, rfl⟩
    · exact ⟨call_73, rfl⟩
  refine WF.k Tryz.func7 rfl rfl ?_
  refine KC.seq (KC.region ?_)
  refine KO.box (rfl) ((boxAgg hone)) rfl rfl fun G0 u0 => ?_
  refine KO.pv (PV.assign rfl) rfl rfl ?_
  refine KO.nil ?_
  rw [show cellsV (.agg cs.toArray) = cs by simp [cellsV]] at u0
  have hX : G0.row H.next = some ⟨91, true, true, cs⟩ := by rw [u0.row, if_pos rfl]
  have hn0 := u0.next
  refine KC.seq (KC.region ?_)
  refine KO.loadN ag91_ZPreds sz91_ZPreds rfl (hX) ((takeN_of (p := cs) (by rw [List.drop_zero, ← hcl, List.take_length]) hcl)) rfl rfl ?_
  refine KO.buildSlice el107_ZPreds ez97_ZPreds rfl rfl (rfl) rfl rfl fun G1 u1 => ?_
  refine KO.call rfl rfl rfl rfl (apart_53 (own := 54) (see := 55) (calls := [56, 58, 60, 64, 67, 70, 73]) own_54 (see_55 9) hcalls rfl rfl (by decide) G1 cs ns ss D hcl hone w hwS (hR.frame fun j hj => by have := hD j hj; rw [u1.row, if_neg (by omega), u0.row, if_neg (by omega)]) (fun j hj => by have := hD j hj; rw [u1.next]; omega) l1 l2 G0.next (by rw [u1.row, if_pos rfl]; rfl) (by rw [u1.next]; omega)) fun v2 G2 q2 => ?_
  dsimp only at q2
  subst q2
  refine KO.pv (PV.move rfl) rfl rfl ?_
  refine KO.call rfl rfl rfl rfl (WF.sum (Q := fun q => q.1 = .bool true) rfl rfl) fun v3 G3 q3 => ?_
  dsimp only at q3
  subst q3
  refine KO.pv (PV.pickT rfl rfl rfl) rfl rfl ?_
  refine KO.pv (PV.assign rfl) rfl rfl ?_
  refine KO.nil ?_
  exact KC.ret ⟨rfl, _, rfl, rfl⟩
end Go.Eng

namespace Go.Eng
open Go Go.Proofs
theorem cells91_Preds : Tryz.prog.cellsOf 91 = 13 := by kernel_rfl
theorem cells24_Preds : Tryz.prog.cellsOf 24 = 1 := by kernel_rfl
theorem cells3_Preds : Tryz.prog.cellsOf 3 = 1 := by kernel_rfl
theorem cells26_Preds : Tryz.prog.cellsOf 26 = 5 := by kernel_rfl
theorem cells23_Preds : Tryz.prog.cellsOf 23 = 1 := by kernel_rfl
theorem cells145_Preds : Tryz.prog.cellsOf 145 = 2 := by kernel_rfl
theorem cells22_Preds : Tryz.prog.cellsOf 22 = 1 := by kernel_rfl
theorem cells147_Preds : Tryz.prog.cellsOf 147 = 2 := by kernel_rfl
theorem cells44_Preds : Tryz.prog.cellsOf 44 = 2 := by kernel_rfl
theorem cells42_Preds : Tryz.prog.cellsOf 42 = 1 := by kernel_rfl
theorem cells89_Preds : Tryz.prog.cellsOf 89 = 1 := by kernel_rfl
theorem cells4_Preds : Tryz.prog.cellsOf 4 = 1 := by kernel_rfl
theorem fits24_Preds : Fits Tryz.prog (.list 1 (.num .i64)) 24 := ⟨3, Tryz.underlying24, cells3_Preds, by decide, by decide, by decide, .inl Tryz.underlying3⟩
theorem fits23_Preds : Fits Tryz.prog (.list 2 (.fld 0 (.num .i64) (.fld 1 (.num .i64) .nil))) 23 := ⟨145, Tryz.underlying23, cells145_Preds, by decide, by decide, by decide, .inr ⟨_, Tryz.underlying145, by
    rw [cells145_Preds]
    refine ⟨_, _, rfl, rfl, rfl, ⟨_, _, rfl, ?_, ?_, ⟨rfl, ?_⟩, .inl Tryz.underlying3⟩, .inl Tryz.underlying3⟩ <;> simp only [cells3_Preds]⟩⟩
theorem fits22_Preds : Fits Tryz.prog (.list 2 (.fld 0 (.num .i64) (.fld 1 (.num .i64) .nil))) 22 := ⟨147, Tryz.underlying22, cells147_Preds, by decide, by decide, by decide, .inr ⟨_, Tryz.underlying147, by
    rw [cells147_Preds]
    refine ⟨_, _, rfl, rfl, rfl, ⟨_, _, rfl, ?_, ?_, ⟨rfl, ?_⟩, .inl Tryz.underlying3⟩, .inl Tryz.underlying3⟩ <;> simp only [cells3_Preds]⟩⟩
theorem fits42_Preds : Fits Tryz.prog (.list 1 (.list 1 (.num .i64))) 42 := ⟨24, Tryz.underlying42, cells24_Preds, by decide, by decide, by decide, .inl fits24_Preds⟩
theorem fits89_Preds : Fits Tryz.prog (.list 1 .bool) 89 := ⟨4, Tryz.underlying89, cells4_Preds, by decide, by decide, by decide, .inl Tryz.underlying4⟩
theorem fitsA_Preds : Fits.go Tryz.prog (.fld 0 (.num .i64) (.fld 1 (.fld 0 (.list 2 (.fld 0 (.num .i64) (.fld 1 (.num .i64) .nil))) (.fld 1 (.num .i64) .nil)) (.fld 3 (.list 1 .bool) (.fld 4 (.list 1 (.list 1 (.num .i64))) (.fld 5 (.fld 0 (.list 2 (.fld 0 (.num .i64) (.fld 1 (.num .i64) .nil))) (.fld 1 (.num .i64) .nil)) (.fld 7 (.fld 0 (.num .i64) (.fld 1 (.list 2 (.fld 0 (.num .i64) (.fld 1 (.num .i64) .nil))) (.fld 2 (.list 2 (.fld 0 (.num .i64) (.fld 1 (.num .i64) .nil))) (.fld 3 (.list 1 (.num .i64)) (.fld 4 (.list 1 (.num .i64)) .nil))))) (.fld 12 (.list 1 (.num .i64)) .nil))))))) [{ name := "Latches", type := 3, offset := 0, embedded := false, tag := "", pkgPath := "", byteOffset := 0 }, { name := "P", type := 44, offset := 1, embedded := false, tag := "", pkgPath := "", byteOffset := 8 }, { name := "State", type := 89, offset := 3, embedded := false, tag := "", pkgPath := "", byteOffset := 40 }, { name := "L", type := 42, offset := 4, embedded := false, tag := "", pkgPath := "", byteOffset := 64 }, { name := "Q", type := 44, offset := 5, embedded := false, tag := "", pkgPath := "", byteOffset := 88 }, { name := "C", type := 26, offset := 7, embedded := false, tag := "", pkgPath := "", byteOffset := 120 }, { name := "Lits", type := 24, offset := 12, embedded := false, tag := "", pkgPath := "", byteOffset := 224 }] 0 13 := by
  refine ⟨_, _, rfl, rfl, rfl, ⟨_, _, rfl, ?_, ?_, ⟨_, _, rfl, ?_, ?_, ⟨_, _, rfl, ?_, ?_, ⟨_, _, rfl, ?_, ?_, ⟨_, _, rfl, ?_, ?_, ⟨_, _, rfl, ?_, ?_, ⟨rfl, ?_⟩, .inl fits24_Preds⟩, .inr ⟨_, Tryz.underlying26, by
    rw [cells26_Preds]
    refine ⟨_, _, rfl, rfl, rfl, ⟨_, _, rfl, ?_, ?_, ⟨_, _, rfl, ?_, ?_, ⟨_, _, rfl, ?_, ?_, ⟨_, _, rfl, ?_, ?_, ⟨rfl, ?_⟩, .inl fits24_Preds⟩, .inl fits24_Preds⟩, .inl fits23_Preds⟩, .inl fits22_Preds⟩, .inl Tryz.underlying3⟩ <;> simp only [cells3_Preds, cells22_Preds, cells23_Preds, cells24_Preds]⟩⟩, .inr ⟨_, Tryz.underlying44, by
    rw [cells44_Preds]
    refine ⟨_, _, rfl, rfl, rfl, ⟨_, _, rfl, ?_, ?_, ⟨rfl, ?_⟩, .inl Tryz.underlying3⟩, .inl fits23_Preds⟩ <;> simp only [cells23_Preds, cells3_Preds]⟩⟩, .inl fits42_Preds⟩, .inl fits89_Preds⟩, .inr ⟨_, Tryz.underlying44, by
    rw [cells44_Preds]
    refine ⟨_, _, rfl, rfl, rfl, ⟨_, _, rfl, ?_, ?_, ⟨rfl, ?_⟩, .inl Tryz.underlying3⟩, .inl fits23_Preds⟩ <;> simp only [cells23_Preds, cells3_Preds]⟩⟩, .inl Tryz.underlying3⟩ <;> simp only [cells3_Preds, cells44_Preds, cells89_Preds, cells42_Preds, cells26_Preds, cells24_Preds]
theorem core_Preds {K : Type} {enc : TypeId × Value → K} {μ : DataW K → Nat} (hμ : Msr μ) (W : World) (cs : Array Value) (hcs : cs.size = 13) {d0 : DataW K} {p0 : List MemPlace} {fuel : Nat} (hf : DataW.trod enc Tryz.prog W 0 (fun _ => true) true fuel 91 cs.toList = some (d0, p0)) (hz : W.noneFrozen p0) (hd : μ d0 ≤ 1048576) :
    Calls Tryz.prog 7 #[.agg cs] W fun e W' => e = .returned (.bool true) ∧ RowKit.Below W.heap.size W W' := by
  obtain ⟨φ, H, acs, ns, ss, D, k1, k2, k3, k4, k5, k6, k7, k8, k9, k10⟩ := arg_vr hμ (G := 8) (s := .fld 0 (.num .i64) (.fld 1 (.fld 0 (.list 2 (.fld 0 (.num .i64) (.fld 1 (.num .i64) .nil))) (.fld 1 (.num .i64) .nil)) (.fld 3 (.list 1 .bool) (.fld 4 (.list 1 (.list 1 (.num .i64))) (.fld 5 (.fld 0 (.list 2 (.fld 0 (.num .i64) (.fld 1 (.num .i64) .nil))) (.fld 1 (.num .i64) .nil)) (.fld 7 (.fld 0 (.num .i64) (.fld 1 (.list 2 (.fld 0 (.num .i64) (.fld 1 (.num .i64) .nil))) (.fld 2 (.list 2 (.fld 0 (.num .i64) (.fld 1 (.num .i64) .nil))) (.fld 3 (.list 1 (.num .i64)) (.fld 4 (.list 1 (.num .i64)) .nil))))) (.fld 12 (.list 1 (.num .i64)) .nil))))))) (fun _ => rfl) Tryz.underlying91 (by rw [cells91_Preds]; exact fitsA_Preds) hf hz (by dsimp only; omega) _ _ (rel0 8 W) (fun i o hi => by simp [heap0, AHeap.get, Tr.get] at hi)
  have hal : acs.length = 13 := by rw [LRel.len k6]; simpa using hcs
  dsimp only at k10
  have hcall := calls_true k1 k2 k6 (top_7 (true, true) (fun _ => rfl) H acs ns ss D hal k7 k8 k9 (by omega) (by omega))
  rw [show cs.toList.toArray = cs by simp] at hcall
  exact hcall
end Go.Eng
