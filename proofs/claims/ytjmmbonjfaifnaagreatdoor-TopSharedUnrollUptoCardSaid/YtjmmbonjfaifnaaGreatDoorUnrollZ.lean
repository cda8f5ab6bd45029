/- TopSharedUnroll answers true on the interpreter, and so on the machine. Conditions: none beyond each theorem's own. -/
import Derived.Test.YtjmmbonjfaifnaaGreatDoorUnrollB9
import Derived.Test.YtjmmbonjfaifnaaGreatDoorUnrollA
import Derived.KernelRfl
import Derived.Test.YtjmmbonjfaifnaaGreatDoorUnrollAlive
set_option linter.all false
namespace Go.Eng
open Go Go.Proofs
theorem ag3_ZUnroll : isAggT E0.P 3 = some false := by kernel_rfl
theorem ag80_ZUnroll : isAggT E0.P 80 = some true := by kernel_rfl
theorem sz80_ZUnroll : sizeT E0.P 80 = some 5 := by kernel_rfl
theorem ag46_ZUnroll : isAggT E0.P 46 = some false := by kernel_rfl
theorem el32_ZUnroll : elemT E0.P 32 = some 42 := by kernel_rfl
theorem ez42_ZUnroll : elemZ E0.P 42 = some (1, [.nilFunc]) := by kernel_rfl
theorem zt82_ZUnroll : zeroT E0.P 82 = some [.int .i64 0, .slice none 0 0, .slice none 0 0] := by kernel_rfl
theorem sz82_ZUnroll : sizeT E0.P 82 = some 3 := by kernel_rfl
theorem ag82_ZUnroll : isAggT E0.P 82 = some true := by kernel_rfl
theorem zt107_ZUnroll : zeroT E0.P 107 = some [.slice none 0 0, .slice none 0 0] := by kernel_rfl
theorem sz107_ZUnroll : sizeT E0.P 107 = some 2 := by kernel_rfl
theorem fo98_0_ZUnroll : foff E0.P 98 0 = some 0 := by kernel_rfl
theorem fo98_1_ZUnroll : foff E0.P 98 1 = some 5 := by kernel_rfl
theorem fo98_2_ZUnroll : foff E0.P 98 2 = some 6 := by kernel_rfl
theorem fo98_3_ZUnroll : foff E0.P 98 3 = some 9 := by kernel_rfl
theorem ag98_ZUnroll : isAggT E0.P 98 = some true := by kernel_rfl
theorem sz98_ZUnroll : sizeT E0.P 98 = some 10 := by kernel_rfl
theorem el112_ZUnroll : elemT E0.P 112 = some 104 := by kernel_rfl
theorem ez104_ZUnroll : elemZ E0.P 104 = some (1, [.nilFunc]) := by kernel_rfl
abbrev ShUnroll : Sh := .fld 0 (.fld 0 (.num .i64) (.fld 1 (.list 2 (.fld 0 (.num .i64) (.fld 1 (.num .i64) .nil))) (.fld 2 (.list 2 (.fld 0 (.num .i64) (.fld 1 (.num .i64) .nil))) (.fld 3 (.list 1 (.num .i64)) (.fld 4 (.list 1 (.num .i64)) .nil))))) (.fld 5 (.num .i64) (.fld 6 (.fld 0 (.num .i64) (.fld 1 (.list 1 (.list 1 (.num .i64))) (.fld 2 (.list 1 (.list 1 (.num .i64))) .nil))) (.fld 9 (.list 1 .bool) .nil)))
theorem arg_Unroll {H : AHeap} {bx : Nat} {ns : List Int} {ss : List ByteArray} {D : List Nat} (h : Own H ⟨true, true, false⟩ ShUnroll bx ns ss D) (hl : ns.length ≤ 63000) :
    ∃ (r : Row) (yu0 : Int) (ya1 : Option Addr) (yn1 yc1 : Nat) (yl1 : List (Int × Int)) (ya2 : Option Addr) (yn2 yc2 : Nat) (yl2 : List (Int × Int)) (ya3 : Option Addr) (yn3 yc3 : Nat) (yl3 : List Int) (ya4 : Option Addr) (yn4 yc4 : Nat) (yl4 : List Int) (yu5 : Int) (yu6 : Int) (ya7 : Option Addr) (yn7 yc7 : Nat) (yv7 : List (Option Addr × Nat × Nat)) (yl7 : List (List Int)) (ya8 : Option Addr) (yn8 yc8 : Nat) (yv8 : List (Option Addr × Nat × Nat)) (yl8 : List (List Int)) (ya9 : Option Addr) (yn9 yc9 : Nat) (yl9 : List Bool), H.row bx = some r ∧ r.cs[0]? = some (.int .i64 yu0) ∧ IntKind.i64.wrap yu0 = yu0 ∧ r.cs[1]? = some (.slice ya1 yn1 yc1) ∧ V EP H ya1 yn1 yc1 yl1 ∧ exactBase ya1 = true ∧ yn1 ≤ 63000 ∧ r.cs[2]? = some (.slice ya2 yn2 yc2) ∧ V EP H ya2 yn2 yc2 yl2 ∧ exactBase ya2 = true ∧ yn2 ≤ 63000 ∧ r.cs[3]? = some (.slice ya3 yn3 yc3) ∧ V (EI .i64) H ya3 yn3 yc3 yl3 ∧ exactBase ya3 = true ∧ yn3 ≤ 63000 ∧ r.cs[4]? = some (.slice ya4 yn4 yc4) ∧ V (EI .i64) H ya4 yn4 yc4 yl4 ∧ exactBase ya4 = true ∧ yn4 ≤ 63000 ∧ r.cs[5]? = some (.int .i64 yu5) ∧ IntKind.i64.wrap yu5 = yu5 ∧ r.cs[6]? = some (.int .i64 yu6) ∧ IntKind.i64.wrap yu6 = yu6 ∧ r.cs[7]? = some (.slice ya7 yn7 yc7) ∧ V ES H ya7 yn7 yc7 yv7 ∧ exactBase ya7 = true ∧ yn7 ≤ 63000 ∧ VV (EI .i64) H yv7 yl7 ∧ (∀ xs ∈ yl7, xs.length ≤ 63000) ∧ r.cs[8]? = some (.slice ya8 yn8 yc8) ∧ V ES H ya8 yn8 yc8 yv8 ∧ exactBase ya8 = true ∧ yn8 ≤ 63000 ∧ VV (EI .i64) H yv8 yl8 ∧ (∀ xs ∈ yl8, xs.length ≤ 63000) ∧ r.cs[9]? = some (.slice ya9 yn9 yc9) ∧ V EB H ya9 yn9 yc9 yl9 ∧ exactBase ya9 = true ∧ yn9 ≤ 63000 := by
  obtain ⟨r, hr, hw, hR⟩ := h.ex
  have hD := h.lD
  obtain ⟨n0, s0, D0, m0, t0, B0, r0, w0, rfl, rfl, rfl⟩ := hR
  obtain ⟨n1, s1, D1, m1, t1, B1, r1, w1, rfl, rfl, rfl⟩ := w0
  obtain ⟨n2, s2, D2, m2, t2, B2, r2, w2, rfl, rfl, rfl⟩ := w1
  obtain ⟨n3, s3, D3, m3, t3, B3, r3, w3, rfl, rfl, rfl⟩ := w2
  obtain ⟨rfl, rfl, rfl⟩ := w3
  obtain ⟨n4, s4, D4, m4, t4, B4, r4, w4, rfl, rfl, rfl⟩ := r0
  obtain ⟨n5, s5, D5, m5, t5, B5, r5, w5, rfl, rfl, rfl⟩ := w4
  obtain ⟨n6, s6, D6, m6, t6, B6, r6, w6, rfl, rfl, rfl⟩ := w5
  obtain ⟨n7, s7, D7, m7, t7, B7, r7, w7, rfl, rfl, rfl⟩ := w6
  obtain ⟨n8, s8, D8, m8, t8, B8, r8, w8, rfl, rfl, rfl⟩ := w7
  obtain ⟨rfl, rfl, rfl⟩ := w8
  obtain ⟨yu0, k4, z4, -⟩ := r4
  obtain ⟨ya1, yn1, yc1, yl1, k5, v5, e5, g5⟩ := rd_list rdP r5 (fun j hj => hD j (by simp only [List.mem_append, hj, true_or, or_true]))
  obtain ⟨ya2, yn2, yc2, yl2, k6, v6, e6, g6⟩ := rd_list rdP r6 (fun j hj => hD j (by simp only [List.mem_append, hj, true_or, or_true]))
  obtain ⟨ya3, yn3, yc3, yl3, k7, v7, e7, g7⟩ := rd_list (rdI .i64) r7 (fun j hj => hD j (by simp only [List.mem_append, hj, true_or, or_true]))
  obtain ⟨ya4, yn4, yc4, yl4, k8, v8, e8, g8⟩ := rd_list (rdI .i64) r8 (fun j hj => hD j (by simp only [List.mem_append, hj, true_or, or_true]))
  obtain ⟨yu5, k1, z1, -⟩ := r1
  obtain ⟨n9, s9, D9, m9, t9, B9, r9, w9, rfl, rfl, rfl⟩ := r2
  obtain ⟨n10, s10, D10, m10, t10, B10, r10, w10, rfl, rfl, rfl⟩ := w9
  obtain ⟨n11, s11, D11, m11, t11, B11, r11, w11, rfl, rfl, rfl⟩ := w10
  obtain ⟨rfl, rfl, rfl⟩ := w11
  obtain ⟨yu6, k9, z9, -⟩ := r9
  obtain ⟨ya7, yn7, yc7, yv7, yl7, k10, v10, e10, g10, vv10, bb10⟩ := rd_lists (rdI .i64) r10 (fun j hj => hD j (by simp only [List.mem_append, hj, true_or, or_true]))
  obtain ⟨ya8, yn8, yc8, yv8, yl8, k11, v11, e11, g11, vv11, bb11⟩ := rd_lists (rdI .i64) r11 (fun j hj => hD j (by simp only [List.mem_append, hj, true_or, or_true]))
  obtain ⟨ya9, yn9, yc9, yl9, k3, v3, e3, g3⟩ := rd_list rdB r3 (fun j hj => hD j (by simp only [List.mem_append, hj, true_or, or_true]))
  exact ⟨r, yu0, ya1, yn1, yc1, yl1, ya2, yn2, yc2, yl2, ya3, yn3, yc3, yl3, ya4, yn4, yc4, yl4, yu5, yu6, ya7, yn7, yc7, yv7, yl7, ya8, yn8, yc8, yv8, yl8, ya9, yn9, yc9, yl9, hr, k4, z4, k5, v5, e5, (by simp only [List.length_append] at hl; omega), k6, v6, e6, (by simp only [List.length_append] at hl; omega), k7, v7, e7, (by simp only [List.length_append] at hl; omega), k8, v8, e8, (by simp only [List.length_append] at hl; omega), k1, z1, k9, z9, k10, v10, e10, (by simp only [List.length_append] at hl; omega), vv10, (fun xs hx => by have := bb10 xs hx; simp only [List.length_append] at hl; omega), k11, v11, e11, (by simp only [List.length_append] at hl; omega), vv11, (fun xs hx => by have := bb11 xs hx; simp only [List.length_append] at hl; omega), k3, v3, e3, (by simp only [List.length_append] at hl; omega)⟩
theorem call_54 : CallOK' E0 3 9 42 54 ShUnroll := by
  intro H bx ns ss D hO hl1 _
  obtain ⟨r, yu0, ya1, yn1, yc1, yl1, ya2, yn2, yc2, yl2, ya3, yn3, yc3, yl3, ya4, yn4, yc4, yl4, yu5, yu6, ya7, yn7, yc7, yv7, yl7, ya8, yn8, yc8, yv8, yl8, ya9, yn9, yc9, yl9, hr, x0, w_u0, x1, h_l1, ex_l1, b_l1, x2, h_l2, ex_l2, b_l2, x3, h_l3, ex_l3, b_l3, x4, h_l4, ex_l4, b_l4, x5, w_u5, x6, w_u6, x7, h_l7, ex_l7, b_l7, i_l7, bi_l7, x8, h_l8, ex_l8, b_l8, i_l8, bi_l8, x9, h_l9, ex_l9, b_l9⟩ := arg_Unroll hO hl1
  obtain ⟨lo_u0, hi_u0⟩ := rangei64 w_u0
  obtain ⟨len_l1, cap_l1, max_l1, wf_l1⟩ := h_l1.len
  obtain ⟨len_l2, cap_l2, max_l2, wf_l2⟩ := h_l2.len
  obtain ⟨len_l3, cap_l3, max_l3, wf_l3⟩ := h_l3.len
  obtain ⟨len_l4, cap_l4, max_l4, wf_l4⟩ := h_l4.len
  obtain ⟨lo_u5, hi_u5⟩ := rangei64 w_u5
  obtain ⟨lo_u6, hi_u6⟩ := rangei64 w_u6
  obtain ⟨len_l7, cap_l7, max_l7, wf_l7⟩ := h_l7.len
  obtain ⟨len_l8, cap_l8, max_l8, wf_l8⟩ := h_l8.len
  obtain ⟨len_l9, cap_l9, max_l9, wf_l9⟩ := h_l9.len
  have m0 : Mem [] H H [] := Mem.start
  refine WF.kg Tryz.func54 rfl rfl ?_
  refine KC.seq ?_
  refine KC.region ?_
  refine KO.pv (PV.assign rfl) rfl rfl ?_
  refine KO.nil ?_
  refine KC.seq ?_
  refine KC.drawG (n := 15) (anc := [0, 1, 3, 7, 0, 16, 48, 112, 255, 511, 1023, 1023, 0, 6143, 16383]) (hv := [8, 13]) (ord := [0, 1, 2, 3, 4, 5, 6, 7, 8, 9, 10, 12, 13, 11, 14]) (by kernel_rfl) (by kernel_rfl) (by kernel_rfl) (by kernel_rfl) (by kernel_rfl) fun H1 n2 g3 => ?_
  have m4 := m0.room n2 g3 [12] (by decide) (by decide)
  refine KD.pv 1 (PV.move rfl) rfl rfl rfl (by kernel_rfl) rfl rfl rfl ?_
  refine KD.pv 3 (PV.nilCheck rfl) rfl rfl rfl (by kernel_rfl) rfl rfl rfl ?_
  refine KD.pv 7 (PV.fieldAddr fo98_0_ZUnroll rfl) rfl rfl rfl (by kernel_rfl) rfl rfl rfl ?_
  refine KD.load 15 rfl (m4.row0 hO.lb hr) (readN ag80_ZUnroll sz80_ZUnroll (takeN_cons x0 (takeN_cons x1 (takeN_cons x2 (takeN_cons x3 (takeN_cons x4 takeN_nil)))))) (pastGo (k := 1) (l := [H1]) (by kernel_rfl) rfl (pastCons ⟨_, (m4.row0 hO.lb hr), (readN ag80_ZUnroll sz80_ZUnroll (takeN_cons x0 (takeN_cons x1 (takeN_cons x2 (takeN_cons x3 (takeN_cons x4 takeN_nil))))))⟩ pastNil)) (veq_agg (veqCons veqI (veqCons veqS (veqCons veqS (veqCons veqS (veqCons veqS veqNil)))))) rfl (by kernel_rfl) rfl rfl rfl ?_
  refine KD.pv 31 (PV.move rfl) rfl rfl rfl (by kernel_rfl) rfl rfl rfl ?_
  refine KD.pv 63 (PV.nilCheck rfl) rfl rfl rfl (by kernel_rfl) rfl rfl rfl ?_
  refine KD.pv 127 (PV.fieldAddr fo98_1_ZUnroll rfl) rfl rfl rfl (by kernel_rfl) rfl rfl rfl ?_
  refine KD.load 255 rfl (m4.row0 hO.lb hr) (by rw [read1 ag3_ZUnroll]; exact x5) (pastGo (k := 1) (l := [H1]) (by kernel_rfl) rfl (pastCons ⟨_, (m4.row0 hO.lb hr), (by rw [read1 ag3_ZUnroll]; exact x5)⟩ pastNil)) veq_int rfl (by kernel_rfl) rfl rfl rfl ?_
  refine KD.call 511 rfl rfl rfl (by kernel_rfl) rfl rfl rfl (un_Of H1 yu0 ya1 yn1 yc1 _ ya2 yn2 yc2 _ ya3 yn3 yc3 _ ya4 yn4 yc4 _ yu5 (wrap64 (by omega) (by omega)) (V.mem m4 h_l1) (V.mem m4 h_l2) (V.mem m4 h_l3) (V.mem m4 h_l4) (wrap64 (by omega) (by omega))) fun v5 H5 q5 => ?_
  obtain ⟨v5, a15, n15, c15, v15, D15, l15, E15, a25, n25, c25, v25, D25, l25, E25, e5, hv5, mc5, p5_0, p5_1, p5_2⟩ := q5
  dsimp only at hv5 mc5
  subst hv5
  have m6 := m4.seq mc5
  refine KD.pv 1023 (PV.move rfl) rfl rfl rfl (by kernel_rfl) rfl rfl rfl ?_
  refine KD.pv 2047 (PV.extract rfl rfl) rfl rfl rfl (by kernel_rfl) rfl rfl rfl ?_
  refine KD.allocM 6143 m6 (j := 4) rfl zt82_ZUnroll rfl (by kernel_rfl) rfl rfl rfl fun H7 m8 => ?_
  refine KD.storeM 14335 m8 (j := 4) rfl sz82_ZUnroll rfl rfl rfl (show 0 + 3 ≤ 3 by decide) (show _ = [.int .i64 v5, .slice a15 n15 c15, .slice a25 n25 c25] from rfl) rfl (by kernel_rfl) rfl rfl fun H9 m10 => ?_
  refine KD.pv 16383 (PV.extract rfl rfl) rfl rfl rfl (by kernel_rfl) rfl rfl rfl ?_
  refine KD.pv 32767 (PV.assign rfl) rfl rfl rfl (by kernel_rfl) rfl rfl rfl ?_
  refine KD.nil ⟨rfl, ?_⟩
  refine KC.seq ?_
  refine KC.region ?_
  refine KO.pv (PV.makeFunc rfl rfl) rfl rfl ?_
  refine KO.buildSliceM m10 el32_ZUnroll ez42_ZUnroll rfl rfl (show _ = some [.func (.func 56) #[] #[.pointer (some ⟨(H.next + 12), 0, none⟩)]] from rfl) rfl rfl fun H11 m12 => ?_
  refine KO.pv (PV.assign rfl) rfl rfl ?_
  refine KO.nil ?_
  obtain ⟨nr13, rd13, ln13⟩ := InnOK.rd (rdI .i64) (m12.res (i := 1) rfl) (m12.res (i := 2) rfl) (cs := [.int .i64 v5, .slice a15 n15 c15, .slice a25 n25 c25]) (o := 1) rfl
  have lt13 := total_le (xss := l15) (k := 1001) (by first | assumption | exact all_nil)
  have li13 := m12.innLen (i := 2) rfl
  have lo13 := m12.ownLen (i := 1) rfl
  obtain ⟨nr14, rd14, ln14⟩ := InnOK.rd (rdI .i64) (m12.res (i := 3) rfl) (m12.res (i := 4) rfl) (cs := [.int .i64 v5, .slice a15 n15 c15, .slice a25 n25 c25]) (o := 2) rfl
  have lt14 := total_le (xss := l25) (k := 3) (by first | assumption | exact all_nil)
  have li14 := m12.innLen (i := 4) rfl
  have lo14 := m12.ownLen (i := 3) rfl
  exact KC.ret ⟨rfl, _, (.tmp rfl .nil), call_one (m12.pick [0, 5, 1, 2, 3, 4] (by decide) rfl) rfl (see_56 9) ⟨_, _, _, _, _, _, ⟨_, rfl, (wrap64 (by omega) (by omega)), rfl, rfl, rfl⟩, ⟨_, _, _, _, _, _, rd13, ⟨_, _, _, _, _, _, rd14, ⟨rfl, rfl, rfl⟩, rfl, rfl, rfl⟩, rfl, rfl, rfl⟩, rfl, rfl, rfl⟩ (by simp [R.own, R.inn, pickL]) (by simp only [List.length_append, List.length_cons, List.length_nil] <;> omega) (by simp)⟩
theorem call_57 : CallOK' E0 3 9 42 57 ShUnroll := by
  intro H bx ns ss D hO hl1 _
  obtain ⟨r, yu0, ya1, yn1, yc1, yl1, ya2, yn2, yc2, yl2, ya3, yn3, yc3, yl3, ya4, yn4, yc4, yl4, yu5, yu6, ya7, yn7, yc7, yv7, yl7, ya8, yn8, yc8, yv8, yl8, ya9, yn9, yc9, yl9, hr, x0, w_u0, x1, h_l1, ex_l1, b_l1, x2, h_l2, ex_l2, b_l2, x3, h_l3, ex_l3, b_l3, x4, h_l4, ex_l4, b_l4, x5, w_u5, x6, w_u6, x7, h_l7, ex_l7, b_l7, i_l7, bi_l7, x8, h_l8, ex_l8, b_l8, i_l8, bi_l8, x9, h_l9, ex_l9, b_l9⟩ := arg_Unroll hO hl1
  obtain ⟨lo_u0, hi_u0⟩ := rangei64 w_u0
  obtain ⟨len_l1, cap_l1, max_l1, wf_l1⟩ := h_l1.len
  obtain ⟨len_l2, cap_l2, max_l2, wf_l2⟩ := h_l2.len
  obtain ⟨len_l3, cap_l3, max_l3, wf_l3⟩ := h_l3.len
  obtain ⟨len_l4, cap_l4, max_l4, wf_l4⟩ := h_l4.len
  obtain ⟨lo_u5, hi_u5⟩ := rangei64 w_u5
  obtain ⟨lo_u6, hi_u6⟩ := rangei64 w_u6
  obtain ⟨len_l7, cap_l7, max_l7, wf_l7⟩ := h_l7.len
  obtain ⟨len_l8, cap_l8, max_l8, wf_l8⟩ := h_l8.len
  obtain ⟨len_l9, cap_l9, max_l9, wf_l9⟩ := h_l9.len
  have m0 : Mem [] H H [] := Mem.start
  refine WF.kg Tryz.func57 rfl rfl ?_
  refine KC.seq ?_
  refine KC.region ?_
  refine KO.pv (PV.assign rfl) rfl rfl ?_
  refine KO.nil ?_
  refine KC.seq ?_
  refine KC.drawG (n := 15) (anc := [0, 1, 3, 7, 0, 16, 48, 112, 255, 511, 1023, 1023, 0, 6143, 16383]) (hv := [8, 13]) (ord := [0, 1, 2, 3, 4, 5, 6, 7, 8, 9, 10, 12, 13, 11, 14]) (by kernel_rfl) (by kernel_rfl) (by kernel_rfl) (by kernel_rfl) (by kernel_rfl) fun H1 n2 g3 => ?_
  have m4 := m0.room n2 g3 [12] (by decide) (by decide)
  refine KD.pv 1 (PV.move rfl) rfl rfl rfl (by kernel_rfl) rfl rfl rfl ?_
  refine KD.pv 3 (PV.nilCheck rfl) rfl rfl rfl (by kernel_rfl) rfl rfl rfl ?_
  refine KD.pv 7 (PV.fieldAddr fo98_0_ZUnroll rfl) rfl rfl rfl (by kernel_rfl) rfl rfl rfl ?_
  refine KD.load 15 rfl (m4.row0 hO.lb hr) (readN ag80_ZUnroll sz80_ZUnroll (takeN_cons x0 (takeN_cons x1 (takeN_cons x2 (takeN_cons x3 (takeN_cons x4 takeN_nil)))))) (pastGo (k := 1) (l := [H1]) (by kernel_rfl) rfl (pastCons ⟨_, (m4.row0 hO.lb hr), (readN ag80_ZUnroll sz80_ZUnroll (takeN_cons x0 (takeN_cons x1 (takeN_cons x2 (takeN_cons x3 (takeN_cons x4 takeN_nil))))))⟩ pastNil)) (veq_agg (veqCons veqI (veqCons veqS (veqCons veqS (veqCons veqS (veqCons veqS veqNil)))))) rfl (by kernel_rfl) rfl rfl rfl ?_
  refine KD.pv 31 (PV.move rfl) rfl rfl rfl (by kernel_rfl) rfl rfl rfl ?_
  refine KD.pv 63 (PV.nilCheck rfl) rfl rfl rfl (by kernel_rfl) rfl rfl rfl ?_
  refine KD.pv 127 (PV.fieldAddr fo98_1_ZUnroll rfl) rfl rfl rfl (by kernel_rfl) rfl rfl rfl ?_
  refine KD.load 255 rfl (m4.row0 hO.lb hr) (by rw [read1 ag3_ZUnroll]; exact x5) (pastGo (k := 1) (l := [H1]) (by kernel_rfl) rfl (pastCons ⟨_, (m4.row0 hO.lb hr), (by rw [read1 ag3_ZUnroll]; exact x5)⟩ pastNil)) veq_int rfl (by kernel_rfl) rfl rfl rfl ?_
  refine KD.call 511 rfl rfl rfl (by kernel_rfl) rfl rfl rfl (un_Free H1 yu0 ya1 yn1 yc1 _ ya2 yn2 yc2 _ ya3 yn3 yc3 _ ya4 yn4 yc4 _ yu5 (wrap64 (by omega) (by omega)) (V.mem m4 h_l1) (V.mem m4 h_l2) (V.mem m4 h_l3) (V.mem m4 h_l4) (wrap64 (by omega) (by omega))) fun v5 H5 q5 => ?_
  obtain ⟨v5, a15, n15, c15, v15, D15, l15, E15, a25, n25, c25, v25, D25, l25, E25, e5, hv5, mc5, p5_0, p5_1, p5_2⟩ := q5
  dsimp only at hv5 mc5
  subst hv5
  have m6 := m4.seq mc5
  refine KD.pv 1023 (PV.move rfl) rfl rfl rfl (by kernel_rfl) rfl rfl rfl ?_
  refine KD.pv 2047 (PV.extract rfl rfl) rfl rfl rfl (by kernel_rfl) rfl rfl rfl ?_
  refine KD.allocM 6143 m6 (j := 4) rfl zt82_ZUnroll rfl (by kernel_rfl) rfl rfl rfl fun H7 m8 => ?_
  refine KD.storeM 14335 m8 (j := 4) rfl sz82_ZUnroll rfl rfl rfl (show 0 + 3 ≤ 3 by decide) (show _ = [.int .i64 v5, .slice a15 n15 c15, .slice a25 n25 c25] from rfl) rfl (by kernel_rfl) rfl rfl fun H9 m10 => ?_
  refine KD.pv 16383 (PV.extract rfl rfl) rfl rfl rfl (by kernel_rfl) rfl rfl rfl ?_
  refine KD.pv 32767 (PV.assign rfl) rfl rfl rfl (by kernel_rfl) rfl rfl rfl ?_
  refine KD.nil ⟨rfl, ?_⟩
  refine KC.seq ?_
  refine KC.region ?_
  refine KO.pv (PV.makeFunc rfl rfl) rfl rfl ?_
  refine KO.buildSliceM m10 el32_ZUnroll ez42_ZUnroll rfl rfl (show _ = some [.func (.func 59) #[] #[.pointer (some ⟨(H.next + 12), 0, none⟩)]] from rfl) rfl rfl fun H11 m12 => ?_
  refine KO.pv (PV.assign rfl) rfl rfl ?_
  refine KO.nil ?_
  obtain ⟨nr13, rd13, ln13⟩ := InnOK.rd (rdI .i64) (m12.res (i := 1) rfl) (m12.res (i := 2) rfl) (cs := [.int .i64 v5, .slice a15 n15 c15, .slice a25 n25 c25]) (o := 1) rfl
  have lt13 := total_le (xss := l15) (k := 1001) (by first | assumption | exact all_nil)
  have li13 := m12.innLen (i := 2) rfl
  have lo13 := m12.ownLen (i := 1) rfl
  obtain ⟨nr14, rd14, ln14⟩ := InnOK.rd (rdI .i64) (m12.res (i := 3) rfl) (m12.res (i := 4) rfl) (cs := [.int .i64 v5, .slice a15 n15 c15, .slice a25 n25 c25]) (o := 2) rfl
  have lt14 := total_le (xss := l25) (k := 3) (by first | assumption | exact all_nil)
  have li14 := m12.innLen (i := 4) rfl
  have lo14 := m12.ownLen (i := 3) rfl
  exact KC.ret ⟨rfl, _, (.tmp rfl .nil), call_one (m12.pick [0, 5, 1, 2, 3, 4] (by decide) rfl) rfl (see_59 9) ⟨_, _, _, _, _, _, ⟨_, rfl, (wrap64 (by omega) (by omega)), rfl, rfl, rfl⟩, ⟨_, _, _, _, _, _, rd13, ⟨_, _, _, _, _, _, rd14, ⟨rfl, rfl, rfl⟩, rfl, rfl, rfl⟩, rfl, rfl, rfl⟩, rfl, rfl, rfl⟩ (by simp [R.own, R.inn, pickL]) (by simp only [List.length_append, List.length_cons, List.length_nil] <;> omega) (by simp)⟩
theorem call_60 : CallOK' E0 3 9 42 60 ShUnroll := by
  intro H bx ns ss D hO hl1 _
  obtain ⟨r, yu0, ya1, yn1, yc1, yl1, ya2, yn2, yc2, yl2, ya3, yn3, yc3, yl3, ya4, yn4, yc4, yl4, yu5, yu6, ya7, yn7, yc7, yv7, yl7, ya8, yn8, yc8, yv8, yl8, ya9, yn9, yc9, yl9, hr, x0, w_u0, x1, h_l1, ex_l1, b_l1, x2, h_l2, ex_l2, b_l2, x3, h_l3, ex_l3, b_l3, x4, h_l4, ex_l4, b_l4, x5, w_u5, x6, w_u6, x7, h_l7, ex_l7, b_l7, i_l7, bi_l7, x8, h_l8, ex_l8, b_l8, i_l8, bi_l8, x9, h_l9, ex_l9, b_l9⟩ := arg_Unroll hO hl1
  obtain ⟨lo_u0, hi_u0⟩ := rangei64 w_u0
  obtain ⟨len_l1, cap_l1, max_l1, wf_l1⟩ := h_l1.len
  obtain ⟨len_l2, cap_l2, max_l2, wf_l2⟩ := h_l2.len
  obtain ⟨len_l3, cap_l3, max_l3, wf_l3⟩ := h_l3.len
  obtain ⟨len_l4, cap_l4, max_l4, wf_l4⟩ := h_l4.len
  obtain ⟨lo_u5, hi_u5⟩ := rangei64 w_u5
  obtain ⟨lo_u6, hi_u6⟩ := rangei64 w_u6
  obtain ⟨len_l7, cap_l7, max_l7, wf_l7⟩ := h_l7.len
  obtain ⟨len_l8, cap_l8, max_l8, wf_l8⟩ := h_l8.len
  obtain ⟨len_l9, cap_l9, max_l9, wf_l9⟩ := h_l9.len
  have m0 : Mem [] H H [] := Mem.start
  refine WF.kg Tryz.func60 rfl rfl ?_
  refine KC.seq ?_
  refine KC.region ?_
  refine KO.pv (PV.assign rfl) rfl rfl ?_
  refine KO.nil ?_
  refine KC.seq ?_
  refine KC.drawG (n := 19) (anc := [0, 1, 3, 7, 0, 16, 48, 112, 0, 256, 768, 1792, 4095, 8191, 16383, 16383, 0, 98303, 262143]) (hv := [12, 17]) (ord := [0, 1, 2, 3, 4, 5, 6, 7, 8, 9, 10, 11, 12, 13, 14, 16, 17, 15, 18]) (by kernel_rfl) (by kernel_rfl) (by kernel_rfl) (by kernel_rfl) (by kernel_rfl) fun H1 n2 g3 => ?_
  have m4 := m0.room n2 g3 [16] (by decide) (by decide)
  refine KD.pv 1 (PV.move rfl) rfl rfl rfl (by kernel_rfl) rfl rfl rfl ?_
  refine KD.pv 3 (PV.nilCheck rfl) rfl rfl rfl (by kernel_rfl) rfl rfl rfl ?_
  refine KD.pv 7 (PV.fieldAddr fo98_0_ZUnroll rfl) rfl rfl rfl (by kernel_rfl) rfl rfl rfl ?_
  refine KD.load 15 rfl (m4.row0 hO.lb hr) (readN ag80_ZUnroll sz80_ZUnroll (takeN_cons x0 (takeN_cons x1 (takeN_cons x2 (takeN_cons x3 (takeN_cons x4 takeN_nil)))))) (pastGo (k := 1) (l := [H1]) (by kernel_rfl) rfl (pastCons ⟨_, (m4.row0 hO.lb hr), (readN ag80_ZUnroll sz80_ZUnroll (takeN_cons x0 (takeN_cons x1 (takeN_cons x2 (takeN_cons x3 (takeN_cons x4 takeN_nil))))))⟩ pastNil)) (veq_agg (veqCons veqI (veqCons veqS (veqCons veqS (veqCons veqS (veqCons veqS veqNil)))))) rfl (by kernel_rfl) rfl rfl rfl ?_
  refine KD.pv 31 (PV.move rfl) rfl rfl rfl (by kernel_rfl) rfl rfl rfl ?_
  refine KD.pv 63 (PV.nilCheck rfl) rfl rfl rfl (by kernel_rfl) rfl rfl rfl ?_
  refine KD.pv 127 (PV.fieldAddr fo98_2_ZUnroll rfl) rfl rfl rfl (by kernel_rfl) rfl rfl rfl ?_
  refine KD.load 255 rfl (m4.row0 hO.lb hr) (readN ag82_ZUnroll sz82_ZUnroll (takeN_cons x6 (takeN_cons x7 (takeN_cons x8 takeN_nil)))) (pastGo (k := 1) (l := [H1]) (by kernel_rfl) rfl (pastCons ⟨_, (m4.row0 hO.lb hr), (readN ag82_ZUnroll sz82_ZUnroll (takeN_cons x6 (takeN_cons x7 (takeN_cons x8 takeN_nil))))⟩ pastNil)) (veq_agg (veqCons veqI (veqCons veqS (veqCons veqS veqNil)))) rfl (by kernel_rfl) rfl rfl rfl ?_
  refine KD.pv 511 (PV.move rfl) rfl rfl rfl (by kernel_rfl) rfl rfl rfl ?_
  refine KD.pv 1023 (PV.nilCheck rfl) rfl rfl rfl (by kernel_rfl) rfl rfl rfl ?_
  refine KD.pv 2047 (PV.fieldAddr fo98_3_ZUnroll rfl) rfl rfl rfl (by kernel_rfl) rfl rfl rfl ?_
  refine KD.load 4095 rfl (m4.row0 hO.lb hr) (by rw [read1 ag46_ZUnroll]; exact x9) (pastGo (k := 1) (l := [H1]) (by kernel_rfl) rfl (pastCons ⟨_, (m4.row0 hO.lb hr), (by rw [read1 ag46_ZUnroll]; exact x9)⟩ pastNil)) veq_sl rfl (by kernel_rfl) rfl rfl rfl ?_
  refine KD.call 8191 rfl rfl rfl (by kernel_rfl) rfl rfl rfl (un_Trace H1 yu0 ya1 yn1 yc1 _ ya2 yn2 yc2 _ ya3 yn3 yc3 _ ya4 yn4 yc4 _ yu6 ya7 yn7 yc7 _ _ ya8 yn8 yc8 _ _ ya9 yn9 yc9 _ (wrap64 (by omega) (by omega)) (V.mem m4 h_l1) (V.mem m4 h_l2) (V.mem m4 h_l3) (V.mem m4 h_l4) (wrap64 (by omega) (by omega)) (V.mem m4 h_l7) (VV.mem m4 i_l7) (V.mem m4 h_l8) (VV.mem m4 i_l8) (V.mem m4 h_l9) (by first | omega | assumption)) fun v5 H5 q5 => ?_
  obtain ⟨a15, n15, c15, l15, D15, a25, n25, c25, v25, D25, l25, E25, e5, hv5, mc5, p5_0, p5_1⟩ := q5
  dsimp only at hv5 mc5
  subst hv5
  have m6 := m4.seq mc5
  refine KD.pv 16383 (PV.move rfl) rfl rfl rfl (by kernel_rfl) rfl rfl rfl ?_
  refine KD.pv 32767 (PV.extract rfl rfl) rfl rfl rfl (by kernel_rfl) rfl rfl rfl ?_
  refine KD.allocM 98303 m6 (j := 3) rfl zt107_ZUnroll rfl (by kernel_rfl) rfl rfl rfl fun H7 m8 => ?_
  refine KD.storeM 229375 m8 (j := 3) rfl sz107_ZUnroll rfl rfl rfl (show 0 + 2 ≤ 2 by decide) (show _ = [.slice a15 n15 c15, .slice a25 n25 c25] from rfl) rfl (by kernel_rfl) rfl rfl fun H9 m10 => ?_
  refine KD.pv 262143 (PV.extract rfl rfl) rfl rfl rfl (by kernel_rfl) rfl rfl rfl ?_
  refine KD.pv 524287 (PV.assign rfl) rfl rfl rfl (by kernel_rfl) rfl rfl rfl ?_
  refine KD.nil ⟨rfl, ?_⟩
  refine KC.seq ?_
  refine KC.region ?_
  refine KO.pv (PV.makeFunc rfl rfl) rfl rfl ?_
  refine KO.buildSliceM m10 el32_ZUnroll ez42_ZUnroll rfl rfl (show _ = some [.func (.func 62) #[] #[.pointer (some ⟨(H.next + 16), 0, none⟩)]] from rfl) rfl rfl fun H11 m12 => ?_
  refine KO.pv (PV.assign rfl) rfl rfl ?_
  refine KO.nil ?_
  obtain ⟨nr13, rd13, ln13, lm13⟩ := OwnV.rd rdB (m12.res (i := 1) rfl) (cs := [.slice a15 n15 c15, .slice a25 n25 c25]) (o := 0) rfl
  obtain ⟨nr14, rd14, ln14⟩ := InnOK.rd rdB (m12.res (i := 2) rfl) (m12.res (i := 3) rfl) (cs := [.slice a15 n15 c15, .slice a25 n25 c25]) (o := 1) rfl
  have lt14 := total_le (xss := l25) (k := 1000) (by first | assumption | exact all_nil)
  have li14 := m12.innLen (i := 3) rfl
  have lo14 := m12.ownLen (i := 2) rfl
  exact KC.ret ⟨rfl, _, (.tmp rfl .nil), call_one (m12.pick [0, 4, 1, 2, 3] (by decide) rfl) rfl (see_62 9) ⟨_, _, _, _, _, _, rd13, ⟨_, _, _, _, _, _, rd14, ⟨rfl, rfl, rfl⟩, rfl, rfl, rfl⟩, rfl, rfl, rfl⟩ (by simp [R.own, R.inn, pickL]) (by simp only [List.length_append, List.length_cons, List.length_nil] <;> omega) (by simp)⟩
theorem top_7 (w : Bool × Bool) (hwS : Sh.bools (.fld 0 (.fld 0 (.num .i64) (.fld 1 (.list 2 (.fld 0 (.num .i64) (.fld 1 (.num .i64) .nil))) (.fld 2 (.list 2 (.fld 0 (.num .i64) (.fld 1 (.num .i64) .nil))) (.fld 3 (.list 1 (.num .i64)) (.fld 4 (.list 1 (.num .i64)) .nil))))) (.fld 5 (.num .i64) (.fld 6 (.fld 0 (.num .i64) (.fld 1 (.list 1 (.list 1 (.num .i64))) (.fld 2 (.list 1 (.list 1 (.num .i64))) .nil))) (.fld 9 (.list 1 .bool) .nil)))) = true → w.1 = true) (H : AHeap) (cs : List Value) (ns : List Int) (ss : List ByteArray) (D : List Nat) (hcl : cs.length = 10) (hone : cs.all oneC = true) (hR : Rd H ⟨false, w.1, w.2⟩ (.fld 0 (.fld 0 (.num .i64) (.fld 1 (.list 2 (.fld 0 (.num .i64) (.fld 1 (.num .i64) .nil))) (.fld 2 (.list 2 (.fld 0 (.num .i64) (.fld 1 (.num .i64) .nil))) (.fld 3 (.list 1 (.num .i64)) (.fld 4 (.list 1 (.num .i64)) .nil))))) (.fld 5 (.num .i64) (.fld 6 (.fld 0 (.num .i64) (.fld 1 (.list 1 (.list 1 (.num .i64))) (.fld 2 (.list 1 (.list 1 (.num .i64))) .nil))) (.fld 9 (.list 1 .bool) .nil)))) cs 0 ns ss D) (hD : ∀ j ∈ D, j < H.next) (l1 : ns.length ≤ 10000000) (l2 : ss.length ≤ 10000000) :
    WF E0 7 [.agg cs.toArray] H fun q => q.1 = .bool true := by
  have hcalls : ∀ f ∈ ([54, 57, 60] : List FuncId), CallOK' E0 3 9 42 f (.fld 0 (.fld 0 (.num .i64) (.fld 1 (.list 2 (.fld 0 (.num .i64) (.fld 1 (.num .i64) .nil))) (.fld 2 (.list 2 (.fld 0 (.num .i64) (.fld 1 (.num .i64) .nil))) (.fld 3 (.list 1 (.num .i64)) (.fld 4 (.list 1 (.num .i64)) .nil))))) (.fld 5 (.num .i64) (.fld 6 (.fld 0 (.num .i64) (.fld 1 (.list 1 (.list 1 (.num .i64))) (.fld 2 (.list 1 (.list 1 (.num .i64))) .nil))) (.fld 9 (.list 1 .bool) .nil)))) ∧ E0.ext f = none := by
    intro f hf
    simp only [List.mem_cons, List.not_mem_nil, or_false] at hf
    rcases hf with rfl | rfl | rfl
    · exact ⟨call_54, rfl⟩
    · exact ⟨call_57, rfl⟩
    · exact ⟨call_60, rfl⟩
  refine WF.k Tryz.func7 rfl rfl ?_
  refine KC.seq (KC.region ?_)
  refine KO.box (rfl) ((boxAgg hone)) rfl rfl fun G0 u0 => ?_
  refine KO.pv (PV.assign rfl) rfl rfl ?_
  refine KO.nil ?_
  rw [show cellsV (.agg cs.toArray) = cs by simp [cellsV]] at u0
  have hX : G0.row H.next = some ⟨98, true, true, cs⟩ := by rw [u0.row, if_pos rfl]
  have hn0 := u0.next
  refine KC.seq (KC.region ?_)
  refine KO.loadN ag98_ZUnroll sz98_ZUnroll rfl (hX) ((takeN_of (p := cs) (by rw [List.drop_zero, ← hcl, List.take_length]) hcl)) rfl rfl ?_
  refine KO.buildSlice el112_ZUnroll ez104_ZUnroll rfl rfl (rfl) rfl rfl fun G1 u1 => ?_
  refine KO.call rfl rfl rfl rfl (apart_51 (own := 52) (see := 53) (calls := [54, 57, 60]) own_52 (see_53 9) hcalls rfl rfl (by decide) G1 cs ns ss D hcl hone w hwS (hR.frame fun j hj => by have := hD j hj; rw [u1.row, if_neg (by omega), u0.row, if_neg (by omega)]) (fun j hj => by have := hD j hj; rw [u1.next]; omega) l1 l2 G0.next (by rw [u1.row, if_pos rfl]; rfl) (by rw [u1.next]; omega)) fun v2 G2 q2 => ?_
  dsimp only at q2
  subst q2
  refine KO.pv (PV.move rfl) rfl rfl ?_
  refine KO.call rfl rfl rfl rfl (WF.sum (Q := fun q => q.1 = .bool true) rfl rfl) fun v3 G3 q3 => ?_
  dsimp only at q3
  subst q3
  refine KO.pv (PV.pickT rfl rfl rfl) rfl rfl ?_
  refine KO.pv (PV.assign rfl) rfl rfl ?_
  refine KO.nil ?_
  exact KC.ret ⟨rfl, _, rfl, rfl⟩

end Go.Eng

namespace Go.Eng
open Go Go.Proofs

theorem cells98_Unroll : Tryz.prog.cellsOf 98 = 10 := by kernel_rfl
theorem cells46_Unroll : Tryz.prog.cellsOf 46 = 1 := by kernel_rfl
theorem cells4_Unroll : Tryz.prog.cellsOf 4 = 1 := by kernel_rfl
theorem cells82_Unroll : Tryz.prog.cellsOf 82 = 3 := by kernel_rfl
theorem cells25_Unroll : Tryz.prog.cellsOf 25 = 1 := by kernel_rfl
theorem cells22_Unroll : Tryz.prog.cellsOf 22 = 1 := by kernel_rfl
theorem cells3_Unroll : Tryz.prog.cellsOf 3 = 1 := by kernel_rfl
theorem cells80_Unroll : Tryz.prog.cellsOf 80 = 5 := by kernel_rfl
theorem cells78_Unroll : Tryz.prog.cellsOf 78 = 1 := by kernel_rfl
theorem cells162_Unroll : Tryz.prog.cellsOf 162 = 2 := by kernel_rfl
theorem cells77_Unroll : Tryz.prog.cellsOf 77 = 1 := by kernel_rfl
theorem cells166_Unroll : Tryz.prog.cellsOf 166 = 2 := by kernel_rfl
theorem fits46_Unroll : Fits Tryz.prog (.list 1 .bool) 46 := ⟨4, Tryz.underlying46, cells4_Unroll, by decide, by decide, by decide, .inl Tryz.underlying4⟩
theorem fits22_Unroll : Fits Tryz.prog (.list 1 (.num .i64)) 22 := ⟨3, Tryz.underlying22, cells3_Unroll, by decide, by decide, by decide, .inl Tryz.underlying3⟩
theorem fits25_Unroll : Fits Tryz.prog (.list 1 (.list 1 (.num .i64))) 25 := ⟨22, Tryz.underlying25, cells22_Unroll, by decide, by decide, by decide, .inl fits22_Unroll⟩
theorem fits78_Unroll : Fits Tryz.prog (.list 2 (.fld 0 (.num .i64) (.fld 1 (.num .i64) .nil))) 78 := ⟨162, Tryz.underlying78, cells162_Unroll, by decide, by decide, by decide, .inr ⟨_, Tryz.underlying162, by
    rw [cells162_Unroll]
    refine ⟨_, _, rfl, rfl, rfl, ⟨_, _, rfl, ?_, ?_, ⟨rfl, ?_⟩, .inl Tryz.underlying3⟩, .inl Tryz.underlying3⟩ <;> simp only [cells3_Unroll]⟩⟩
theorem fits77_Unroll : Fits Tryz.prog (.list 2 (.fld 0 (.num .i64) (.fld 1 (.num .i64) .nil))) 77 := ⟨166, Tryz.underlying77, cells166_Unroll, by decide, by decide, by decide, .inr ⟨_, Tryz.underlying166, by
    rw [cells166_Unroll]
    refine ⟨_, _, rfl, rfl, rfl, ⟨_, _, rfl, ?_, ?_, ⟨rfl, ?_⟩, .inl Tryz.underlying3⟩, .inl Tryz.underlying3⟩ <;> simp only [cells3_Unroll]⟩⟩
theorem fitsA_Unroll : Fits.go Tryz.prog (.fld 0 (.fld 0 (.num .i64) (.fld 1 (.list 2 (.fld 0 (.num .i64) (.fld 1 (.num .i64) .nil))) (.fld 2 (.list 2 (.fld 0 (.num .i64) (.fld 1 (.num .i64) .nil))) (.fld 3 (.list 1 (.num .i64)) (.fld 4 (.list 1 (.num .i64)) .nil))))) (.fld 5 (.num .i64) (.fld 6 (.fld 0 (.num .i64) (.fld 1 (.list 1 (.list 1 (.num .i64))) (.fld 2 (.list 1 (.list 1 (.num .i64))) .nil))) (.fld 9 (.list 1 .bool) .nil)))) [{ name := "C", type := 80, offset := 0, embedded := false, tag := "", pkgPath := "", byteOffset := 0 }, { name := "Frames", type := 3, offset := 5, embedded := false, tag := "", pkgPath := "", byteOffset := 104 }, { name := "X", type := 82, offset := 6, embedded := false, tag := "", pkgPath := "", byteOffset := 112 }, { name := "Model", type := 46, offset := 9, embedded := false, tag := "", pkgPath := "", byteOffset := 168 }] 0 10 := by
  refine ⟨_, _, rfl, rfl, rfl, ⟨_, _, rfl, ?_, ?_, ⟨_, _, rfl, ?_, ?_, ⟨_, _, rfl, ?_, ?_, ⟨rfl, ?_⟩, .inl fits46_Unroll⟩, .inr ⟨_, Tryz.underlying82, by
    rw [cells82_Unroll]
    refine ⟨_, _, rfl, rfl, rfl, ⟨_, _, rfl, ?_, ?_, ⟨_, _, rfl, ?_, ?_, ⟨rfl, ?_⟩, .inl fits25_Unroll⟩, .inl fits25_Unroll⟩, .inl Tryz.underlying3⟩ <;> simp only [cells3_Unroll, cells25_Unroll]⟩⟩, .inl Tryz.underlying3⟩, .inr ⟨_, Tryz.underlying80, by
    rw [cells80_Unroll]
    refine ⟨_, _, rfl, rfl, rfl, ⟨_, _, rfl, ?_, ?_, ⟨_, _, rfl, ?_, ?_, ⟨_, _, rfl, ?_, ?_, ⟨_, _, rfl, ?_, ?_, ⟨rfl, ?_⟩, .inl fits22_Unroll⟩, .inl fits22_Unroll⟩, .inl fits78_Unroll⟩, .inl fits77_Unroll⟩, .inl Tryz.underlying3⟩ <;> simp only [cells3_Unroll, cells77_Unroll, cells78_Unroll, cells22_Unroll]⟩⟩ <;> simp only [cells80_Unroll, cells3_Unroll, cells82_Unroll, cells46_Unroll]
/-- From the reading of an argument in the machine to the call. -/
theorem core_Unroll {K : Type} {enc : TypeId × Value → K} {μ : DataW K → Nat} (hμ : Msr μ) (W : World) (cs : Array Value) (hcs : cs.size = 10) {d0 : DataW K} {p0 : List MemPlace} {fuel : Nat} (hf : DataW.trod enc Tryz.prog W 0 (fun _ => true) true fuel 98 cs.toList = some (d0, p0)) (hz : W.noneFrozen p0) (hd : μ d0 ≤ 1048576) :
    Calls Tryz.prog 7 #[.agg cs] W fun e W' => e = .returned (.bool true) ∧ RowKit.Below W.heap.size W W' := by
  obtain ⟨φ, H, acs, ns, ss, D, k1, k2, k3, k4, k5, k6, k7, k8, k9, k10⟩ := arg_vr hμ (G := 8) (s := .fld 0 (.fld 0 (.num .i64) (.fld 1 (.list 2 (.fld 0 (.num .i64) (.fld 1 (.num .i64) .nil))) (.fld 2 (.list 2 (.fld 0 (.num .i64) (.fld 1 (.num .i64) .nil))) (.fld 3 (.list 1 (.num .i64)) (.fld 4 (.list 1 (.num .i64)) .nil))))) (.fld 5 (.num .i64) (.fld 6 (.fld 0 (.num .i64) (.fld 1 (.list 1 (.list 1 (.num .i64))) (.fld 2 (.list 1 (.list 1 (.num .i64))) .nil))) (.fld 9 (.list 1 .bool) .nil)))) (fun _ => rfl) Tryz.underlying98 (by rw [cells98_Unroll]; exact fitsA_Unroll) hf hz (by dsimp only; omega) _ _ (rel0 8 W) (fun i o hi => by simp [heap0, AHeap.get, Tr.get] at hi)
  have hal : acs.length = 10 := by rw [LRel.len k6]; simpa using hcs
  dsimp only at k10
  have hcall := calls_true k1 k2 k6 (top_7 (true, true) (fun _ => rfl) H acs ns ss D hal k7 k8 k9 (by omega) (by omega))
  rw [show cs.toList.toArray = cs by simp] at hcall
  exact hcall

end Go.Eng
