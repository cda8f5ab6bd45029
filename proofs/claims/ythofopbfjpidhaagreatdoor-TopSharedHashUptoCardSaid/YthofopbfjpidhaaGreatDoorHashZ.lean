/- TopSharedHash answers true on the interpreter, and so on the machine. Conditions: none beyond each theorem's own. -/
import Derived.Test.YthofopbfjpidhaaGreatDoorHashB16
import Derived.Test.YthofopbfjpidhaaGreatDoorHashA
import Derived.KernelRfl
import Derived.Test.YthofopbfjpidhaaGreatDoorAlive
set_option linter.all false
namespace Go.Eng
open Go Go.Proofs
theorem ag3_ZHash : isAggT E0.P 3 = some false := by kernel_rfl
theorem ag24_ZHash : isAggT E0.P 24 = some false := by kernel_rfl
theorem sz24_ZHash : sizeT E0.P 24 = some 1 := by kernel_rfl
theorem ag26_ZHash : isAggT E0.P 26 = some true := by kernel_rfl
theorem sz26_ZHash : sizeT E0.P 26 = some 5 := by kernel_rfl
theorem zt24_ZHash : zeroT E0.P 24 = some [.slice none 0 0] := by kernel_rfl
theorem zt26_ZHash : zeroT E0.P 26 = some [.int .i64 0, .slice none 0 0, .slice none 0 0, .slice none 0 0, .slice none 0 0] := by kernel_rfl
theorem zt48_ZHash : zeroT E0.P 48 = some [.int .i64 0, .slice none 0 0, .slice none 0 0, .slice none 0 0, .slice none 0 0, .int .i64 0, .int .i64 0, .slice none 0 0, .slice none 0 0, .slice none 0 0, .slice none 0 0, .int .i64 0] := by kernel_rfl
theorem sz48_ZHash : sizeT E0.P 48 = some 12 := by kernel_rfl
theorem el33_ZHash : elemT E0.P 33 = some 40 := by kernel_rfl
theorem ez40_ZHash : elemZ E0.P 40 = some (1, [.nilFunc]) := by kernel_rfl
theorem fo75_0_ZHash : foff E0.P 75 0 = some 0 := by kernel_rfl
theorem fo75_1_ZHash : foff E0.P 75 1 = some 5 := by kernel_rfl
theorem fo75_2_ZHash : foff E0.P 75 2 = some 6 := by kernel_rfl
theorem fo75_3_ZHash : foff E0.P 75 3 = some 7 := by kernel_rfl
theorem ag75_ZHash : isAggT E0.P 75 = some true := by kernel_rfl
theorem sz75_ZHash : sizeT E0.P 75 = some 8 := by kernel_rfl
theorem el87_ZHash : elemT E0.P 87 = some 84 := by kernel_rfl
theorem ez84_ZHash : elemZ E0.P 84 = some (1, [.nilFunc]) := by kernel_rfl
abbrev ShHash : Sh := .fld 0 (.fld 0 (.num .i64) (.fld 1 (.list 2 (.fld 0 (.num .i64) (.fld 1 (.num .i64) .nil))) (.fld 2 (.list 2 (.fld 0 (.num .i64) (.fld 1 (.num .i64) .nil))) (.fld 3 (.list 1 (.num .i64)) (.fld 4 (.list 1 (.num .i64)) .nil))))) (.fld 5 (.num .i64) (.fld 6 (.num .i64) (.fld 7 (.list 1 (.num .i64)) .nil)))
theorem arg_Hash {H : AHeap} {bx : Nat} {ns : List Int} {ss : List ByteArray} {D : List Nat} (h : Own H ⟨true, true, false⟩ ShHash bx ns ss D) (hl : ns.length ≤ 63000) :
    ∃ (r : Row) (yu0 : Int) (ya1 : Option Addr) (yn1 yc1 : Nat) (yl1 : List (Int × Int)) (ya2 : Option Addr) (yn2 yc2 : Nat) (yl2 : List (Int × Int)) (ya3 : Option Addr) (yn3 yc3 : Nat) (yl3 : List Int) (ya4 : Option Addr) (yn4 yc4 : Nat) (yl4 : List Int) (yu5 : Int) (yu6 : Int) (ya7 : Option Addr) (yn7 yc7 : Nat) (yl7 : List Int), H.row bx = some r ∧ r.cs[0]? = some (.int .i64 yu0) ∧ IntKind.i64.wrap yu0 = yu0 ∧ r.cs[1]? = some (.slice ya1 yn1 yc1) ∧ V EP H ya1 yn1 yc1 yl1 ∧ exactBase ya1 = true ∧ yn1 ≤ 63000 ∧ r.cs[2]? = some (.slice ya2 yn2 yc2) ∧ V EP H ya2 yn2 yc2 yl2 ∧ exactBase ya2 = true ∧ yn2 ≤ 63000 ∧ r.cs[3]? = some (.slice ya3 yn3 yc3) ∧ V (EI .i64) H ya3 yn3 yc3 yl3 ∧ exactBase ya3 = true ∧ yn3 ≤ 63000 ∧ r.cs[4]? = some (.slice ya4 yn4 yc4) ∧ V (EI .i64) H ya4 yn4 yc4 yl4 ∧ exactBase ya4 = true ∧ yn4 ≤ 63000 ∧ r.cs[5]? = some (.int .i64 yu5) ∧ IntKind.i64.wrap yu5 = yu5 ∧ r.cs[6]? = some (.int .i64 yu6) ∧ IntKind.i64.wrap yu6 = yu6 ∧ r.cs[7]? = some (.slice ya7 yn7 yc7) ∧ V (EI .i64) H ya7 yn7 yc7 yl7 ∧ exactBase ya7 = true ∧ yn7 ≤ 63000 := by
  obtain ⟨r, hr, hw, hR⟩ := h.ex
  have hD := h.lD
  obtain ⟨n0, s0, D0, m0, t0, B0, r0, w0, rfl, rfl, rfl⟩ := hR
  obtain ⟨n1, s1, D1, m1, t1, B1, r1, w1, rfl, rfl, rfl⟩ := w0
  obtain ⟨n2, s2, D2, m2, t2, B2, r2, w2, rfl, rfl, rfl⟩ := w1
  obtain ⟨n3, s3, D3, m3, t3, B3, r3, w3, rfl, rfl, rfl⟩ := w2
  obtain ⟨rfl, rfl, rfl⟩ := w3
  obtain ⟨n4, s4, D4, m4, t4, B4, r4, w4, rfl, rfl, rfl⟩ := r0
  obtain ⟨n5, s5, D5, m5, t5, B5, r5, w5, rfl, rfl, rfl⟩ := w4
  obtain ⟨n6, s6, D6, m6, t6, B6, r6, w6, rfl, rfl, rfl⟩ := w5
  obtain ⟨n7, s7, D7, m7, t7, B7, r7, w7, rfl, rfl, rfl⟩ := w6
  obtain ⟨n8, s8, D8, m8, t8, B8, r8, w8, rfl, rfl, rfl⟩ := w7
  obtain ⟨rfl, rfl, rfl⟩ := w8
  obtain ⟨yu0, k4, z4, -⟩ := r4
  obtain ⟨ya1, yn1, yc1, yl1, k5, v5, e5, g5⟩ := rd_list rdP r5 (fun j hj => hD j (by simp only [List.mem_append, hj, true_or, or_true]))
  obtain ⟨ya2, yn2, yc2, yl2, k6, v6, e6, g6⟩ := rd_list rdP r6 (fun j hj => hD j (by simp only [List.mem_append, hj, true_or, or_true]))
  obtain ⟨ya3, yn3, yc3, yl3, k7, v7, e7, g7⟩ := rd_list (rdI .i64) r7 (fun j hj => hD j (by simp only [List.mem_append, hj, true_or, or_true]))
  obtain ⟨ya4, yn4, yc4, yl4, k8, v8, e8, g8⟩ := rd_list (rdI .i64) r8 (fun j hj => hD j (by simp only [List.mem_append, hj, true_or, or_true]))
  obtain ⟨yu5, k1, z1, -⟩ := r1
  obtain ⟨yu6, k2, z2, -⟩ := r2
  obtain ⟨ya7, yn7, yc7, yl7, k3, v3, e3, g3⟩ := rd_list (rdI .i64) r3 (fun j hj => hD j (by simp only [List.mem_append, hj, true_or, or_true]))
  exact ⟨r, yu0, ya1, yn1, yc1, yl1, ya2, yn2, yc2, yl2, ya3, yn3, yc3, yl3, ya4, yn4, yc4, yl4, yu5, yu6, ya7, yn7, yc7, yl7, hr, k4, z4, k5, v5, e5, (by simp only [List.length_append] at hl; omega), k6, v6, e6, (by simp only [List.length_append] at hl; omega), k7, v7, e7, (by simp only [List.length_append] at hl; omega), k8, v8, e8, (by simp only [List.length_append] at hl; omega), k1, z1, k2, z2, k3, v3, e3, (by simp only [List.length_append] at hl; omega)⟩
theorem call_42 : CallOK' E0 3 9 40 42 ShHash := by
  intro H bx ns ss D hO hl1 _
  obtain ⟨r, yu0, ya1, yn1, yc1, yl1, ya2, yn2, yc2, yl2, ya3, yn3, yc3, yl3, ya4, yn4, yc4, yl4, yu5, yu6, ya7, yn7, yc7, yl7, hr, x0, w_u0, x1, h_l1, ex_l1, b_l1, x2, h_l2, ex_l2, b_l2, x3, h_l3, ex_l3, b_l3, x4, h_l4, ex_l4, b_l4, x5, w_u5, x6, w_u6, x7, h_l7, ex_l7, b_l7⟩ := arg_Hash hO hl1
  obtain ⟨lo_u0, hi_u0⟩ := rangei64 w_u0
  obtain ⟨len_l1, cap_l1, max_l1, wf_l1⟩ := h_l1.len
  obtain ⟨len_l2, cap_l2, max_l2, wf_l2⟩ := h_l2.len
  obtain ⟨len_l3, cap_l3, max_l3, wf_l3⟩ := h_l3.len
  obtain ⟨len_l4, cap_l4, max_l4, wf_l4⟩ := h_l4.len
  obtain ⟨lo_u5, hi_u5⟩ := rangei64 w_u5
  obtain ⟨lo_u6, hi_u6⟩ := rangei64 w_u6
  obtain ⟨len_l7, cap_l7, max_l7, wf_l7⟩ := h_l7.len
  have m0 : Mem [] H H [] := Mem.start
  refine WF.kg Tryz.func42 rfl rfl ?_
  refine KC.seq ?_
  refine KC.region ?_
  refine KO.pv (PV.assign rfl) rfl rfl ?_
  refine KO.nil ?_
  refine KC.seq ?_
  refine KC.drawG (n := 21) (anc := [0, 1, 3, 7, 0, 16, 48, 112, 0, 256, 768, 1792, 4095, 8191, 16383, 16383, 16383, 0, 163839, 458751, 1048575]) (hv := [12, 18]) (ord := [0, 1, 2, 3, 4, 5, 6, 7, 8, 9, 10, 11, 12, 13, 14, 17, 18, 15, 16, 19, 20]) (by kernel_rfl) (by kernel_rfl) (by kernel_rfl) (by kernel_rfl) (by kernel_rfl) fun H1 n2 g3 => ?_
  have m4 := m0.room n2 g3 [17] (by decide) (by decide)
  refine KD.pv 1 (PV.move rfl) rfl rfl rfl (by kernel_rfl) rfl rfl rfl ?_
  refine KD.pv 3 (PV.nilCheck rfl) rfl rfl rfl (by kernel_rfl) rfl rfl rfl ?_
  refine KD.pv 7 (PV.fieldAddr fo75_0_ZHash rfl) rfl rfl rfl (by kernel_rfl) rfl rfl rfl ?_
  refine KD.load 15 rfl (m4.row0 hO.lb hr) (readN ag26_ZHash sz26_ZHash (takeN_cons x0 (takeN_cons x1 (takeN_cons x2 (takeN_cons x3 (takeN_cons x4 takeN_nil)))))) (pastGo (k := 1) (l := [H1]) (by kernel_rfl) rfl (pastCons ⟨_, (m4.row0 hO.lb hr), (readN ag26_ZHash sz26_ZHash (takeN_cons x0 (takeN_cons x1 (takeN_cons x2 (takeN_cons x3 (takeN_cons x4 takeN_nil))))))⟩ pastNil)) (veq_agg (veqCons veqI (veqCons veqS (veqCons veqS (veqCons veqS (veqCons veqS veqNil)))))) rfl (by kernel_rfl) rfl rfl rfl ?_
  refine KD.pv 31 (PV.move rfl) rfl rfl rfl (by kernel_rfl) rfl rfl rfl ?_
  refine KD.pv 63 (PV.nilCheck rfl) rfl rfl rfl (by kernel_rfl) rfl rfl rfl ?_
  refine KD.pv 127 (PV.fieldAddr fo75_1_ZHash rfl) rfl rfl rfl (by kernel_rfl) rfl rfl rfl ?_
  refine KD.load 255 rfl (m4.row0 hO.lb hr) (by rw [read1 ag3_ZHash]; exact x5) (pastGo (k := 1) (l := [H1]) (by kernel_rfl) rfl (pastCons ⟨_, (m4.row0 hO.lb hr), (by rw [read1 ag3_ZHash]; exact x5)⟩ pastNil)) veq_int rfl (by kernel_rfl) rfl rfl rfl ?_
  refine KD.pv 511 (PV.move rfl) rfl rfl rfl (by kernel_rfl) rfl rfl rfl ?_
  refine KD.pv 1023 (PV.nilCheck rfl) rfl rfl rfl (by kernel_rfl) rfl rfl rfl ?_
  refine KD.pv 2047 (PV.fieldAddr fo75_2_ZHash rfl) rfl rfl rfl (by kernel_rfl) rfl rfl rfl ?_
  refine KD.load 4095 rfl (m4.row0 hO.lb hr) (by rw [read1 ag3_ZHash]; exact x6) (pastGo (k := 1) (l := [H1]) (by kernel_rfl) rfl (pastCons ⟨_, (m4.row0 hO.lb hr), (by rw [read1 ag3_ZHash]; exact x6)⟩ pastNil)) veq_int rfl (by kernel_rfl) rfl rfl rfl ?_
  refine KD.call 8191 rfl rfl rfl (by kernel_rfl) rfl rfl rfl (hash_Gate H1 yu0 ya1 yn1 yc1 _ ya2 yn2 yc2 _ ya3 yn3 yc3 _ ya4 yn4 yc4 _ yu5 yu6 (wrap64 (by omega) (by omega)) (V.mem m4 h_l1) (V.mem m4 h_l2) (V.mem m4 h_l3) (V.mem m4 h_l4) (wrap64 (by omega) (by omega)) (wrap64 (by omega) (by omega))) fun v5 H5 q5 => ?_
  obtain ⟨r05, r1a5, r1n5, r1c5, r15, r1D5, r2a5, r2n5, r2c5, r25, r2D5, r3a5, r3n5, r3c5, r35, r3D5, r4a5, r4n5, r4c5, r45, r4D5, l5, e5, hv5, mc5, p5_0, p5_1, p5_2⟩ := q5
  dsimp only at hv5 mc5
  subst hv5
  have m6 := m4.seq mc5
  refine KD.pv 16383 (PV.move rfl) rfl rfl rfl (by kernel_rfl) rfl rfl rfl ?_
  refine KD.pv 32767 (PV.extract rfl rfl) rfl rfl rfl (by kernel_rfl) rfl rfl rfl ?_
  refine KD.allocM 163839 m6 (j := 4) rfl zt26_ZHash rfl (by kernel_rfl) rfl rfl rfl fun H7 m8 => ?_
  refine KD.storeM 425983 m8 (j := 4) rfl sz26_ZHash rfl rfl rfl (show 0 + 5 ≤ 5 by decide) (show _ = [.int .i64 r05, .slice r1a5 r1n5 r1c5, .slice r2a5 r2n5 r2c5, .slice r3a5 r3n5 r3c5, .slice r4a5 r4n5 r4c5] from rfl) rfl (by kernel_rfl) rfl rfl fun H9 m10 => ?_
  refine KD.pv 458751 (PV.extract rfl rfl) rfl rfl rfl (by kernel_rfl) rfl rfl rfl ?_
  refine KD.pv 524287 (PV.extract rfl rfl) rfl rfl rfl (by kernel_rfl) rfl rfl rfl ?_
  refine KD.pv 1048575 (PV.assign rfl) rfl rfl rfl (by kernel_rfl) rfl rfl rfl ?_
  refine KD.pv 2097151 (PV.assign rfl) rfl rfl rfl (by kernel_rfl) rfl rfl rfl ?_
  refine KD.nil ⟨rfl, ?_⟩
  refine KC.seq ?_
  refine KC.region ?_
  refine KO.pv (PV.makeFunc rfl rfl) rfl rfl ?_
  refine KO.buildSliceM m10 el33_ZHash ez40_ZHash rfl rfl (show _ = some [.func (.func 44) #[] #[.pointer (some ⟨(H.next + 17), 0, none⟩)]] from rfl) rfl rfl fun H11 m12 => ?_
  refine KO.pv (PV.assign rfl) rfl rfl ?_
  refine KO.nil ?_
  obtain ⟨nr13, rd13, ln13, lm13⟩ := OwnV.rd rdP (m12.res (i := 1) rfl) (cs := [.int .i64 r05, .slice r1a5 r1n5 r1c5, .slice r2a5 r2n5 r2c5, .slice r3a5 r3n5 r3c5, .slice r4a5 r4n5 r4c5]) (o := 1) rfl
  obtain ⟨nr14, rd14, ln14, lm14⟩ := OwnV.rd rdP (m12.res (i := 2) rfl) (cs := [.int .i64 r05, .slice r1a5 r1n5 r1c5, .slice r2a5 r2n5 r2c5, .slice r3a5 r3n5 r3c5, .slice r4a5 r4n5 r4c5]) (o := 2) rfl
  obtain ⟨nr15, rd15, ln15, lm15⟩ := OwnV.rd (rdI .i64) (m12.res (i := 3) rfl) (cs := [.int .i64 r05, .slice r1a5 r1n5 r1c5, .slice r2a5 r2n5 r2c5, .slice r3a5 r3n5 r3c5, .slice r4a5 r4n5 r4c5]) (o := 3) rfl
  obtain ⟨nr16, rd16, ln16, lm16⟩ := OwnV.rd (rdI .i64) (m12.res (i := 4) rfl) (cs := [.int .i64 r05, .slice r1a5 r1n5 r1c5, .slice r2a5 r2n5 r2c5, .slice r3a5 r3n5 r3c5, .slice r4a5 r4n5 r4c5]) (o := 4) rfl
  exact KC.ret ⟨rfl, _, (.tmp rfl .nil), call_one (m12.pick [0, 5, 1, 2, 3, 4] (by decide) rfl) rfl (see_44 9) ⟨_, _, _, _, _, _, ⟨_, rfl, (wrap64 (by omega) (by omega)), rfl, rfl, rfl⟩, ⟨_, _, _, _, _, _, rd13, ⟨_, _, _, _, _, _, rd14, ⟨_, _, _, _, _, _, rd15, ⟨_, _, _, _, _, _, rd16, ⟨rfl, rfl, rfl⟩, rfl, rfl, rfl⟩, rfl, rfl, rfl⟩, rfl, rfl, rfl⟩, rfl, rfl, rfl⟩, rfl, rfl, rfl⟩ (by simp [R.own, R.inn, pickL]) (by simp only [List.length_append, List.length_cons, List.length_nil] <;> omega) (by simp)⟩
theorem call_46 : CallOK' E0 3 9 40 46 ShHash := by
  intro H bx ns ss D hO hl1 _
  obtain ⟨r, yu0, ya1, yn1, yc1, yl1, ya2, yn2, yc2, yl2, ya3, yn3, yc3, yl3, ya4, yn4, yc4, yl4, yu5, yu6, ya7, yn7, yc7, yl7, hr, x0, w_u0, x1, h_l1, ex_l1, b_l1, x2, h_l2, ex_l2, b_l2, x3, h_l3, ex_l3, b_l3, x4, h_l4, ex_l4, b_l4, x5, w_u5, x6, w_u6, x7, h_l7, ex_l7, b_l7⟩ := arg_Hash hO hl1
  obtain ⟨lo_u0, hi_u0⟩ := rangei64 w_u0
  obtain ⟨len_l1, cap_l1, max_l1, wf_l1⟩ := h_l1.len
  obtain ⟨len_l2, cap_l2, max_l2, wf_l2⟩ := h_l2.len
  obtain ⟨len_l3, cap_l3, max_l3, wf_l3⟩ := h_l3.len
  obtain ⟨len_l4, cap_l4, max_l4, wf_l4⟩ := h_l4.len
  obtain ⟨lo_u5, hi_u5⟩ := rangei64 w_u5
  obtain ⟨lo_u6, hi_u6⟩ := rangei64 w_u6
  obtain ⟨len_l7, cap_l7, max_l7, wf_l7⟩ := h_l7.len
  have m0 : Mem [] H H [] := Mem.start
  refine WF.kg Tryz.func46 rfl rfl ?_
  refine KC.seq ?_
  refine KC.region ?_
  refine KO.pv (PV.assign rfl) rfl rfl ?_
  refine KO.nil ?_
  refine KC.seq ?_
  refine KC.drawG (n := 18) (anc := [0, 1, 3, 7, 0, 16, 48, 112, 255, 511, 1023, 1023, 1023, 0, 0, 26623, 61439, 131071]) (hv := [8, 15, 16]) (ord := [0, 1, 2, 3, 4, 5, 6, 7, 8, 9, 10, 13, 14, 15, 11, 16, 12, 17]) (by kernel_rfl) (by kernel_rfl) (by kernel_rfl) (by kernel_rfl) (by kernel_rfl) fun H1 n2 g3 => ?_
  have m4 := m0.room n2 g3 [13, 14] (by decide) (by decide)
  refine KD.pv 1 (PV.move rfl) rfl rfl rfl (by kernel_rfl) rfl rfl rfl ?_
  refine KD.pv 3 (PV.nilCheck rfl) rfl rfl rfl (by kernel_rfl) rfl rfl rfl ?_
  refine KD.pv 7 (PV.fieldAddr fo75_0_ZHash rfl) rfl rfl rfl (by kernel_rfl) rfl rfl rfl ?_
  refine KD.load 15 rfl (m4.row0 hO.lb hr) (readN ag26_ZHash sz26_ZHash (takeN_cons x0 (takeN_cons x1 (takeN_cons x2 (takeN_cons x3 (takeN_cons x4 takeN_nil)))))) (pastGo (k := 1) (l := [H1]) (by kernel_rfl) rfl (pastCons ⟨_, (m4.row0 hO.lb hr), (readN ag26_ZHash sz26_ZHash (takeN_cons x0 (takeN_cons x1 (takeN_cons x2 (takeN_cons x3 (takeN_cons x4 takeN_nil))))))⟩ pastNil)) (veq_agg (veqCons veqI (veqCons veqS (veqCons veqS (veqCons veqS (veqCons veqS veqNil)))))) rfl (by kernel_rfl) rfl rfl rfl ?_
  refine KD.pv 31 (PV.move rfl) rfl rfl rfl (by kernel_rfl) rfl rfl rfl ?_
  refine KD.pv 63 (PV.nilCheck rfl) rfl rfl rfl (by kernel_rfl) rfl rfl rfl ?_
  refine KD.pv 127 (PV.fieldAddr fo75_3_ZHash rfl) rfl rfl rfl (by kernel_rfl) rfl rfl rfl ?_
  refine KD.load 255 rfl (m4.row0 hO.lb hr) (by rw [read1 ag24_ZHash]; exact x7) (pastGo (k := 1) (l := [H1]) (by kernel_rfl) rfl (pastCons ⟨_, (m4.row0 hO.lb hr), (by rw [read1 ag24_ZHash]; exact x7)⟩ pastNil)) veq_sl rfl (by kernel_rfl) rfl rfl rfl ?_
  refine KD.call 511 rfl rfl rfl (by kernel_rfl) rfl rfl rfl (hash_Build H1 yu0 ya1 yn1 yc1 _ ya2 yn2 yc2 _ ya3 yn3 yc3 _ ya4 yn4 yc4 _ ya7 yn7 yc7 _ (wrap64 (by omega) (by omega)) (V.mem m4 h_l1) (V.mem m4 h_l2) (V.mem m4 h_l3) (V.mem m4 h_l4) (V.mem m4 h_l7)) fun v5 H5 q5 => ?_
  obtain ⟨r05, r1a5, r1n5, r1c5, r15, r1D5, r2a5, r2n5, r2c5, r25, r2D5, r3a5, r3n5, r3c5, r35, r3D5, r4a5, r4n5, r4c5, r45, r4D5, ta5, tn5, tc5, t5, tD5, e5, hv5, mc5, p5_0, p5_1, p5_2⟩ := q5
  dsimp only at hv5 mc5
  subst hv5
  have m6 := m4.seq mc5
  refine KD.pv 1023 (PV.move rfl) rfl rfl rfl (by kernel_rfl) rfl rfl rfl ?_
  refine KD.pv 2047 (PV.extract rfl rfl) rfl rfl rfl (by kernel_rfl) rfl rfl rfl ?_
  refine KD.allocM 10239 m6 (j := 5) rfl zt26_ZHash rfl (by kernel_rfl) rfl rfl rfl fun H7 m8 => ?_
  refine KD.allocM 26623 m8 (j := 6) rfl zt24_ZHash rfl (by kernel_rfl) rfl rfl rfl fun H9 m10 => ?_
  refine KD.storeM 59391 m10 (j := 5) rfl sz26_ZHash rfl rfl rfl (show 0 + 5 ≤ 5 by decide) (show _ = [.int .i64 r05, .slice r1a5 r1n5 r1c5, .slice r2a5 r2n5 r2c5, .slice r3a5 r3n5 r3c5, .slice r4a5 r4n5 r4c5] from rfl) rfl (by kernel_rfl) rfl rfl fun H11 m12 => ?_
  refine KD.pv 61439 (PV.extract rfl rfl) rfl rfl rfl (by kernel_rfl) rfl rfl rfl ?_
  refine KD.storeM 126975 m12 (j := 6) rfl sz24_ZHash rfl rfl rfl (show 0 + 1 ≤ 1 by decide) (show _ = [.slice ta5 tn5 tc5] from rfl) rfl (by kernel_rfl) rfl rfl fun H13 m14 => ?_
  refine KD.pv 131071 (PV.extract rfl rfl) rfl rfl rfl (by kernel_rfl) rfl rfl rfl ?_
  refine KD.pv 262143 (PV.assign rfl) rfl rfl rfl (by kernel_rfl) rfl rfl rfl ?_
  refine KD.nil ⟨rfl, ?_⟩
  refine KC.seq ?_
  refine KC.region ?_
  refine KO.pv (PV.makeFunc rfl rfl) rfl rfl ?_
  refine KO.pv (PV.makeFunc rfl rfl) rfl rfl ?_
  refine KO.buildSliceM m14 el33_ZHash ez40_ZHash rfl rfl (show _ = some [.func (.func 48) #[] #[.pointer (some ⟨(H.next + 13), 0, none⟩)], .func (.func 49) #[] #[.pointer (some ⟨(H.next + 14), 0, none⟩)]] from rfl) rfl rfl fun H15 m16 => ?_
  refine KO.pv (PV.assign rfl) rfl rfl ?_
  refine KO.nil ?_
  obtain ⟨nr17, rd17, ln17, lm17⟩ := OwnV.rd rdP (m16.res (i := 1) rfl) (cs := [.int .i64 r05, .slice r1a5 r1n5 r1c5, .slice r2a5 r2n5 r2c5, .slice r3a5 r3n5 r3c5, .slice r4a5 r4n5 r4c5]) (o := 1) rfl
  obtain ⟨nr18, rd18, ln18, lm18⟩ := OwnV.rd rdP (m16.res (i := 2) rfl) (cs := [.int .i64 r05, .slice r1a5 r1n5 r1c5, .slice r2a5 r2n5 r2c5, .slice r3a5 r3n5 r3c5, .slice r4a5 r4n5 r4c5]) (o := 2) rfl
  obtain ⟨nr19, rd19, ln19, lm19⟩ := OwnV.rd (rdI .i64) (m16.res (i := 3) rfl) (cs := [.int .i64 r05, .slice r1a5 r1n5 r1c5, .slice r2a5 r2n5 r2c5, .slice r3a5 r3n5 r3c5, .slice r4a5 r4n5 r4c5]) (o := 3) rfl
  obtain ⟨nr20, rd20, ln20, lm20⟩ := OwnV.rd (rdI .i64) (m16.res (i := 4) rfl) (cs := [.int .i64 r05, .slice r1a5 r1n5 r1c5, .slice r2a5 r2n5 r2c5, .slice r3a5 r3n5 r3c5, .slice r4a5 r4n5 r4c5]) (o := 4) rfl
  obtain ⟨nr21, rd21, ln21, lm21⟩ := OwnV.rd (rdI .i64) (m16.res (i := 5) rfl) (cs := [.slice ta5 tn5 tc5]) (o := 0) rfl
  exact KC.ret ⟨rfl, _, (.tmp rfl .nil), call_two (L1 := [R.own EP r1a5 r1n5 r1c5 r15 r1D5, R.own EP r2a5 r2n5 r2c5 r25 r2D5, R.own (EI .i64) r3a5 r3n5 r3c5 r35 r3D5, R.own (EI .i64) r4a5 r4n5 r4c5 r45 r4D5]) (L2 := [R.own (EI .i64) ta5 tn5 tc5 t5 tD5]) (m16.pick [0, 6, 7, 1, 2, 3, 4, 5] (by decide) rfl) rfl rfl (see_48 9) (see_49 9) ⟨_, _, _, _, _, _, ⟨_, rfl, (wrap64 (by omega) (by omega)), rfl, rfl, rfl⟩, ⟨_, _, _, _, _, _, rd17, ⟨_, _, _, _, _, _, rd18, ⟨_, _, _, _, _, _, rd19, ⟨_, _, _, _, _, _, rd20, ⟨rfl, rfl, rfl⟩, rfl, rfl, rfl⟩, rfl, rfl, rfl⟩, rfl, rfl, rfl⟩, rfl, rfl, rfl⟩, rfl, rfl, rfl⟩ rd21 (by simp [R.own, R.inn]) (by simp [R.own, R.inn]) (by simp only [List.length_append, List.length_cons, List.length_nil] <;> omega) (by simp) (by omega) (by simp)⟩
theorem call_50 : CallOK' E0 3 9 40 50 ShHash := by
  intro H bx ns ss D hO hl1 _
  obtain ⟨r, yu0, ya1, yn1, yc1, yl1, ya2, yn2, yc2, yl2, ya3, yn3, yc3, yl3, ya4, yn4, yc4, yl4, yu5, yu6, ya7, yn7, yc7, yl7, hr, x0, w_u0, x1, h_l1, ex_l1, b_l1, x2, h_l2, ex_l2, b_l2, x3, h_l3, ex_l3, b_l3, x4, h_l4, ex_l4, b_l4, x5, w_u5, x6, w_u6, x7, h_l7, ex_l7, b_l7⟩ := arg_Hash hO hl1
  obtain ⟨lo_u0, hi_u0⟩ := rangei64 w_u0
  obtain ⟨len_l1, cap_l1, max_l1, wf_l1⟩ := h_l1.len
  obtain ⟨len_l2, cap_l2, max_l2, wf_l2⟩ := h_l2.len
  obtain ⟨len_l3, cap_l3, max_l3, wf_l3⟩ := h_l3.len
  obtain ⟨len_l4, cap_l4, max_l4, wf_l4⟩ := h_l4.len
  obtain ⟨lo_u5, hi_u5⟩ := rangei64 w_u5
  obtain ⟨lo_u6, hi_u6⟩ := rangei64 w_u6
  obtain ⟨len_l7, cap_l7, max_l7, wf_l7⟩ := h_l7.len
  have m0 : Mem [] H H [] := Mem.start
  refine WF.kg Tryz.func50 rfl rfl ?_
  refine KC.seq ?_
  refine KC.region ?_
  refine KO.pv (PV.assign rfl) rfl rfl ?_
  refine KO.nil ?_
  refine KC.seq ?_
  refine KC.region ?_
  refine KO.pv (PV.move rfl) rfl rfl ?_
  refine KO.pv (PV.nilCheck rfl) rfl rfl ?_
  refine KO.pv (PV.fieldAddr fo75_0_ZHash rfl) rfl rfl ?_
  refine KO.loadN ag26_ZHash sz26_ZHash rfl (m0.row0 hO.lb hr) (takeN_cons x0 (takeN_cons x1 (takeN_cons x2 (takeN_cons x3 (takeN_cons x4 takeN_nil))))) rfl rfl ?_
  refine KO.call rfl rfl rfl rfl (hash_Pass H yu0 ya1 yn1 yc1 _ ya2 yn2 yc2 _ ya3 yn3 yc3 _ ya4 yn4 yc4 _ (wrap64 (by omega) (by omega)) (V.mem m0 h_l1) (V.mem m0 h_l2) (V.mem m0 h_l3) (V.mem m0 h_l4)) fun v1 H1 q1 => ?_
  obtain ⟨r01, r1a1, r1n1, r1c1, r11, r1D1, r2a1, r2n1, r2c1, r21, r2D1, r3a1, r3n1, r3c1, r31, r3D1, r4a1, r4n1, r4c1, r41, r4D1, r51, r61, r7a1, r7n1, r7c1, r71, r7D1, r8a1, r8n1, r8c1, r8v1, r8D1, r81, r8E1, r9a1, r9n1, r9c1, r91, r9D1, r10a1, r10n1, r10c1, r101, r10D1, r111, e1, hv1, mc1, p1_0, p1_1, p1_2, p1_3⟩ := q1
  dsimp only at hv1 mc1
  subst hv1
  have m2 := m0.seq mc1
  refine KO.pv (PV.move rfl) rfl rfl ?_
  refine KO.pv (PV.extract rfl rfl) rfl rfl ?_
  refine KO.pv (PV.extract rfl rfl) rfl rfl ?_
  refine KO.allocM m2 zt48_ZHash rfl rfl fun H3 m4 => ?_
  refine KO.storeM m4 (i := 0) rfl sz48_ZHash rfl rfl rfl (show 0 + 12 ≤ 12 by decide) (show _ = [.int .i64 r01, .slice r1a1 r1n1 r1c1, .slice r2a1 r2n1 r2c1, .slice r3a1 r3n1 r3c1, .slice r4a1 r4n1 r4c1, .int .i64 r51, .int .i64 r61, .slice r7a1 r7n1 r7c1, .slice r8a1 r8n1 r8c1, .slice r9a1 r9n1 r9c1, .slice r10a1 r10n1 r10c1, .int .i64 r111] from rfl) rfl fun H5 m6 => ?_
  refine KO.pv (PV.assign rfl) rfl rfl ?_
  refine KO.nil ?_
  refine KC.seq ?_
  refine KC.region ?_
  refine KO.pv (PV.makeFunc rfl rfl) rfl rfl ?_
  refine KO.buildSliceM m6 el33_ZHash ez40_ZHash rfl rfl (show _ = some [.func (.func 52) #[] #[.pointer (some ⟨H1.next, 0, none⟩)]] from rfl) rfl rfl fun H7 m8 => ?_
  refine KO.pv (PV.assign rfl) rfl rfl ?_
  refine KO.nil ?_
  obtain ⟨nr9, rd9, ln9, lm9⟩ := OwnV.rd rdP (m8.res (i := 2) rfl) (cs := [.int .i64 r01, .slice r1a1 r1n1 r1c1, .slice r2a1 r2n1 r2c1, .slice r3a1 r3n1 r3c1, .slice r4a1 r4n1 r4c1, .int .i64 r51, .int .i64 r61, .slice r7a1 r7n1 r7c1, .slice r8a1 r8n1 r8c1, .slice r9a1 r9n1 r9c1, .slice r10a1 r10n1 r10c1, .int .i64 r111]) (o := 1) rfl
  obtain ⟨nr10, rd10, ln10, lm10⟩ := OwnV.rd rdP (m8.res (i := 3) rfl) (cs := [.int .i64 r01, .slice r1a1 r1n1 r1c1, .slice r2a1 r2n1 r2c1, .slice r3a1 r3n1 r3c1, .slice r4a1 r4n1 r4c1, .int .i64 r51, .int .i64 r61, .slice r7a1 r7n1 r7c1, .slice r8a1 r8n1 r8c1, .slice r9a1 r9n1 r9c1, .slice r10a1 r10n1 r10c1, .int .i64 r111]) (o := 2) rfl
  obtain ⟨nr11, rd11, ln11, lm11⟩ := OwnV.rd (rdI .i64) (m8.res (i := 4) rfl) (cs := [.int .i64 r01, .slice r1a1 r1n1 r1c1, .slice r2a1 r2n1 r2c1, .slice r3a1 r3n1 r3c1, .slice r4a1 r4n1 r4c1, .int .i64 r51, .int .i64 r61, .slice r7a1 r7n1 r7c1, .slice r8a1 r8n1 r8c1, .slice r9a1 r9n1 r9c1, .slice r10a1 r10n1 r10c1, .int .i64 r111]) (o := 3) rfl
  obtain ⟨nr12, rd12, ln12, lm12⟩ := OwnV.rd (rdI .i64) (m8.res (i := 5) rfl) (cs := [.int .i64 r01, .slice r1a1 r1n1 r1c1, .slice r2a1 r2n1 r2c1, .slice r3a1 r3n1 r3c1, .slice r4a1 r4n1 r4c1, .int .i64 r51, .int .i64 r61, .slice r7a1 r7n1 r7c1, .slice r8a1 r8n1 r8c1, .slice r9a1 r9n1 r9c1, .slice r10a1 r10n1 r10c1, .int .i64 r111]) (o := 4) rfl
  obtain ⟨nr13, rd13, ln13, lm13⟩ := OwnV.rd (rdI .i64) (m8.res (i := 6) rfl) (cs := [.int .i64 r01, .slice r1a1 r1n1 r1c1, .slice r2a1 r2n1 r2c1, .slice r3a1 r3n1 r3c1, .slice r4a1 r4n1 r4c1, .int .i64 r51, .int .i64 r61, .slice r7a1 r7n1 r7c1, .slice r8a1 r8n1 r8c1, .slice r9a1 r9n1 r9c1, .slice r10a1 r10n1 r10c1, .int .i64 r111]) (o := 7) rfl
  obtain ⟨nr14, rd14, ln14⟩ := InnOK.rd (rdI .i64) (m8.res (i := 7) rfl) (m8.res (i := 8) rfl) (cs := [.int .i64 r01, .slice r1a1 r1n1 r1c1, .slice r2a1 r2n1 r2c1, .slice r3a1 r3n1 r3c1, .slice r4a1 r4n1 r4c1, .int .i64 r51, .int .i64 r61, .slice r7a1 r7n1 r7c1, .slice r8a1 r8n1 r8c1, .slice r9a1 r9n1 r9c1, .slice r10a1 r10n1 r10c1, .int .i64 r111]) (o := 8) rfl
  have lt14 := total_le (xss := r81) (k := 1000) (by first | assumption | exact all_nil)
  have li14 := m8.innLen (i := 8) rfl
  have lo14 := m8.ownLen (i := 7) rfl
  obtain ⟨nr15, rd15, ln15, lm15⟩ := OwnV.rd (rdI .i64) (m8.res (i := 9) rfl) (cs := [.int .i64 r01, .slice r1a1 r1n1 r1c1, .slice r2a1 r2n1 r2c1, .slice r3a1 r3n1 r3c1, .slice r4a1 r4n1 r4c1, .int .i64 r51, .int .i64 r61, .slice r7a1 r7n1 r7c1, .slice r8a1 r8n1 r8c1, .slice r9a1 r9n1 r9c1, .slice r10a1 r10n1 r10c1, .int .i64 r111]) (o := 9) rfl
  obtain ⟨nr16, rd16, ln16, lm16⟩ := OwnV.rd rdP (m8.res (i := 10) rfl) (cs := [.int .i64 r01, .slice r1a1 r1n1 r1c1, .slice r2a1 r2n1 r2c1, .slice r3a1 r3n1 r3c1, .slice r4a1 r4n1 r4c1, .int .i64 r51, .int .i64 r61, .slice r7a1 r7n1 r7c1, .slice r8a1 r8n1 r8c1, .slice r9a1 r9n1 r9c1, .slice r10a1 r10n1 r10c1, .int .i64 r111]) (o := 10) rfl
  exact KC.ret ⟨rfl, _, (.tmp rfl .nil), call_one (m8.pick [0, 1, 2, 3, 4, 5, 6, 7, 8, 9, 10] (by decide) rfl) rfl (see_52 9) ⟨_, _, _, _, _, _, ⟨_, _, _, _, _, _, ⟨_, rfl, (wrap64 (by omega) (by omega)), rfl, rfl, rfl⟩, ⟨_, _, _, _, _, _, rd9, ⟨_, _, _, _, _, _, rd10, ⟨_, _, _, _, _, _, rd11, ⟨_, _, _, _, _, _, rd12, ⟨rfl, rfl, rfl⟩, rfl, rfl, rfl⟩, rfl, rfl, rfl⟩, rfl, rfl, rfl⟩, rfl, rfl, rfl⟩, rfl, rfl, rfl⟩, ⟨_, _, _, _, _, _, ⟨_, _, _, _, _, _, ⟨_, rfl, (wrap64 (by omega) (by omega)), rfl, rfl, rfl⟩, ⟨_, _, _, _, _, _, ⟨_, rfl, (wrap64 (by omega) (by omega)), rfl, rfl, rfl⟩, ⟨_, _, _, _, _, _, rd13, ⟨_, _, _, _, _, _, rd14, ⟨_, _, _, _, _, _, rd15, ⟨_, _, _, _, _, _, ⟨_, _, _, _, _, _, rd16, ⟨_, _, _, _, _, _, ⟨_, rfl, (wrap64 (by omega) (by omega)), rfl, rfl, rfl⟩, ⟨rfl, rfl, rfl⟩, rfl, rfl, rfl⟩, rfl, rfl, rfl⟩, ⟨rfl, rfl, rfl⟩, rfl, rfl, rfl⟩, rfl, rfl, rfl⟩, rfl, rfl, rfl⟩, rfl, rfl, rfl⟩, rfl, rfl, rfl⟩, rfl, rfl, rfl⟩, ⟨rfl, rfl, rfl⟩, rfl, rfl, rfl⟩, rfl, rfl, rfl⟩ (by simp [R.own, R.inn, pickL]) (by simp only [List.length_append, List.length_cons, List.length_nil] <;> omega) (by simp)⟩
theorem top_6 (w : Bool × Bool) (hwS : Sh.bools (.fld 0 (.fld 0 (.num .i64) (.fld 1 (.list 2 (.fld 0 (.num .i64) (.fld 1 (.num .i64) .nil))) (.fld 2 (.list 2 (.fld 0 (.num .i64) (.fld 1 (.num .i64) .nil))) (.fld 3 (.list 1 (.num .i64)) (.fld 4 (.list 1 (.num .i64)) .nil))))) (.fld 5 (.num .i64) (.fld 6 (.num .i64) (.fld 7 (.list 1 (.num .i64)) .nil)))) = true → w.1 = true) (H : AHeap) (cs : List Value) (ns : List Int) (ss : List ByteArray) (D : List Nat) (hcl : cs.length = 8) (hone : cs.all oneC = true) (hR : Rd H ⟨false, w.1, w.2⟩ (.fld 0 (.fld 0 (.num .i64) (.fld 1 (.list 2 (.fld 0 (.num .i64) (.fld 1 (.num .i64) .nil))) (.fld 2 (.list 2 (.fld 0 (.num .i64) (.fld 1 (.num .i64) .nil))) (.fld 3 (.list 1 (.num .i64)) (.fld 4 (.list 1 (.num .i64)) .nil))))) (.fld 5 (.num .i64) (.fld 6 (.num .i64) (.fld 7 (.list 1 (.num .i64)) .nil)))) cs 0 ns ss D) (hD : ∀ j ∈ D, j < H.next) (l1 : ns.length ≤ 10000000) (l2 : ss.length ≤ 10000000) :
    WF E0 6 [.agg cs.toArray] H fun q => q.1 = .bool true := by
  have hcalls : ∀ f ∈ ([42, 46, 50] : List FuncId), CallOK' E0 3 9 40 f (.fld 0 (.fld 0 (.num .i64) (.fld 1 (.list 2 (.fld 0 (.num .i64) (.fld 1 (.num .i64) .nil))) (.fld 2 (.list 2 (.fld 0 (.num .i64) (.fld 1 (.num .i64) .nil))) (.fld 3 (.list 1 (.num .i64)) (.fld 4 (.list 1 (.num .i64)) .nil))))) (.fld 5 (.num .i64) (.fld 6 (.num .i64) (.fld 7 (.list 1 (.num .i64)) .nil)))) ∧ E0.ext f = none := by
    intro f hf
    simp only [List.mem_cons, List.not_mem_nil, or_false] at hf
    rcases hf with rfl | rfl | rfl
    · exact ⟨call_42, rfl⟩
    · exact ⟨call_46, rfl⟩
    · exact ⟨call_50, rfl⟩
  refine WF.k Tryz.func6 rfl rfl ?_
  refine KC.seq (KC.region ?_)
  refine KO.box (rfl) ((boxAgg hone)) rfl rfl fun G0 u0 => ?_
  refine KO.pv (PV.assign rfl) rfl rfl ?_
  refine KO.nil ?_
  rw [show cellsV (.agg cs.toArray) = cs by simp [cellsV]] at u0
  have hX : G0.row H.next = some ⟨75, true, true, cs⟩ := by rw [u0.row, if_pos rfl]
  have hn0 := u0.next
  refine KC.seq (KC.region ?_)
  refine KO.loadN ag75_ZHash sz75_ZHash rfl (hX) ((takeN_of (p := cs) (by rw [List.drop_zero, ← hcl, List.take_length]) hcl)) rfl rfl ?_
  refine KO.buildSlice el87_ZHash ez84_ZHash rfl rfl (rfl) rfl rfl fun G1 u1 => ?_
  refine KO.call rfl rfl rfl rfl (apart_39 (own := 40) (see := 41) (calls := [42, 46, 50]) own_40 (see_41 9) hcalls rfl rfl (by decide) G1 cs ns ss D hcl hone w hwS (hR.frame fun j hj => by have := hD j hj; rw [u1.row, if_neg (by omega), u0.row, if_neg (by omega)]) (fun j hj => by have := hD j hj; rw [u1.next]; omega) l1 l2 G0.next (by rw [u1.row, if_pos rfl]; rfl) (by rw [u1.next]; omega)) fun v2 G2 q2 => ?_
  dsimp only at q2
  subst q2
  refine KO.pv (PV.move rfl) rfl rfl ?_
  refine KO.call rfl rfl rfl rfl (WF.sum (Q := fun q => q.1 = .bool true) rfl rfl) fun v3 G3 q3 => ?_
  dsimp only at q3
  subst q3
  refine KO.pv (PV.pickT rfl rfl rfl) rfl rfl ?_
  refine KO.pv (PV.assign rfl) rfl rfl ?_
  refine KO.nil ?_
  exact KC.ret ⟨rfl, _, rfl, rfl⟩
end Go.Eng

namespace Go.Eng
open Go Go.Proofs
theorem cells75_Hash : Tryz.prog.cellsOf 75 = 8 := by kernel_rfl
theorem cells24_Hash : Tryz.prog.cellsOf 24 = 1 := by kernel_rfl
theorem cells3_Hash : Tryz.prog.cellsOf 3 = 1 := by kernel_rfl
theorem cells26_Hash : Tryz.prog.cellsOf 26 = 5 := by kernel_rfl
theorem cells23_Hash : Tryz.prog.cellsOf 23 = 1 := by kernel_rfl
theorem cells145_Hash : Tryz.prog.cellsOf 145 = 2 := by kernel_rfl
theorem cells22_Hash : Tryz.prog.cellsOf 22 = 1 := by kernel_rfl
theorem cells147_Hash : Tryz.prog.cellsOf 147 = 2 := by kernel_rfl
theorem fits24_Hash : Fits Tryz.prog (.list 1 (.num .i64)) 24 := ⟨3, Tryz.underlying24, cells3_Hash, by decide, by decide, by decide, .inl Tryz.underlying3⟩
theorem fits23_Hash : Fits Tryz.prog (.list 2 (.fld 0 (.num .i64) (.fld 1 (.num .i64) .nil))) 23 := ⟨145, Tryz.underlying23, cells145_Hash, by decide, by decide, by decide, .inr ⟨_, Tryz.underlying145, by
    rw [cells145_Hash]
    refine ⟨_, _, rfl, rfl, rfl, ⟨_, _, rfl, ?_, ?_, ⟨rfl, ?_⟩, .inl Tryz.underlying3⟩, .inl Tryz.underlying3⟩ <;> simp only [cells3_Hash]⟩⟩
theorem fits22_Hash : Fits Tryz.prog (.list 2 (.fld 0 (.num .i64) (.fld 1 (.num .i64) .nil))) 22 := ⟨147, Tryz.underlying22, cells147_Hash, by decide, by decide, by decide, .inr ⟨_, Tryz.underlying147, by
    rw [cells147_Hash]
    refine ⟨_, _, rfl, rfl, rfl, ⟨_, _, rfl, ?_, ?_, ⟨rfl, ?_⟩, .inl Tryz.underlying3⟩, .inl Tryz.underlying3⟩ <;> simp only [cells3_Hash]⟩⟩
theorem fitsA_Hash : Fits.go Tryz.prog (.fld 0 (.fld 0 (.num .i64) (.fld 1 (.list 2 (.fld 0 (.num .i64) (.fld 1 (.num .i64) .nil))) (.fld 2 (.list 2 (.fld 0 (.num .i64) (.fld 1 (.num .i64) .nil))) (.fld 3 (.list 1 (.num .i64)) (.fld 4 (.list 1 (.num .i64)) .nil))))) (.fld 5 (.num .i64) (.fld 6 (.num .i64) (.fld 7 (.list 1 (.num .i64)) .nil)))) [{ name := "C", type := 26, offset := 0, embedded := false, tag := "", pkgPath := "", byteOffset := 0 }, { name := "A", type := 3, offset := 5, embedded := false, tag := "", pkgPath := "", byteOffset := 104 }, { name := "B", type := 3, offset := 6, embedded := false, tag := "", pkgPath := "", byteOffset := 112 }, { name := "Given", type := 24, offset := 7, embedded := false, tag := "", pkgPath := "", byteOffset := 120 }] 0 8 := by
  refine ⟨_, _, rfl, rfl, rfl, ⟨_, _, rfl, ?_, ?_, ⟨_, _, rfl, ?_, ?_, ⟨_, _, rfl, ?_, ?_, ⟨rfl, ?_⟩, .inl fits24_Hash⟩, .inl Tryz.underlying3⟩, .inl Tryz.underlying3⟩, .inr ⟨_, Tryz.underlying26, by
    rw [cells26_Hash]
    refine ⟨_, _, rfl, rfl, rfl, ⟨_, _, rfl, ?_, ?_, ⟨_, _, rfl, ?_, ?_, ⟨_, _, rfl, ?_, ?_, ⟨_, _, rfl, ?_, ?_, ⟨rfl, ?_⟩, .inl fits24_Hash⟩, .inl fits24_Hash⟩, .inl fits23_Hash⟩, .inl fits22_Hash⟩, .inl Tryz.underlying3⟩ <;> simp only [cells3_Hash, cells22_Hash, cells23_Hash, cells24_Hash]⟩⟩ <;> simp only [cells26_Hash, cells3_Hash, cells24_Hash]
theorem core_Hash {K : Type} {enc : TypeId × Value → K} {μ : DataW K → Nat} (hμ : Msr μ) (W : World) (cs : Array Value) (hcs : cs.size = 8) {d0 : DataW K} {p0 : List MemPlace} {fuel : Nat} (hf : DataW.trod enc Tryz.prog W 0 (fun _ => true) true fuel 75 cs.toList = some (d0, p0)) (hz : W.noneFrozen p0) (hd : μ d0 ≤ 1048576) :
    Calls Tryz.prog 6 #[.agg cs] W fun e W' => e = .returned (.bool true) ∧ RowKit.Below W.heap.size W W' := by
  obtain ⟨φ, H, acs, ns, ss, D, k1, k2, k3, k4, k5, k6, k7, k8, k9, k10⟩ := arg_vr hμ (G := 8) (s := .fld 0 (.fld 0 (.num .i64) (.fld 1 (.list 2 (.fld 0 (.num .i64) (.fld 1 (.num .i64) .nil))) (.fld 2 (.list 2 (.fld 0 (.num .i64) (.fld 1 (.num .i64) .nil))) (.fld 3 (.list 1 (.num .i64)) (.fld 4 (.list 1 (.num .i64)) .nil))))) (.fld 5 (.num .i64) (.fld 6 (.num .i64) (.fld 7 (.list 1 (.num .i64)) .nil)))) (fun _ => rfl) Tryz.underlying75 (by rw [cells75_Hash]; exact fitsA_Hash) hf hz (by dsimp only; omega) _ _ (rel0 8 W) (fun i o hi => by simp [heap0, AHeap.get, Tr.get] at hi)
  have hal : acs.length = 8 := by rw [LRel.len k6]; simpa using hcs
  dsimp only at k10
  have hcall := calls_true k1 k2 k6 (top_6 (true, true) (fun _ => rfl) H acs ns ss D hal k7 k8 k9 (by omega) (by omega))
  rw [show cs.toList.toArray = cs by simp] at hcall
  exact hcall
end Go.Eng
