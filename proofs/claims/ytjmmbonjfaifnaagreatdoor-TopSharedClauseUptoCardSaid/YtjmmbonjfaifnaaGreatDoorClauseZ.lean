/- TopSharedClause answers true on the interpreter, and so on the machine. Conditions: none beyond each theorem's own. -/
import Derived.Test.YtjmmbonjfaifnaaGreatDoorB3
import Derived.Test.YtjmmbonjfaifnaaGreatDoorClauseA
import Derived.KernelRfl
import Derived.Test.YtjmmbonjfaifnaaGreatDoorAlive
set_option linter.all false
namespace Go.Eng
open Go Go.Proofs
theorem ag3_ZClause : isAggT E0.P 3 = some false := by kernel_rfl
theorem ag22_ZClause : isAggT E0.P 22 = some false := by kernel_rfl
theorem sz22_ZClause : sizeT E0.P 22 = some 1 := by kernel_rfl
theorem ag46_ZClause : isAggT E0.P 46 = some false := by kernel_rfl
theorem fo48_0_ZClause : foff E0.P 48 0 = some 0 := by kernel_rfl
theorem fo48_1_ZClause : foff E0.P 48 1 = some 1 := by kernel_rfl
theorem fo48_2_ZClause : foff E0.P 48 2 = some 2 := by kernel_rfl
theorem fo48_3_ZClause : foff E0.P 48 3 = some 3 := by kernel_rfl
theorem fo48_4_ZClause : foff E0.P 48 4 = some 4 := by kernel_rfl
theorem fo48_5_ZClause : foff E0.P 48 5 = some 5 := by kernel_rfl
theorem fo48_6_ZClause : foff E0.P 48 6 = some 6 := by kernel_rfl
theorem ag48_ZClause : isAggT E0.P 48 = some true := by kernel_rfl
theorem sz48_ZClause : sizeT E0.P 48 = some 7 := by kernel_rfl
theorem zt22_ZClause : zeroT E0.P 22 = some [.slice none 0 0] := by kernel_rfl
theorem el32_ZClause : elemT E0.P 32 = some 42 := by kernel_rfl
theorem ez42_ZClause : elemZ E0.P 42 = some (1, [.nilFunc]) := by kernel_rfl
theorem el63_ZClause : elemT E0.P 63 = some 54 := by kernel_rfl
theorem ez54_ZClause : elemZ E0.P 54 = some (1, [.nilFunc]) := by kernel_rfl
abbrev ShClause : Sh := .fld 0 (.num .i64) (.fld 1 (.list 1 (.num .i64)) (.fld 2 (.list 1 (.num .i64)) (.fld 3 (.list 1 .bool) (.fld 4 (.list 1 (.num .i64)) (.fld 5 (.list 1 (.num .i64)) (.fld 6 (.num .i64) .nil))))))
theorem arg_Clause {H : AHeap} {bx : Nat} {ns : List Int} {ss : List ByteArray} {D : List Nat} (h : Own H ⟨true, true, false⟩ ShClause bx ns ss D) (hl : ns.length ≤ 63000) :
    ∃ (r : Row) (yu0 : Int) (ya1 : Option Addr) (yn1 yc1 : Nat) (yl1 : List Int) (ya2 : Option Addr) (yn2 yc2 : Nat) (yl2 : List Int) (ya3 : Option Addr) (yn3 yc3 : Nat) (yl3 : List Bool) (ya4 : Option Addr) (yn4 yc4 : Nat) (yl4 : List Int) (ya5 : Option Addr) (yn5 yc5 : Nat) (yl5 : List Int) (yu6 : Int), H.row bx = some r ∧ r.cs[0]? = some (.int .i64 yu0) ∧ IntKind.i64.wrap yu0 = yu0 ∧ r.cs[1]? = some (.slice ya1 yn1 yc1) ∧ V (EI .i64) H ya1 yn1 yc1 yl1 ∧ exactBase ya1 = true ∧ yn1 ≤ 63000 ∧ r.cs[2]? = some (.slice ya2 yn2 yc2) ∧ V (EI .i64) H ya2 yn2 yc2 yl2 ∧ exactBase ya2 = true ∧ yn2 ≤ 63000 ∧ r.cs[3]? = some (.slice ya3 yn3 yc3) ∧ V EB H ya3 yn3 yc3 yl3 ∧ exactBase ya3 = true ∧ yn3 ≤ 63000 ∧ r.cs[4]? = some (.slice ya4 yn4 yc4) ∧ V (EI .i64) H ya4 yn4 yc4 yl4 ∧ exactBase ya4 = true ∧ yn4 ≤ 63000 ∧ r.cs[5]? = some (.slice ya5 yn5 yc5) ∧ V (EI .i64) H ya5 yn5 yc5 yl5 ∧ exactBase ya5 = true ∧ yn5 ≤ 63000 ∧ r.cs[6]? = some (.int .i64 yu6) ∧ IntKind.i64.wrap yu6 = yu6 := by
  obtain ⟨r, hr, hw, hR⟩ := h.ex
  have hD := h.lD
  obtain ⟨n0, s0, D0, m0, t0, B0, r0, w0, rfl, rfl, rfl⟩ := hR
  obtain ⟨n1, s1, D1, m1, t1, B1, r1, w1, rfl, rfl, rfl⟩ := w0
  obtain ⟨n2, s2, D2, m2, t2, B2, r2, w2, rfl, rfl, rfl⟩ := w1
  obtain ⟨n3, s3, D3, m3, t3, B3, r3, w3, rfl, rfl, rfl⟩ := w2
  obtain ⟨n4, s4, D4, m4, t4, B4, r4, w4, rfl, rfl, rfl⟩ := w3
  obtain ⟨n5, s5, D5, m5, t5, B5, r5, w5, rfl, rfl, rfl⟩ := w4
  obtain ⟨n6, s6, D6, m6, t6, B6, r6, w6, rfl, rfl, rfl⟩ := w5
  obtain ⟨rfl, rfl, rfl⟩ := w6
  obtain ⟨yu0, k0, z0, -⟩ := r0
  obtain ⟨ya1, yn1, yc1, yl1, k1, v1, e1, g1⟩ := rd_list (rdI .i64) r1 (fun j hj => hD j (by simp only [List.mem_append, hj, true_or, or_true]))
  obtain ⟨ya2, yn2, yc2, yl2, k2, v2, e2, g2⟩ := rd_list (rdI .i64) r2 (fun j hj => hD j (by simp only [List.mem_append, hj, true_or, or_true]))
  obtain ⟨ya3, yn3, yc3, yl3, k3, v3, e3, g3⟩ := rd_list rdB r3 (fun j hj => hD j (by simp only [List.mem_append, hj, true_or, or_true]))
  obtain ⟨ya4, yn4, yc4, yl4, k4, v4, e4, g4⟩ := rd_list (rdI .i64) r4 (fun j hj => hD j (by simp only [List.mem_append, hj, true_or, or_true]))
  obtain ⟨ya5, yn5, yc5, yl5, k5, v5, e5, g5⟩ := rd_list (rdI .i64) r5 (fun j hj => hD j (by simp only [List.mem_append, hj, true_or, or_true]))
  obtain ⟨yu6, k6, z6, -⟩ := r6
  exact ⟨r, yu0, ya1, yn1, yc1, yl1, ya2, yn2, yc2, yl2, ya3, yn3, yc3, yl3, ya4, yn4, yc4, yl4, ya5, yn5, yc5, yl5, yu6, hr, k0, z0, k1, v1, e1, (by simp only [List.length_append] at hl; omega), k2, v2, e2, (by simp only [List.length_append] at hl; omega), k3, v3, e3, (by simp only [List.length_append] at hl; omega), k4, v4, e4, (by simp only [List.length_append] at hl; omega), k5, v5, e5, (by simp only [List.length_append] at hl; omega), k6, z6⟩
theorem call_21 : CallOK' E0 3 9 42 21 ShClause := by
  intro H bx ns ss D hO hl1 _
  obtain ⟨r, yu0, ya1, yn1, yc1, yl1, ya2, yn2, yc2, yl2, ya3, yn3, yc3, yl3, ya4, yn4, yc4, yl4, ya5, yn5, yc5, yl5, yu6, hr, x0, w_u0, x1, h_l1, ex_l1, b_l1, x2, h_l2, ex_l2, b_l2, x3, h_l3, ex_l3, b_l3, x4, h_l4, ex_l4, b_l4, x5, h_l5, ex_l5, b_l5, x6, w_u6⟩ := arg_Clause hO hl1
  obtain ⟨lo_u0, hi_u0⟩ := rangei64 w_u0
  obtain ⟨len_l1, cap_l1, max_l1, wf_l1⟩ := h_l1.len
  obtain ⟨len_l2, cap_l2, max_l2, wf_l2⟩ := h_l2.len
  obtain ⟨len_l3, cap_l3, max_l3, wf_l3⟩ := h_l3.len
  obtain ⟨len_l4, cap_l4, max_l4, wf_l4⟩ := h_l4.len
  obtain ⟨len_l5, cap_l5, max_l5, wf_l5⟩ := h_l5.len
  obtain ⟨lo_u6, hi_u6⟩ := rangei64 w_u6
  have m0 : Mem [] H H [] := Mem.start
  refine WF.kg Tryz.func21 rfl rfl ?_
  refine KC.seq ?_
  refine KC.region ?_
  refine KO.pv (PV.assign rfl) rfl rfl ?_
  refine KO.nil ?_
  refine KC.seq ?_
  refine KC.drawG (n := 9) (anc := [0, 1, 3, 7, 0, 16, 48, 112, 255]) (hv := [8]) (ord := [0, 1, 2, 3, 4, 5, 6, 7, 8]) (by kernel_rfl) (by kernel_rfl) (by kernel_rfl) (by kernel_rfl) (by kernel_rfl) fun H1 n2 g3 => ?_
  have m4 := m0.room n2 g3 [] (by decide) (by decide)
  refine KD.pv 1 (PV.move rfl) rfl rfl rfl (by kernel_rfl) rfl rfl rfl ?_
  refine KD.pv 3 (PV.nilCheck rfl) rfl rfl rfl (by kernel_rfl) rfl rfl rfl ?_
  refine KD.pv 7 (PV.fieldAddr fo48_0_ZClause rfl) rfl rfl rfl (by kernel_rfl) rfl rfl rfl ?_
  refine KD.load 15 rfl (m4.row0 hO.lb hr) (by rw [read1 ag3_ZClause]; exact x0) (pastGo (k := 1) (l := [H1]) (by kernel_rfl) rfl (pastCons ⟨_, (m4.row0 hO.lb hr), (by rw [read1 ag3_ZClause]; exact x0)⟩ pastNil)) veq_int rfl (by kernel_rfl) rfl rfl rfl ?_
  refine KD.pv 31 (PV.move rfl) rfl rfl rfl (by kernel_rfl) rfl rfl rfl ?_
  refine KD.pv 63 (PV.nilCheck rfl) rfl rfl rfl (by kernel_rfl) rfl rfl rfl ?_
  refine KD.pv 127 (PV.fieldAddr fo48_1_ZClause rfl) rfl rfl rfl (by kernel_rfl) rfl rfl rfl ?_
  refine KD.load 255 rfl (m4.row0 hO.lb hr) (by rw [read1 ag22_ZClause]; exact x1) (pastGo (k := 1) (l := [H1]) (by kernel_rfl) rfl (pastCons ⟨_, (m4.row0 hO.lb hr), (by rw [read1 ag22_ZClause]; exact x1)⟩ pastNil)) veq_sl rfl (by kernel_rfl) rfl rfl rfl ?_
  refine KD.call 511 rfl rfl rfl (by kernel_rfl) rfl rfl rfl (cl_Check H1 yu0 ya1 yn1 yc1 _ (wrap64 (by omega) (by omega)) (V.mem m4 h_l1)) fun v5 H5 q5 => ?_
  obtain ⟨e5, hv5, mc5, p5_0, p5_1⟩ := q5
  dsimp only at hv5 mc5
  subst hv5
  have m6 := m4.seq mc5
  refine KD.nil ⟨rfl, ?_⟩
  refine KC.seq ?_
  refine KC.region ?_
  refine KO.pv (PV.assign rfl) rfl rfl ?_
  refine KO.nil ?_
  exact KC.ret ⟨rfl, _, (.tmp rfl .nil), call_none m6⟩
theorem call_23 : CallOK' E0 3 9 42 23 ShClause := by
  intro H bx ns ss D hO hl1 _
  obtain ⟨r, yu0, ya1, yn1, yc1, yl1, ya2, yn2, yc2, yl2, ya3, yn3, yc3, yl3, ya4, yn4, yc4, yl4, ya5, yn5, yc5, yl5, yu6, hr, x0, w_u0, x1, h_l1, ex_l1, b_l1, x2, h_l2, ex_l2, b_l2, x3, h_l3, ex_l3, b_l3, x4, h_l4, ex_l4, b_l4, x5, h_l5, ex_l5, b_l5, x6, w_u6⟩ := arg_Clause hO hl1
  obtain ⟨lo_u0, hi_u0⟩ := rangei64 w_u0
  obtain ⟨len_l1, cap_l1, max_l1, wf_l1⟩ := h_l1.len
  obtain ⟨len_l2, cap_l2, max_l2, wf_l2⟩ := h_l2.len
  obtain ⟨len_l3, cap_l3, max_l3, wf_l3⟩ := h_l3.len
  obtain ⟨len_l4, cap_l4, max_l4, wf_l4⟩ := h_l4.len
  obtain ⟨len_l5, cap_l5, max_l5, wf_l5⟩ := h_l5.len
  obtain ⟨lo_u6, hi_u6⟩ := rangei64 w_u6
  have m0 : Mem [] H H [] := Mem.start
  refine WF.kg Tryz.func23 rfl rfl ?_
  refine KC.seq ?_
  refine KC.region ?_
  refine KO.pv (PV.assign rfl) rfl rfl ?_
  refine KO.nil ?_
  refine KC.seq ?_
  refine KC.drawG (n := 17) (anc := [0, 1, 3, 7, 0, 16, 48, 112, 255, 511, 1023, 1023, 1023, 0, 10239, 28671, 65535]) (hv := [8, 14]) (ord := [0, 1, 2, 3, 4, 5, 6, 7, 8, 9, 10, 13, 14, 11, 12, 15, 16]) (by kernel_rfl) (by kernel_rfl) (by kernel_rfl) (by kernel_rfl) (by kernel_rfl) fun H1 n2 g3 => ?_
  have m4 := m0.room n2 g3 [13] (by decide) (by decide)
  refine KD.pv 1 (PV.move rfl) rfl rfl rfl (by kernel_rfl) rfl rfl rfl ?_
  refine KD.pv 3 (PV.nilCheck rfl) rfl rfl rfl (by kernel_rfl) rfl rfl rfl ?_
  refine KD.pv 7 (PV.fieldAddr fo48_0_ZClause rfl) rfl rfl rfl (by kernel_rfl) rfl rfl rfl ?_
  refine KD.load 15 rfl (m4.row0 hO.lb hr) (by rw [read1 ag3_ZClause]; exact x0) (pastGo (k := 1) (l := [H1]) (by kernel_rfl) rfl (pastCons ⟨_, (m4.row0 hO.lb hr), (by rw [read1 ag3_ZClause]; exact x0)⟩ pastNil)) veq_int rfl (by kernel_rfl) rfl rfl rfl ?_
  refine KD.pv 31 (PV.move rfl) rfl rfl rfl (by kernel_rfl) rfl rfl rfl ?_
  refine KD.pv 63 (PV.nilCheck rfl) rfl rfl rfl (by kernel_rfl) rfl rfl rfl ?_
  refine KD.pv 127 (PV.fieldAddr fo48_2_ZClause rfl) rfl rfl rfl (by kernel_rfl) rfl rfl rfl ?_
  refine KD.load 255 rfl (m4.row0 hO.lb hr) (by rw [read1 ag22_ZClause]; exact x2) (pastGo (k := 1) (l := [H1]) (by kernel_rfl) rfl (pastCons ⟨_, (m4.row0 hO.lb hr), (by rw [read1 ag22_ZClause]; exact x2)⟩ pastNil)) veq_sl rfl (by kernel_rfl) rfl rfl rfl ?_
  refine KD.call 511 rfl rfl rfl (by kernel_rfl) rfl rfl rfl (cl_Make H1 yu0 ya2 yn2 yc2 _ (wrap64 (by omega) (by omega)) (V.mem m4 h_l2) (by first | omega | assumption)) fun v5 H5 q5 => ?_
  obtain ⟨a5, k5, n5, ys5, D5, o5, e5, hv5, mc5, p5_0, p5_1, p5_2, p5_3⟩ := q5
  dsimp only at hv5 mc5
  subst hv5
  have m6 := m4.seq mc5
  refine KD.pv 1023 (PV.move rfl) rfl rfl rfl (by kernel_rfl) rfl rfl rfl ?_
  refine KD.pv 2047 (PV.extract rfl rfl) rfl rfl rfl (by kernel_rfl) rfl rfl rfl ?_
  refine KD.allocM 10239 m6 (j := 1) rfl zt22_ZClause rfl (by kernel_rfl) rfl rfl rfl fun H7 m8 => ?_
  refine KD.storeM 26623 m8 (j := 1) rfl sz22_ZClause rfl rfl rfl (show 0 + 1 ≤ 1 by decide) (show _ = [.slice a5 k5 n5] from rfl) rfl (by kernel_rfl) rfl rfl fun H9 m10 => ?_
  refine KD.pv 28671 (PV.extract rfl rfl) rfl rfl rfl (by kernel_rfl) rfl rfl rfl ?_
  refine KD.pv 32767 (PV.extract rfl rfl) rfl rfl rfl (by kernel_rfl) rfl rfl rfl ?_
  refine KD.pv 65535 (PV.assign rfl) rfl rfl rfl (by kernel_rfl) rfl rfl rfl ?_
  refine KD.pv 131071 (PV.assign rfl) rfl rfl rfl (by kernel_rfl) rfl rfl rfl ?_
  refine KD.nil ⟨rfl, ?_⟩
  refine KC.seq ?_
  refine KC.region ?_
  refine KO.pv (PV.makeFunc rfl rfl) rfl rfl ?_
  refine KO.buildSliceM m10 el32_ZClause ez42_ZClause rfl rfl (show _ = some [.func (.func 25) #[] #[.pointer (some ⟨(H.next + 13), 0, none⟩)]] from rfl) rfl rfl fun H11 m12 => ?_
  refine KO.pv (PV.assign rfl) rfl rfl ?_
  refine KO.nil ?_
  obtain ⟨nr13, rd13, ln13, lm13⟩ := OwnV.rd (rdI .i64) (m12.res (i := 1) rfl) (cs := [.slice a5 k5 n5]) (o := 0) rfl
  exact KC.ret ⟨rfl, _, (.tmp rfl .nil), call_one (m12.pick [0, 2, 1] (by decide) rfl) rfl (see_25 9) rd13 (by simp [R.own, R.inn, pickL]) (by omega) (by simp)⟩
theorem call_27 : CallOK' E0 3 9 42 27 ShClause := by
  intro H bx ns ss D hO hl1 _
  obtain ⟨r, yu0, ya1, yn1, yc1, yl1, ya2, yn2, yc2, yl2, ya3, yn3, yc3, yl3, ya4, yn4, yc4, yl4, ya5, yn5, yc5, yl5, yu6, hr, x0, w_u0, x1, h_l1, ex_l1, b_l1, x2, h_l2, ex_l2, b_l2, x3, h_l3, ex_l3, b_l3, x4, h_l4, ex_l4, b_l4, x5, h_l5, ex_l5, b_l5, x6, w_u6⟩ := arg_Clause hO hl1
  obtain ⟨lo_u0, hi_u0⟩ := rangei64 w_u0
  obtain ⟨len_l1, cap_l1, max_l1, wf_l1⟩ := h_l1.len
  obtain ⟨len_l2, cap_l2, max_l2, wf_l2⟩ := h_l2.len
  obtain ⟨len_l3, cap_l3, max_l3, wf_l3⟩ := h_l3.len
  obtain ⟨len_l4, cap_l4, max_l4, wf_l4⟩ := h_l4.len
  obtain ⟨len_l5, cap_l5, max_l5, wf_l5⟩ := h_l5.len
  obtain ⟨lo_u6, hi_u6⟩ := rangei64 w_u6
  have m0 : Mem [] H H [] := Mem.start
  refine WF.kg Tryz.func27 rfl rfl ?_
  refine KC.seq ?_
  refine KC.region ?_
  refine KO.pv (PV.assign rfl) rfl rfl ?_
  refine KO.nil ?_
  refine KC.seq ?_
  refine KC.drawG (n := 9) (anc := [0, 1, 3, 7, 0, 16, 48, 112, 255]) (hv := [8]) (ord := [0, 1, 2, 3, 4, 5, 6, 7, 8]) (by kernel_rfl) (by kernel_rfl) (by kernel_rfl) (by kernel_rfl) (by kernel_rfl) fun H1 n2 g3 => ?_
  have m4 := m0.room n2 g3 [] (by decide) (by decide)
  refine KD.pv 1 (PV.move rfl) rfl rfl rfl (by kernel_rfl) rfl rfl rfl ?_
  refine KD.pv 3 (PV.nilCheck rfl) rfl rfl rfl (by kernel_rfl) rfl rfl rfl ?_
  refine KD.pv 7 (PV.fieldAddr fo48_1_ZClause rfl) rfl rfl rfl (by kernel_rfl) rfl rfl rfl ?_
  refine KD.load 15 rfl (m4.row0 hO.lb hr) (by rw [read1 ag22_ZClause]; exact x1) (pastGo (k := 1) (l := [H1]) (by kernel_rfl) rfl (pastCons ⟨_, (m4.row0 hO.lb hr), (by rw [read1 ag22_ZClause]; exact x1)⟩ pastNil)) veq_sl rfl (by kernel_rfl) rfl rfl rfl ?_
  refine KD.pv 31 (PV.move rfl) rfl rfl rfl (by kernel_rfl) rfl rfl rfl ?_
  refine KD.pv 63 (PV.nilCheck rfl) rfl rfl rfl (by kernel_rfl) rfl rfl rfl ?_
  refine KD.pv 127 (PV.fieldAddr fo48_3_ZClause rfl) rfl rfl rfl (by kernel_rfl) rfl rfl rfl ?_
  refine KD.load 255 rfl (m4.row0 hO.lb hr) (by rw [read1 ag46_ZClause]; exact x3) (pastGo (k := 1) (l := [H1]) (by kernel_rfl) rfl (pastCons ⟨_, (m4.row0 hO.lb hr), (by rw [read1 ag46_ZClause]; exact x3)⟩ pastNil)) veq_sl rfl (by kernel_rfl) rfl rfl rfl ?_
  refine KD.call 511 rfl rfl rfl (by kernel_rfl) rfl rfl rfl (cl_True H1 ya1 yn1 yc1 _ ya3 yn3 yc3 _ (V.mem m4 h_l1) (V.mem m4 h_l3)) fun v5 H5 q5 => ?_
  obtain ⟨o5, e5, hv5, mc5, p5_0, p5_1⟩ := q5
  dsimp only at hv5 mc5
  subst hv5
  have m6 := m4.seq mc5
  refine KD.nil ⟨rfl, ?_⟩
  refine KC.seq ?_
  refine KC.region ?_
  refine KO.pv (PV.assign rfl) rfl rfl ?_
  refine KO.nil ?_
  exact KC.ret ⟨rfl, _, (.tmp rfl .nil), call_none m6⟩
theorem call_29 : CallOK' E0 3 9 42 29 ShClause := by
  intro H bx ns ss D hO hl1 _
  obtain ⟨r, yu0, ya1, yn1, yc1, yl1, ya2, yn2, yc2, yl2, ya3, yn3, yc3, yl3, ya4, yn4, yc4, yl4, ya5, yn5, yc5, yl5, yu6, hr, x0, w_u0, x1, h_l1, ex_l1, b_l1, x2, h_l2, ex_l2, b_l2, x3, h_l3, ex_l3, b_l3, x4, h_l4, ex_l4, b_l4, x5, h_l5, ex_l5, b_l5, x6, w_u6⟩ := arg_Clause hO hl1
  obtain ⟨lo_u0, hi_u0⟩ := rangei64 w_u0
  obtain ⟨len_l1, cap_l1, max_l1, wf_l1⟩ := h_l1.len
  obtain ⟨len_l2, cap_l2, max_l2, wf_l2⟩ := h_l2.len
  obtain ⟨len_l3, cap_l3, max_l3, wf_l3⟩ := h_l3.len
  obtain ⟨len_l4, cap_l4, max_l4, wf_l4⟩ := h_l4.len
  obtain ⟨len_l5, cap_l5, max_l5, wf_l5⟩ := h_l5.len
  obtain ⟨lo_u6, hi_u6⟩ := rangei64 w_u6
  have m0 : Mem [] H H [] := Mem.start
  refine WF.kg Tryz.func29 rfl rfl ?_
  refine KC.seq ?_
  refine KC.region ?_
  refine KO.pv (PV.assign rfl) rfl rfl ?_
  refine KO.nil ?_
  refine KC.seq ?_
  refine KC.drawG (n := 13) (anc := [0, 1, 3, 7, 0, 16, 48, 112, 0, 256, 768, 1792, 4095]) (hv := [12]) (ord := [0, 1, 2, 3, 4, 5, 6, 7, 8, 9, 10, 11, 12]) (by kernel_rfl) (by kernel_rfl) (by kernel_rfl) (by kernel_rfl) (by kernel_rfl) fun H1 n2 g3 => ?_
  have m4 := m0.room n2 g3 [] (by decide) (by decide)
  refine KD.pv 1 (PV.move rfl) rfl rfl rfl (by kernel_rfl) rfl rfl rfl ?_
  refine KD.pv 3 (PV.nilCheck rfl) rfl rfl rfl (by kernel_rfl) rfl rfl rfl ?_
  refine KD.pv 7 (PV.fieldAddr fo48_0_ZClause rfl) rfl rfl rfl (by kernel_rfl) rfl rfl rfl ?_
  refine KD.load 15 rfl (m4.row0 hO.lb hr) (by rw [read1 ag3_ZClause]; exact x0) (pastGo (k := 1) (l := [H1]) (by kernel_rfl) rfl (pastCons ⟨_, (m4.row0 hO.lb hr), (by rw [read1 ag3_ZClause]; exact x0)⟩ pastNil)) veq_int rfl (by kernel_rfl) rfl rfl rfl ?_
  refine KD.pv 31 (PV.move rfl) rfl rfl rfl (by kernel_rfl) rfl rfl rfl ?_
  refine KD.pv 63 (PV.nilCheck rfl) rfl rfl rfl (by kernel_rfl) rfl rfl rfl ?_
  refine KD.pv 127 (PV.fieldAddr fo48_4_ZClause rfl) rfl rfl rfl (by kernel_rfl) rfl rfl rfl ?_
  refine KD.load 255 rfl (m4.row0 hO.lb hr) (by rw [read1 ag22_ZClause]; exact x4) (pastGo (k := 1) (l := [H1]) (by kernel_rfl) rfl (pastCons ⟨_, (m4.row0 hO.lb hr), (by rw [read1 ag22_ZClause]; exact x4)⟩ pastNil)) veq_sl rfl (by kernel_rfl) rfl rfl rfl ?_
  refine KD.pv 511 (PV.move rfl) rfl rfl rfl (by kernel_rfl) rfl rfl rfl ?_
  refine KD.pv 1023 (PV.nilCheck rfl) rfl rfl rfl (by kernel_rfl) rfl rfl rfl ?_
  refine KD.pv 2047 (PV.fieldAddr fo48_5_ZClause rfl) rfl rfl rfl (by kernel_rfl) rfl rfl rfl ?_
  refine KD.load 4095 rfl (m4.row0 hO.lb hr) (by rw [read1 ag22_ZClause]; exact x5) (pastGo (k := 1) (l := [H1]) (by kernel_rfl) rfl (pastCons ⟨_, (m4.row0 hO.lb hr), (by rw [read1 ag22_ZClause]; exact x5)⟩ pastNil)) veq_sl rfl (by kernel_rfl) rfl rfl rfl ?_
  refine KD.call 8191 rfl rfl rfl (by kernel_rfl) rfl rfl rfl (cl_Implies H1 yu0 ya4 yn4 yc4 _ ya5 yn5 yc5 _ (wrap64 (by omega) (by omega)) (V.mem m4 h_l4) (V.mem m4 h_l5)) fun v5 H5 q5 => ?_
  obtain ⟨o5, e5, hv5, mc5, p5_0, p5_1⟩ := q5
  dsimp only at hv5 mc5
  subst hv5
  have m6 := m4.seq mc5
  refine KD.nil ⟨rfl, ?_⟩
  refine KC.seq ?_
  refine KC.region ?_
  refine KO.pv (PV.assign rfl) rfl rfl ?_
  refine KO.nil ?_
  exact KC.ret ⟨rfl, _, (.tmp rfl .nil), call_none m6⟩
theorem call_31 : CallOK' E0 3 9 42 31 ShClause := by
  intro H bx ns ss D hO hl1 _
  obtain ⟨r, yu0, ya1, yn1, yc1, yl1, ya2, yn2, yc2, yl2, ya3, yn3, yc3, yl3, ya4, yn4, yc4, yl4, ya5, yn5, yc5, yl5, yu6, hr, x0, w_u0, x1, h_l1, ex_l1, b_l1, x2, h_l2, ex_l2, b_l2, x3, h_l3, ex_l3, b_l3, x4, h_l4, ex_l4, b_l4, x5, h_l5, ex_l5, b_l5, x6, w_u6⟩ := arg_Clause hO hl1
  obtain ⟨lo_u0, hi_u0⟩ := rangei64 w_u0
  obtain ⟨len_l1, cap_l1, max_l1, wf_l1⟩ := h_l1.len
  obtain ⟨len_l2, cap_l2, max_l2, wf_l2⟩ := h_l2.len
  obtain ⟨len_l3, cap_l3, max_l3, wf_l3⟩ := h_l3.len
  obtain ⟨len_l4, cap_l4, max_l4, wf_l4⟩ := h_l4.len
  obtain ⟨len_l5, cap_l5, max_l5, wf_l5⟩ := h_l5.len
  obtain ⟨lo_u6, hi_u6⟩ := rangei64 w_u6
  have m0 : Mem [] H H [] := Mem.start
  refine WF.kg Tryz.func31 rfl rfl ?_
  refine KC.seq ?_
  refine KC.region ?_
  refine KO.pv (PV.assign rfl) rfl rfl ?_
  refine KO.nil ?_
  refine KC.seq ?_
  refine KC.drawG (n := 25) (anc := [0, 1, 3, 7, 0, 16, 48, 112, 0, 256, 768, 1792, 0, 4096, 12288, 28672, 65535, 131071, 262143, 262143, 262143, 0, 2621439, 7340031, 16777215]) (hv := [16, 22]) (ord := [0, 1, 2, 3, 4, 5, 6, 7, 8, 9, 10, 11, 12, 13, 14, 15, 16, 17, 18, 21, 22, 19, 20, 23, 24]) (by kernel_rfl) (by kernel_rfl) (by kernel_rfl) (by kernel_rfl) (by kernel_rfl) fun H1 n2 g3 => ?_
  have m4 := m0.room n2 g3 [21] (by decide) (by decide)
  refine KD.pv 1 (PV.move rfl) rfl rfl rfl (by kernel_rfl) rfl rfl rfl ?_
  refine KD.pv 3 (PV.nilCheck rfl) rfl rfl rfl (by kernel_rfl) rfl rfl rfl ?_
  refine KD.pv 7 (PV.fieldAddr fo48_0_ZClause rfl) rfl rfl rfl (by kernel_rfl) rfl rfl rfl ?_
  refine KD.load 15 rfl (m4.row0 hO.lb hr) (by rw [read1 ag3_ZClause]; exact x0) (pastGo (k := 1) (l := [H1]) (by kernel_rfl) rfl (pastCons ⟨_, (m4.row0 hO.lb hr), (by rw [read1 ag3_ZClause]; exact x0)⟩ pastNil)) veq_int rfl (by kernel_rfl) rfl rfl rfl ?_
  refine KD.pv 31 (PV.move rfl) rfl rfl rfl (by kernel_rfl) rfl rfl rfl ?_
  refine KD.pv 63 (PV.nilCheck rfl) rfl rfl rfl (by kernel_rfl) rfl rfl rfl ?_
  refine KD.pv 127 (PV.fieldAddr fo48_4_ZClause rfl) rfl rfl rfl (by kernel_rfl) rfl rfl rfl ?_
  refine KD.load 255 rfl (m4.row0 hO.lb hr) (by rw [read1 ag22_ZClause]; exact x4) (pastGo (k := 1) (l := [H1]) (by kernel_rfl) rfl (pastCons ⟨_, (m4.row0 hO.lb hr), (by rw [read1 ag22_ZClause]; exact x4)⟩ pastNil)) veq_sl rfl (by kernel_rfl) rfl rfl rfl ?_
  refine KD.pv 511 (PV.move rfl) rfl rfl rfl (by kernel_rfl) rfl rfl rfl ?_
  refine KD.pv 1023 (PV.nilCheck rfl) rfl rfl rfl (by kernel_rfl) rfl rfl rfl ?_
  refine KD.pv 2047 (PV.fieldAddr fo48_5_ZClause rfl) rfl rfl rfl (by kernel_rfl) rfl rfl rfl ?_
  refine KD.load 4095 rfl (m4.row0 hO.lb hr) (by rw [read1 ag22_ZClause]; exact x5) (pastGo (k := 1) (l := [H1]) (by kernel_rfl) rfl (pastCons ⟨_, (m4.row0 hO.lb hr), (by rw [read1 ag22_ZClause]; exact x5)⟩ pastNil)) veq_sl rfl (by kernel_rfl) rfl rfl rfl ?_
  refine KD.pv 8191 (PV.move rfl) rfl rfl rfl (by kernel_rfl) rfl rfl rfl ?_
  refine KD.pv 16383 (PV.nilCheck rfl) rfl rfl rfl (by kernel_rfl) rfl rfl rfl ?_
  refine KD.pv 32767 (PV.fieldAddr fo48_6_ZClause rfl) rfl rfl rfl (by kernel_rfl) rfl rfl rfl ?_
  refine KD.load 65535 rfl (m4.row0 hO.lb hr) (by rw [read1 ag3_ZClause]; exact x6) (pastGo (k := 1) (l := [H1]) (by kernel_rfl) rfl (pastCons ⟨_, (m4.row0 hO.lb hr), (by rw [read1 ag3_ZClause]; exact x6)⟩ pastNil)) veq_int rfl (by kernel_rfl) rfl rfl rfl ?_
  refine KD.call 131071 rfl rfl rfl (by kernel_rfl) rfl rfl rfl (cl_Resolve H1 yu0 ya4 yn4 yc4 _ ya5 yn5 yc5 _ yu6 (wrap64 (by omega) (by omega)) (V.mem m4 h_l4) (V.mem m4 h_l5) (wrap64 (by omega) (by omega))) fun v5 H5 q5 => ?_
  obtain ⟨ca5, k5, n5, ys5, D5, o5, e5, hv5, mc5, p5_0, p5_1, p5_2⟩ := q5
  dsimp only at hv5 mc5
  subst hv5
  have m6 := m4.seq mc5
  refine KD.pv 262143 (PV.move rfl) rfl rfl rfl (by kernel_rfl) rfl rfl rfl ?_
  refine KD.pv 524287 (PV.extract rfl rfl) rfl rfl rfl (by kernel_rfl) rfl rfl rfl ?_
  refine KD.allocM 2621439 m6 (j := 1) rfl zt22_ZClause rfl (by kernel_rfl) rfl rfl rfl fun H7 m8 => ?_
  refine KD.storeM 6815743 m8 (j := 1) rfl sz22_ZClause rfl rfl rfl (show 0 + 1 ≤ 1 by decide) (show _ = [.slice ca5 k5 n5] from rfl) rfl (by kernel_rfl) rfl rfl fun H9 m10 => ?_
  refine KD.pv 7340031 (PV.extract rfl rfl) rfl rfl rfl (by kernel_rfl) rfl rfl rfl ?_
  refine KD.pv 8388607 (PV.extract rfl rfl) rfl rfl rfl (by kernel_rfl) rfl rfl rfl ?_
  refine KD.pv 16777215 (PV.assign rfl) rfl rfl rfl (by kernel_rfl) rfl rfl rfl ?_
  refine KD.pv 33554431 (PV.assign rfl) rfl rfl rfl (by kernel_rfl) rfl rfl rfl ?_
  refine KD.nil ⟨rfl, ?_⟩
  refine KC.seq ?_
  refine KC.region ?_
  refine KO.pv (PV.makeFunc rfl rfl) rfl rfl ?_
  refine KO.buildSliceM m10 el32_ZClause ez42_ZClause rfl rfl (show _ = some [.func (.func 33) #[] #[.pointer (some ⟨(H.next + 21), 0, none⟩)]] from rfl) rfl rfl fun H11 m12 => ?_
  refine KO.pv (PV.assign rfl) rfl rfl ?_
  refine KO.nil ?_
  obtain ⟨nr13, rd13, ln13, lm13⟩ := OwnV.rd (rdI .i64) (m12.res (i := 1) rfl) (cs := [.slice ca5 k5 n5]) (o := 0) rfl
  exact KC.ret ⟨rfl, _, (.tmp rfl .nil), call_one (m12.pick [0, 2, 1] (by decide) rfl) rfl (see_33 9) rd13 (by simp [R.own, R.inn, pickL]) (by omega) (by simp)⟩
theorem top_4 (w : Bool × Bool) (hwS : Sh.bools (.fld 0 (.num .i64) (.fld 1 (.list 1 (.num .i64)) (.fld 2 (.list 1 (.num .i64)) (.fld 3 (.list 1 .bool) (.fld 4 (.list 1 (.num .i64)) (.fld 5 (.list 1 (.num .i64)) (.fld 6 (.num .i64) .nil))))))) = true → w.1 = true) (H : AHeap) (cs : List Value) (ns : List Int) (ss : List ByteArray) (D : List Nat) (hcl : cs.length = 7) (hone : cs.all oneC = true) (hR : Rd H ⟨false, w.1, w.2⟩ (.fld 0 (.num .i64) (.fld 1 (.list 1 (.num .i64)) (.fld 2 (.list 1 (.num .i64)) (.fld 3 (.list 1 .bool) (.fld 4 (.list 1 (.num .i64)) (.fld 5 (.list 1 (.num .i64)) (.fld 6 (.num .i64) .nil))))))) cs 0 ns ss D) (hD : ∀ j ∈ D, j < H.next) (l1 : ns.length ≤ 10000000) (l2 : ss.length ≤ 10000000) :
    WF E0 4 [.agg cs.toArray] H fun q => q.1 = .bool true := by
  have hcalls : ∀ f ∈ ([21, 23, 27, 29, 31] : List FuncId), CallOK' E0 3 9 42 f (.fld 0 (.num .i64) (.fld 1 (.list 1 (.num .i64)) (.fld 2 (.list 1 (.num .i64)) (.fld 3 (.list 1 .bool) (.fld 4 (.list 1 (.num .i64)) (.fld 5 (.list 1 (.num .i64)) (.fld 6 (.num .i64) .nil))))))) ∧ E0.ext f = none := by
    intro f hf
    simp only [List.mem_cons, List.not_mem_nil, or_false] at hf
    rcases hf with rfl | rfl | rfl | rfl | rfl
    · exact ⟨call_21, rfl⟩
    · exact ⟨call_23, rfl⟩
    · exact ⟨call_27, rfl⟩
    · exact ⟨call_29, rfl⟩
    · exact ⟨call_31, rfl⟩
  refine WF.k Tryz.func4 rfl rfl ?_
  refine KC.seq (KC.region ?_)
  refine KO.box (rfl) ((boxAgg hone)) rfl rfl fun G0 u0 => ?_
  refine KO.pv (PV.assign rfl) rfl rfl ?_
  refine KO.nil ?_
  rw [show cellsV (.agg cs.toArray) = cs by simp [cellsV]] at u0
  have hX : G0.row H.next = some ⟨48, true, true, cs⟩ := by rw [u0.row, if_pos rfl]
  have hn0 := u0.next
  refine KC.seq (KC.region ?_)
  refine KO.loadN ag48_ZClause sz48_ZClause rfl (hX) ((takeN_of (p := cs) (by rw [List.drop_zero, ← hcl, List.take_length]) hcl)) rfl rfl ?_
  refine KO.buildSlice el63_ZClause ez54_ZClause rfl rfl (rfl) rfl rfl fun G1 u1 => ?_
  refine KO.call rfl rfl rfl rfl (apart_18 (own := 19) (see := 20) (calls := [21, 23, 27, 29, 31]) own_19 (see_20 9) hcalls rfl rfl (by decide) G1 cs ns ss D hcl hone w hwS (hR.frame fun j hj => by have := hD j hj; rw [u1.row, if_neg (by omega), u0.row, if_neg (by omega)]) (fun j hj => by have := hD j hj; rw [u1.next]; omega) l1 l2 G0.next (by rw [u1.row, if_pos rfl]; rfl) (by rw [u1.next]; omega)) fun v2 G2 q2 => ?_
  dsimp only at q2
  subst q2
  refine KO.pv (PV.move rfl) rfl rfl ?_
  refine KO.call rfl rfl rfl rfl (WF.sum (Q := fun q => q.1 = .bool true) rfl rfl) fun v3 G3 q3 => ?_
  dsimp only at q3
  subst q3
  refine KO.pv (PV.pickT rfl rfl rfl) rfl rfl ?_
  refine KO.pv (PV.assign rfl) rfl rfl ?_
  refine KO.nil ?_
  exact KC.ret ⟨rfl, _, rfl, rfl⟩

end Go.Eng

namespace Go.Eng
open Go Go.Proofs

theorem cells48_Clause : Tryz.prog.cellsOf 48 = 7 := by kernel_rfl
theorem cells3_Clause : Tryz.prog.cellsOf 3 = 1 := by kernel_rfl
theorem cells22_Clause : Tryz.prog.cellsOf 22 = 1 := by kernel_rfl
theorem cells46_Clause : Tryz.prog.cellsOf 46 = 1 := by kernel_rfl
theorem cells4_Clause : Tryz.prog.cellsOf 4 = 1 := by kernel_rfl
theorem fits22_Clause : Fits Tryz.prog (.list 1 (.num .i64)) 22 := ⟨3, Tryz.underlying22, cells3_Clause, by decide, by decide, by decide, .inl Tryz.underlying3⟩
theorem fits46_Clause : Fits Tryz.prog (.list 1 .bool) 46 := ⟨4, Tryz.underlying46, cells4_Clause, by decide, by decide, by decide, .inl Tryz.underlying4⟩
theorem fitsA_Clause : Fits.go Tryz.prog (.fld 0 (.num .i64) (.fld 1 (.list 1 (.num .i64)) (.fld 2 (.list 1 (.num .i64)) (.fld 3 (.list 1 .bool) (.fld 4 (.list 1 (.num .i64)) (.fld 5 (.list 1 (.num .i64)) (.fld 6 (.num .i64) .nil))))))) [{ name := "Vars", type := 3, offset := 0, embedded := false, tag := "", pkgPath := "", byteOffset := 0 }, { name := "C", type := 22, offset := 1, embedded := false, tag := "", pkgPath := "", byteOffset := 8 }, { name := "L", type := 22, offset := 2, embedded := false, tag := "", pkgPath := "", byteOffset := 32 }, { name := "Values", type := 46, offset := 3, embedded := false, tag := "", pkgPath := "", byteOffset := 56 }, { name := "A", type := 22, offset := 4, embedded := false, tag := "", pkgPath := "", byteOffset := 80 }, { name := "B", type := 22, offset := 5, embedded := false, tag := "", pkgPath := "", byteOffset := 104 }, { name := "V", type := 3, offset := 6, embedded := false, tag := "", pkgPath := "", byteOffset := 128 }] 0 7 := by
  refine ⟨_, _, rfl, rfl, rfl, ⟨_, _, rfl, ?_, ?_, ⟨_, _, rfl, ?_, ?_, ⟨_, _, rfl, ?_, ?_, ⟨_, _, rfl, ?_, ?_, ⟨_, _, rfl, ?_, ?_, ⟨_, _, rfl, ?_, ?_, ⟨rfl, ?_⟩, .inl Tryz.underlying3⟩, .inl fits22_Clause⟩, .inl fits22_Clause⟩, .inl fits46_Clause⟩, .inl fits22_Clause⟩, .inl fits22_Clause⟩, .inl Tryz.underlying3⟩ <;> simp only [cells3_Clause, cells22_Clause, cells46_Clause]
/-- From the reading of an argument in the machine to the call. -/
theorem core_Clause {K : Type} {enc : TypeId × Value → K} {μ : DataW K → Nat} (hμ : Msr μ) (W : World) (cs : Array Value) (hcs : cs.size = 7) {d0 : DataW K} {p0 : List MemPlace} {fuel : Nat} (hf : DataW.trod enc Tryz.prog W 0 (fun _ => true) true fuel 48 cs.toList = some (d0, p0)) (hz : W.noneFrozen p0) (hd : μ d0 ≤ 1048576) :
    Calls Tryz.prog 4 #[.agg cs] W fun e W' => e = .returned (.bool true) ∧ RowKit.Below W.heap.size W W' := by
  obtain ⟨φ, H, acs, ns, ss, D, k1, k2, k3, k4, k5, k6, k7, k8, k9, k10⟩ := arg_vr hμ (G := 8) (s := .fld 0 (.num .i64) (.fld 1 (.list 1 (.num .i64)) (.fld 2 (.list 1 (.num .i64)) (.fld 3 (.list 1 .bool) (.fld 4 (.list 1 (.num .i64)) (.fld 5 (.list 1 (.num .i64)) (.fld 6 (.num .i64) .nil))))))) (fun _ => rfl) Tryz.underlying48 (by rw [cells48_Clause]; exact fitsA_Clause) hf hz (by dsimp only; omega) _ _ (rel0 8 W) (fun i o hi => by simp [heap0, AHeap.get, Tr.get] at hi)
  have hal : acs.length = 7 := by rw [LRel.len k6]; simpa using hcs
  dsimp only at k10
  have hcall := calls_true k1 k2 k6 (top_4 (true, true) (fun _ => rfl) H acs ns ss D hal k7 k8 k9 (by omega) (by omega))
  rw [show cs.toList.toArray = cs by simp] at hcall
  exact hcall

end Go.Eng
