/- TopSharedPrefix answers true on the interpreter, and so on the machine. Conditions: none beyond each theorem's own. -/
import Derived.Test.YtbjiommpeeanmaaGreatDoorPrefixB17
import Derived.Test.YtbjiommpeeanmaaGreatDoorPrefixA
import Derived.KernelRfl
import Derived.Test.YtbjiommpeeanmaaGreatDoorAlive
set_option linter.all false
namespace Go.Eng
open Go Go.Proofs
theorem ag3_ZPrefix : isAggT E0.P 3 = some false := by kernel_rfl
theorem ag26_ZPrefix : isAggT E0.P 26 = some true := by kernel_rfl
theorem sz26_ZPrefix : sizeT E0.P 26 = some 5 := by kernel_rfl
theorem zt40_ZPrefix : zeroT E0.P 40 = some [.int .i64 0, .slice none 0 0, .slice none 0 0, .slice none 0 0, .slice none 0 0, .int .i64 0, .int .i64 0, .slice none 0 0, .slice none 0 0, .slice none 0 0, .slice none 0 0, .int .i64 0] := by kernel_rfl
theorem sz40_ZPrefix : sizeT E0.P 40 = some 12 := by kernel_rfl
theorem fo28_0_ZPrefix : foff E0.P 28 0 = some 0 := by kernel_rfl
theorem fo28_1_ZPrefix : foff E0.P 28 1 = some 5 := by kernel_rfl
theorem ag28_ZPrefix : isAggT E0.P 28 = some true := by kernel_rfl
theorem sz28_ZPrefix : sizeT E0.P 28 = some 6 := by kernel_rfl
theorem el33_ZPrefix : elemT E0.P 33 = some 47 := by kernel_rfl
theorem ez47_ZPrefix : elemZ E0.P 47 = some (1, [.nilFunc]) := by kernel_rfl
theorem el49_ZPrefix : elemT E0.P 49 = some 48 := by kernel_rfl
theorem ez48_ZPrefix : elemZ E0.P 48 = some (1, [.nilFunc]) := by kernel_rfl
abbrev ShPrefix : Sh := .fld 0 (.fld 0 (.num .i64) (.fld 1 (.list 2 (.fld 0 (.num .i64) (.fld 1 (.num .i64) .nil))) (.fld 2 (.list 2 (.fld 0 (.num .i64) (.fld 1 (.num .i64) .nil))) (.fld 3 (.list 1 (.num .i64)) (.fld 4 (.list 1 (.num .i64)) .nil))))) (.fld 5 (.num .i64) .nil)
theorem arg_Prefix {H : AHeap} {bx : Nat} {ns : List Int} {ss : List ByteArray} {D : List Nat} (h : Own H ⟨true, true, false⟩ ShPrefix bx ns ss D) (hl : ns.length ≤ 63000) :
    ∃ (r : Row) (yu0 : Int) (ya1 : Option Addr) (yn1 yc1 : Nat) (yl1 : List (Int × Int)) (ya2 : Option Addr) (yn2 yc2 : Nat) (yl2 : List (Int × Int)) (ya3 : Option Addr) (yn3 yc3 : Nat) (yl3 : List Int) (ya4 : Option Addr) (yn4 yc4 : Nat) (yl4 : List Int) (yu5 : Int), H.row bx = some r ∧ r.cs[0]? = some (.int .i64 yu0) ∧ IntKind.i64.wrap yu0 = yu0 ∧ r.cs[1]? = some (.slice ya1 yn1 yc1) ∧ V EP H ya1 yn1 yc1 yl1 ∧ exactBase ya1 = true ∧ yn1 ≤ 63000 ∧ r.cs[2]? = some (.slice ya2 yn2 yc2) ∧ V EP H ya2 yn2 yc2 yl2 ∧ exactBase ya2 = true ∧ yn2 ≤ 63000 ∧ r.cs[3]? = some (.slice ya3 yn3 yc3) ∧ V (EI .i64) H ya3 yn3 yc3 yl3 ∧ exactBase ya3 = true ∧ yn3 ≤ 63000 ∧ r.cs[4]? = some (.slice ya4 yn4 yc4) ∧ V (EI .i64) H ya4 yn4 yc4 yl4 ∧ exactBase ya4 = true ∧ yn4 ≤ 63000 ∧ r.cs[5]? = some (.int .i64 yu5) ∧ IntKind.i64.wrap yu5 = yu5 := by
  obtain ⟨r, hr, hw, hR⟩ := h.ex
  have hD := h.lD
  obtain ⟨n0, s0, D0, m0, t0, B0, r0, w0, rfl, rfl, rfl⟩ := hR
  obtain ⟨n1, s1, D1, m1, t1, B1, r1, w1, rfl, rfl, rfl⟩ := w0
  obtain ⟨rfl, rfl, rfl⟩ := w1
  obtain ⟨n2, s2, D2, m2, t2, B2, r2, w2, rfl, rfl, rfl⟩ := r0
  obtain ⟨n3, s3, D3, m3, t3, B3, r3, w3, rfl, rfl, rfl⟩ := w2
  obtain ⟨n4, s4, D4, m4, t4, B4, r4, w4, rfl, rfl, rfl⟩ := w3
  obtain ⟨n5, s5, D5, m5, t5, B5, r5, w5, rfl, rfl, rfl⟩ := w4
  obtain ⟨n6, s6, D6, m6, t6, B6, r6, w6, rfl, rfl, rfl⟩ := w5
  obtain ⟨rfl, rfl, rfl⟩ := w6
  obtain ⟨yu0, k2, z2, -⟩ := r2
  obtain ⟨ya1, yn1, yc1, yl1, k3, v3, e3, g3⟩ := rd_list rdP r3 (fun j hj => hD j (by simp only [List.mem_append, hj, true_or, or_true]))
  obtain ⟨ya2, yn2, yc2, yl2, k4, v4, e4, g4⟩ := rd_list rdP r4 (fun j hj => hD j (by simp only [List.mem_append, hj, true_or, or_true]))
  obtain ⟨ya3, yn3, yc3, yl3, k5, v5, e5, g5⟩ := rd_list (rdI .i64) r5 (fun j hj => hD j (by simp only [List.mem_append, hj, true_or, or_true]))
  obtain ⟨ya4, yn4, yc4, yl4, k6, v6, e6, g6⟩ := rd_list (rdI .i64) r6 (fun j hj => hD j (by simp only [List.mem_append, hj, true_or, or_true]))
  obtain ⟨yu5, k1, z1, -⟩ := r1
  exact ⟨r, yu0, ya1, yn1, yc1, yl1, ya2, yn2, yc2, yl2, ya3, yn3, yc3, yl3, ya4, yn4, yc4, yl4, yu5, hr, k2, z2, k3, v3, e3, (by simp only [List.length_append] at hl; omega), k4, v4, e4, (by simp only [List.length_append] at hl; omega), k5, v5, e5, (by simp only [List.length_append] at hl; omega), k6, v6, e6, (by simp only [List.length_append] at hl; omega), k1, z1⟩
theorem call_12 : CallOK' E0 3 9 47 12 ShPrefix := by
  intro H bx ns ss D hO hl1 _
  obtain ⟨r, yu0, ya1, yn1, yc1, yl1, ya2, yn2, yc2, yl2, ya3, yn3, yc3, yl3, ya4, yn4, yc4, yl4, yu5, hr, x0, w_u0, x1, h_l1, ex_l1, b_l1, x2, h_l2, ex_l2, b_l2, x3, h_l3, ex_l3, b_l3, x4, h_l4, ex_l4, b_l4, x5, w_u5⟩ := arg_Prefix hO hl1
  obtain ⟨lo_u0, hi_u0⟩ := rangei64 w_u0
  obtain ⟨len_l1, cap_l1, max_l1, wf_l1⟩ := h_l1.len
  obtain ⟨len_l2, cap_l2, max_l2, wf_l2⟩ := h_l2.len
  obtain ⟨len_l3, cap_l3, max_l3, wf_l3⟩ := h_l3.len
  obtain ⟨len_l4, cap_l4, max_l4, wf_l4⟩ := h_l4.len
  obtain ⟨lo_u5, hi_u5⟩ := rangei64 w_u5
  have m0 : Mem [] H H [] := Mem.start
  refine WF.kg Tryz.func12 rfl rfl ?_
  refine KC.seq ?_
  refine KC.region ?_
  refine KO.pv (PV.assign rfl) rfl rfl ?_
  refine KO.nil ?_
  refine KC.seq ?_
  refine KC.drawG (n := 15) (anc := [0, 1, 3, 7, 0, 16, 48, 112, 255, 511, 1023, 1023, 0, 6143, 16383]) (hv := [8, 13]) (ord := [0, 1, 2, 3, 4, 5, 6, 7, 8, 9, 10, 12, 13, 11, 14]) (by kernel_rfl) (by kernel_rfl) (by kernel_rfl) (by kernel_rfl) (by kernel_rfl) fun H1 n2 g3 => ?_
  have m4 := m0.room n2 g3 [12] (by decide) (by decide)
  refine KD.pv 1 (PV.move rfl) rfl rfl rfl (by kernel_rfl) rfl rfl rfl ?_
  refine KD.pv 3 (PV.nilCheck rfl) rfl rfl rfl (by kernel_rfl) rfl rfl rfl ?_
  refine KD.pv 7 (PV.fieldAddr fo28_0_ZPrefix rfl) rfl rfl rfl (by kernel_rfl) rfl rfl rfl ?_
  refine KD.load 15 rfl (m4.row0 hO.lb hr) (readN ag26_ZPrefix sz26_ZPrefix (takeN_cons x0 (takeN_cons x1 (takeN_cons x2 (takeN_cons x3 (takeN_cons x4 takeN_nil)))))) (pastGo (k := 1) (l := [H1]) (by kernel_rfl) rfl (pastCons ⟨_, (m4.row0 hO.lb hr), (readN ag26_ZPrefix sz26_ZPrefix (takeN_cons x0 (takeN_cons x1 (takeN_cons x2 (takeN_cons x3 (takeN_cons x4 takeN_nil))))))⟩ pastNil)) (veq_agg (veqCons veqI (veqCons veqS (veqCons veqS (veqCons veqS (veqCons veqS veqNil)))))) rfl (by kernel_rfl) rfl rfl rfl ?_
  refine KD.pv 31 (PV.move rfl) rfl rfl rfl (by kernel_rfl) rfl rfl rfl ?_
  refine KD.pv 63 (PV.nilCheck rfl) rfl rfl rfl (by kernel_rfl) rfl rfl rfl ?_
  refine KD.pv 127 (PV.fieldAddr fo28_1_ZPrefix rfl) rfl rfl rfl (by kernel_rfl) rfl rfl rfl ?_
  refine KD.load 255 rfl (m4.row0 hO.lb hr) (by rw [read1 ag3_ZPrefix]; exact x5) (pastGo (k := 1) (l := [H1]) (by kernel_rfl) rfl (pastCons ⟨_, (m4.row0 hO.lb hr), (by rw [read1 ag3_ZPrefix]; exact x5)⟩ pastNil)) veq_int rfl (by kernel_rfl) rfl rfl rfl ?_
  refine KD.call 511 rfl rfl rfl (by kernel_rfl) rfl rfl rfl (pref_Of H1 yu0 ya1 yn1 yc1 _ ya2 yn2 yc2 _ ya3 yn3 yc3 _ ya4 yn4 yc4 _ yu5 (wrap64 (by omega) (by omega)) (V.mem m4 h_l1) (V.mem m4 h_l2) (V.mem m4 h_l3) (V.mem m4 h_l4) (wrap64 (by omega) (by omega))) fun v5 H5 q5 => ?_
  obtain ⟨r0_5, r1a5, r1n5, r1c5, r1_5, r1D5, r2a5, r2n5, r2c5, r2_5, r2D5, r3a5, r3n5, r3c5, r3_5, r3D5, r4a5, r4n5, r4c5, r4_5, r4D5, r5_5, r6_5, r7a5, r7n5, r7c5, r7_5, r7D5, r8a5, r8n5, r8c5, r8v5, r8D5, r8_5, r8E5, r9a5, r9n5, r9c5, r9_5, r9D5, r10a5, r10n5, r10c5, r10_5, r10D5, r11_5, e5, hv5, mc5, p5_0, p5_1, p5_2, p5_3⟩ := q5
  dsimp only at hv5 mc5
  subst hv5
  have m6 := m4.seq mc5
  refine KD.pv 1023 (PV.move rfl) rfl rfl rfl (by kernel_rfl) rfl rfl rfl ?_
  refine KD.pv 2047 (PV.extract rfl rfl) rfl rfl rfl (by kernel_rfl) rfl rfl rfl ?_
  refine KD.allocM 6143 m6 (j := 9) rfl zt40_ZPrefix rfl (by kernel_rfl) rfl rfl rfl fun H7 m8 => ?_
  refine KD.storeM 14335 m8 (j := 9) rfl sz40_ZPrefix rfl rfl rfl (show 0 + 12 ≤ 12 by decide) (show _ = [.int .i64 r0_5, .slice r1a5 r1n5 r1c5, .slice r2a5 r2n5 r2c5, .slice r3a5 r3n5 r3c5, .slice r4a5 r4n5 r4c5, .int .i64 r5_5, .int .i64 r6_5, .slice r7a5 r7n5 r7c5, .slice r8a5 r8n5 r8c5, .slice r9a5 r9n5 r9c5, .slice r10a5 r10n5 r10c5, .int .i64 r11_5] from rfl) rfl (by kernel_rfl) rfl rfl fun H9 m10 => ?_
  refine KD.pv 16383 (PV.extract rfl rfl) rfl rfl rfl (by kernel_rfl) rfl rfl rfl ?_
  refine KD.pv 32767 (PV.assign rfl) rfl rfl rfl (by kernel_rfl) rfl rfl rfl ?_
  refine KD.nil ⟨rfl, ?_⟩
  refine KC.seq ?_
  refine KC.region ?_
  refine KO.pv (PV.makeFunc rfl rfl) rfl rfl ?_
  refine KO.buildSliceM m10 el33_ZPrefix ez47_ZPrefix rfl rfl (show _ = some [.func (.func 14) #[] #[.pointer (some ⟨(H.next + 12), 0, none⟩)]] from rfl) rfl rfl fun H11 m12 => ?_
  refine KO.pv (PV.assign rfl) rfl rfl ?_
  refine KO.nil ?_
  obtain ⟨nr13, rd13, ln13, lm13⟩ := OwnV.rd rdP (m12.res (i := 1) rfl) (cs := [.int .i64 r0_5, .slice r1a5 r1n5 r1c5, .slice r2a5 r2n5 r2c5, .slice r3a5 r3n5 r3c5, .slice r4a5 r4n5 r4c5, .int .i64 r5_5, .int .i64 r6_5, .slice r7a5 r7n5 r7c5, .slice r8a5 r8n5 r8c5, .slice r9a5 r9n5 r9c5, .slice r10a5 r10n5 r10c5, .int .i64 r11_5]) (o := 1) rfl
  obtain ⟨nr14, rd14, ln14, lm14⟩ := OwnV.rd rdP (m12.res (i := 2) rfl) (cs := [.int .i64 r0_5, .slice r1a5 r1n5 r1c5, .slice r2a5 r2n5 r2c5, .slice r3a5 r3n5 r3c5, .slice r4a5 r4n5 r4c5, .int .i64 r5_5, .int .i64 r6_5, .slice r7a5 r7n5 r7c5, .slice r8a5 r8n5 r8c5, .slice r9a5 r9n5 r9c5, .slice r10a5 r10n5 r10c5, .int .i64 r11_5]) (o := 2) rfl
  obtain ⟨nr15, rd15, ln15, lm15⟩ := OwnV.rd (rdI .i64) (m12.res (i := 3) rfl) (cs := [.int .i64 r0_5, .slice r1a5 r1n5 r1c5, .slice r2a5 r2n5 r2c5, .slice r3a5 r3n5 r3c5, .slice r4a5 r4n5 r4c5, .int .i64 r5_5, .int .i64 r6_5, .slice r7a5 r7n5 r7c5, .slice r8a5 r8n5 r8c5, .slice r9a5 r9n5 r9c5, .slice r10a5 r10n5 r10c5, .int .i64 r11_5]) (o := 3) rfl
  obtain ⟨nr16, rd16, ln16, lm16⟩ := OwnV.rd (rdI .i64) (m12.res (i := 4) rfl) (cs := [.int .i64 r0_5, .slice r1a5 r1n5 r1c5, .slice r2a5 r2n5 r2c5, .slice r3a5 r3n5 r3c5, .slice r4a5 r4n5 r4c5, .int .i64 r5_5, .int .i64 r6_5, .slice r7a5 r7n5 r7c5, .slice r8a5 r8n5 r8c5, .slice r9a5 r9n5 r9c5, .slice r10a5 r10n5 r10c5, .int .i64 r11_5]) (o := 4) rfl
  obtain ⟨nr17, rd17, ln17, lm17⟩ := OwnV.rd (rdI .i64) (m12.res (i := 5) rfl) (cs := [.int .i64 r0_5, .slice r1a5 r1n5 r1c5, .slice r2a5 r2n5 r2c5, .slice r3a5 r3n5 r3c5, .slice r4a5 r4n5 r4c5, .int .i64 r5_5, .int .i64 r6_5, .slice r7a5 r7n5 r7c5, .slice r8a5 r8n5 r8c5, .slice r9a5 r9n5 r9c5, .slice r10a5 r10n5 r10c5, .int .i64 r11_5]) (o := 7) rfl
  obtain ⟨nr18, rd18, ln18⟩ := InnOK.rd (rdI .i64) (m12.res (i := 6) rfl) (m12.res (i := 7) rfl) (cs := [.int .i64 r0_5, .slice r1a5 r1n5 r1c5, .slice r2a5 r2n5 r2c5, .slice r3a5 r3n5 r3c5, .slice r4a5 r4n5 r4c5, .int .i64 r5_5, .int .i64 r6_5, .slice r7a5 r7n5 r7c5, .slice r8a5 r8n5 r8c5, .slice r9a5 r9n5 r9c5, .slice r10a5 r10n5 r10c5, .int .i64 r11_5]) (o := 8) rfl
  have lt18 := total_le (xss := r8_5) (k := 1000) (by first | assumption | exact all_nil)
  have li18 := m12.innLen (i := 7) rfl
  have lo18 := m12.ownLen (i := 6) rfl
  obtain ⟨nr19, rd19, ln19, lm19⟩ := OwnV.rd (rdI .i64) (m12.res (i := 8) rfl) (cs := [.int .i64 r0_5, .slice r1a5 r1n5 r1c5, .slice r2a5 r2n5 r2c5, .slice r3a5 r3n5 r3c5, .slice r4a5 r4n5 r4c5, .int .i64 r5_5, .int .i64 r6_5, .slice r7a5 r7n5 r7c5, .slice r8a5 r8n5 r8c5, .slice r9a5 r9n5 r9c5, .slice r10a5 r10n5 r10c5, .int .i64 r11_5]) (o := 9) rfl
  obtain ⟨nr20, rd20, ln20, lm20⟩ := OwnV.rd rdP (m12.res (i := 9) rfl) (cs := [.int .i64 r0_5, .slice r1a5 r1n5 r1c5, .slice r2a5 r2n5 r2c5, .slice r3a5 r3n5 r3c5, .slice r4a5 r4n5 r4c5, .int .i64 r5_5, .int .i64 r6_5, .slice r7a5 r7n5 r7c5, .slice r8a5 r8n5 r8c5, .slice r9a5 r9n5 r9c5, .slice r10a5 r10n5 r10c5, .int .i64 r11_5]) (o := 10) rfl
  exact KC.ret ⟨rfl, _, (.tmp rfl .nil), call_one (m12.pick [0, 10, 1, 2, 3, 4, 5, 6, 7, 8, 9] (by decide) rfl) rfl (see_14 9) ⟨_, _, _, _, _, _, ⟨_, _, _, _, _, _, ⟨_, rfl, (wrap64 (by omega) (by omega)), rfl, rfl, rfl⟩, ⟨_, _, _, _, _, _, rd13, ⟨_, _, _, _, _, _, rd14, ⟨_, _, _, _, _, _, rd15, ⟨_, _, _, _, _, _, rd16, ⟨rfl, rfl, rfl⟩, rfl, rfl, rfl⟩, rfl, rfl, rfl⟩, rfl, rfl, rfl⟩, rfl, rfl, rfl⟩, rfl, rfl, rfl⟩, ⟨_, _, _, _, _, _, ⟨_, _, _, _, _, _, ⟨_, rfl, (wrap64 (by omega) (by omega)), rfl, rfl, rfl⟩, ⟨_, _, _, _, _, _, ⟨_, rfl, (wrap64 (by omega) (by omega)), rfl, rfl, rfl⟩, ⟨_, _, _, _, _, _, rd17, ⟨_, _, _, _, _, _, rd18, ⟨_, _, _, _, _, _, rd19, ⟨_, _, _, _, _, _, ⟨_, _, _, _, _, _, rd20, ⟨_, _, _, _, _, _, ⟨_, rfl, (wrap64 (by omega) (by omega)), rfl, rfl, rfl⟩, ⟨rfl, rfl, rfl⟩, rfl, rfl, rfl⟩, rfl, rfl, rfl⟩, ⟨rfl, rfl, rfl⟩, rfl, rfl, rfl⟩, rfl, rfl, rfl⟩, rfl, rfl, rfl⟩, rfl, rfl, rfl⟩, rfl, rfl, rfl⟩, rfl, rfl, rfl⟩, ⟨rfl, rfl, rfl⟩, rfl, rfl, rfl⟩, rfl, rfl, rfl⟩ (by simp [R.own, R.inn, pickL]) (by simp only [List.length_append, List.length_cons, List.length_nil] <;> omega) (by simp)⟩
theorem call_16 : CallOK' E0 3 9 47 16 ShPrefix := by
  intro H bx ns ss D hO hl1 _
  obtain ⟨r, yu0, ya1, yn1, yc1, yl1, ya2, yn2, yc2, yl2, ya3, yn3, yc3, yl3, ya4, yn4, yc4, yl4, yu5, hr, x0, w_u0, x1, h_l1, ex_l1, b_l1, x2, h_l2, ex_l2, b_l2, x3, h_l3, ex_l3, b_l3, x4, h_l4, ex_l4, b_l4, x5, w_u5⟩ := arg_Prefix hO hl1
  obtain ⟨lo_u0, hi_u0⟩ := rangei64 w_u0
  obtain ⟨len_l1, cap_l1, max_l1, wf_l1⟩ := h_l1.len
  obtain ⟨len_l2, cap_l2, max_l2, wf_l2⟩ := h_l2.len
  obtain ⟨len_l3, cap_l3, max_l3, wf_l3⟩ := h_l3.len
  obtain ⟨len_l4, cap_l4, max_l4, wf_l4⟩ := h_l4.len
  obtain ⟨lo_u5, hi_u5⟩ := rangei64 w_u5
  have m0 : Mem [] H H [] := Mem.start
  refine WF.kg Tryz.func16 rfl rfl ?_
  refine KC.seq ?_
  refine KC.region ?_
  refine KO.pv (PV.assign rfl) rfl rfl ?_
  refine KO.nil ?_
  refine KC.seq ?_
  refine KC.drawG (n := 15) (anc := [0, 1, 3, 7, 0, 16, 48, 112, 255, 511, 1023, 1023, 0, 6143, 16383]) (hv := [8, 13]) (ord := [0, 1, 2, 3, 4, 5, 6, 7, 8, 9, 10, 12, 13, 11, 14]) (by kernel_rfl) (by kernel_rfl) (by kernel_rfl) (by kernel_rfl) (by kernel_rfl) fun H1 n2 g3 => ?_
  have m4 := m0.room n2 g3 [12] (by decide) (by decide)
  refine KD.pv 1 (PV.move rfl) rfl rfl rfl (by kernel_rfl) rfl rfl rfl ?_
  refine KD.pv 3 (PV.nilCheck rfl) rfl rfl rfl (by kernel_rfl) rfl rfl rfl ?_
  refine KD.pv 7 (PV.fieldAddr fo28_0_ZPrefix rfl) rfl rfl rfl (by kernel_rfl) rfl rfl rfl ?_
  refine KD.load 15 rfl (m4.row0 hO.lb hr) (readN ag26_ZPrefix sz26_ZPrefix (takeN_cons x0 (takeN_cons x1 (takeN_cons x2 (takeN_cons x3 (takeN_cons x4 takeN_nil)))))) (pastGo (k := 1) (l := [H1]) (by kernel_rfl) rfl (pastCons ⟨_, (m4.row0 hO.lb hr), (readN ag26_ZPrefix sz26_ZPrefix (takeN_cons x0 (takeN_cons x1 (takeN_cons x2 (takeN_cons x3 (takeN_cons x4 takeN_nil))))))⟩ pastNil)) (veq_agg (veqCons veqI (veqCons veqS (veqCons veqS (veqCons veqS (veqCons veqS veqNil)))))) rfl (by kernel_rfl) rfl rfl rfl ?_
  refine KD.pv 31 (PV.move rfl) rfl rfl rfl (by kernel_rfl) rfl rfl rfl ?_
  refine KD.pv 63 (PV.nilCheck rfl) rfl rfl rfl (by kernel_rfl) rfl rfl rfl ?_
  refine KD.pv 127 (PV.fieldAddr fo28_1_ZPrefix rfl) rfl rfl rfl (by kernel_rfl) rfl rfl rfl ?_
  refine KD.load 255 rfl (m4.row0 hO.lb hr) (by rw [read1 ag3_ZPrefix]; exact x5) (pastGo (k := 1) (l := [H1]) (by kernel_rfl) rfl (pastCons ⟨_, (m4.row0 hO.lb hr), (by rw [read1 ag3_ZPrefix]; exact x5)⟩ pastNil)) veq_int rfl (by kernel_rfl) rfl rfl rfl ?_
  refine KD.call 511 rfl rfl rfl (by kernel_rfl) rfl rfl rfl (pref_Pass H1 yu0 ya1 yn1 yc1 _ ya2 yn2 yc2 _ ya3 yn3 yc3 _ ya4 yn4 yc4 _ yu5 (wrap64 (by omega) (by omega)) (V.mem m4 h_l1) (V.mem m4 h_l2) (V.mem m4 h_l3) (V.mem m4 h_l4) (wrap64 (by omega) (by omega))) fun v5 H5 q5 => ?_
  obtain ⟨r0_5, r1a5, r1n5, r1c5, r1_5, r1D5, r2a5, r2n5, r2c5, r2_5, r2D5, r3a5, r3n5, r3c5, r3_5, r3D5, r4a5, r4n5, r4c5, r4_5, r4D5, r5_5, r6_5, r7a5, r7n5, r7c5, r7_5, r7D5, r8a5, r8n5, r8c5, r8v5, r8D5, r8_5, r8E5, r9a5, r9n5, r9c5, r9_5, r9D5, r10a5, r10n5, r10c5, r10_5, r10D5, r11_5, e5, hv5, mc5, p5_0, p5_1, p5_2, p5_3⟩ := q5
  dsimp only at hv5 mc5
  subst hv5
  have m6 := m4.seq mc5
  refine KD.pv 1023 (PV.move rfl) rfl rfl rfl (by kernel_rfl) rfl rfl rfl ?_
  refine KD.pv 2047 (PV.extract rfl rfl) rfl rfl rfl (by kernel_rfl) rfl rfl rfl ?_
  refine KD.allocM 6143 m6 (j := 9) rfl zt40_ZPrefix rfl (by kernel_rfl) rfl rfl rfl fun H7 m8 => ?_
  refine KD.storeM 14335 m8 (j := 9) rfl sz40_ZPrefix rfl rfl rfl (show 0 + 12 ≤ 12 by decide) (show _ = [.int .i64 r0_5, .slice r1a5 r1n5 r1c5, .slice r2a5 r2n5 r2c5, .slice r3a5 r3n5 r3c5, .slice r4a5 r4n5 r4c5, .int .i64 r5_5, .int .i64 r6_5, .slice r7a5 r7n5 r7c5, .slice r8a5 r8n5 r8c5, .slice r9a5 r9n5 r9c5, .slice r10a5 r10n5 r10c5, .int .i64 r11_5] from rfl) rfl (by kernel_rfl) rfl rfl fun H9 m10 => ?_
  refine KD.pv 16383 (PV.extract rfl rfl) rfl rfl rfl (by kernel_rfl) rfl rfl rfl ?_
  refine KD.pv 32767 (PV.assign rfl) rfl rfl rfl (by kernel_rfl) rfl rfl rfl ?_
  refine KD.nil ⟨rfl, ?_⟩
  refine KC.seq ?_
  refine KC.region ?_
  refine KO.pv (PV.makeFunc rfl rfl) rfl rfl ?_
  refine KO.buildSliceM m10 el33_ZPrefix ez47_ZPrefix rfl rfl (show _ = some [.func (.func 18) #[] #[.pointer (some ⟨(H.next + 12), 0, none⟩)]] from rfl) rfl rfl fun H11 m12 => ?_
  refine KO.pv (PV.assign rfl) rfl rfl ?_
  refine KO.nil ?_
  obtain ⟨nr13, rd13, ln13, lm13⟩ := OwnV.rd rdP (m12.res (i := 1) rfl) (cs := [.int .i64 r0_5, .slice r1a5 r1n5 r1c5, .slice r2a5 r2n5 r2c5, .slice r3a5 r3n5 r3c5, .slice r4a5 r4n5 r4c5, .int .i64 r5_5, .int .i64 r6_5, .slice r7a5 r7n5 r7c5, .slice r8a5 r8n5 r8c5, .slice r9a5 r9n5 r9c5, .slice r10a5 r10n5 r10c5, .int .i64 r11_5]) (o := 1) rfl
  obtain ⟨nr14, rd14, ln14, lm14⟩ := OwnV.rd rdP (m12.res (i := 2) rfl) (cs := [.int .i64 r0_5, .slice r1a5 r1n5 r1c5, .slice r2a5 r2n5 r2c5, .slice r3a5 r3n5 r3c5, .slice r4a5 r4n5 r4c5, .int .i64 r5_5, .int .i64 r6_5, .slice r7a5 r7n5 r7c5, .slice r8a5 r8n5 r8c5, .slice r9a5 r9n5 r9c5, .slice r10a5 r10n5 r10c5, .int .i64 r11_5]) (o := 2) rfl
  obtain ⟨nr15, rd15, ln15, lm15⟩ := OwnV.rd (rdI .i64) (m12.res (i := 3) rfl) (cs := [.int .i64 r0_5, .slice r1a5 r1n5 r1c5, .slice r2a5 r2n5 r2c5, .slice r3a5 r3n5 r3c5, .slice r4a5 r4n5 r4c5, .int .i64 r5_5, .int .i64 r6_5, .slice r7a5 r7n5 r7c5, .slice r8a5 r8n5 r8c5, .slice r9a5 r9n5 r9c5, .slice r10a5 r10n5 r10c5, .int .i64 r11_5]) (o := 3) rfl
  obtain ⟨nr16, rd16, ln16, lm16⟩ := OwnV.rd (rdI .i64) (m12.res (i := 4) rfl) (cs := [.int .i64 r0_5, .slice r1a5 r1n5 r1c5, .slice r2a5 r2n5 r2c5, .slice r3a5 r3n5 r3c5, .slice r4a5 r4n5 r4c5, .int .i64 r5_5, .int .i64 r6_5, .slice r7a5 r7n5 r7c5, .slice r8a5 r8n5 r8c5, .slice r9a5 r9n5 r9c5, .slice r10a5 r10n5 r10c5, .int .i64 r11_5]) (o := 4) rfl
  obtain ⟨nr17, rd17, ln17, lm17⟩ := OwnV.rd (rdI .i64) (m12.res (i := 5) rfl) (cs := [.int .i64 r0_5, .slice r1a5 r1n5 r1c5, .slice r2a5 r2n5 r2c5, .slice r3a5 r3n5 r3c5, .slice r4a5 r4n5 r4c5, .int .i64 r5_5, .int .i64 r6_5, .slice r7a5 r7n5 r7c5, .slice r8a5 r8n5 r8c5, .slice r9a5 r9n5 r9c5, .slice r10a5 r10n5 r10c5, .int .i64 r11_5]) (o := 7) rfl
  obtain ⟨nr18, rd18, ln18⟩ := InnOK.rd (rdI .i64) (m12.res (i := 6) rfl) (m12.res (i := 7) rfl) (cs := [.int .i64 r0_5, .slice r1a5 r1n5 r1c5, .slice r2a5 r2n5 r2c5, .slice r3a5 r3n5 r3c5, .slice r4a5 r4n5 r4c5, .int .i64 r5_5, .int .i64 r6_5, .slice r7a5 r7n5 r7c5, .slice r8a5 r8n5 r8c5, .slice r9a5 r9n5 r9c5, .slice r10a5 r10n5 r10c5, .int .i64 r11_5]) (o := 8) rfl
  have lt18 := total_le (xss := r8_5) (k := 1000) (by first | assumption | exact all_nil)
  have li18 := m12.innLen (i := 7) rfl
  have lo18 := m12.ownLen (i := 6) rfl
  obtain ⟨nr19, rd19, ln19, lm19⟩ := OwnV.rd (rdI .i64) (m12.res (i := 8) rfl) (cs := [.int .i64 r0_5, .slice r1a5 r1n5 r1c5, .slice r2a5 r2n5 r2c5, .slice r3a5 r3n5 r3c5, .slice r4a5 r4n5 r4c5, .int .i64 r5_5, .int .i64 r6_5, .slice r7a5 r7n5 r7c5, .slice r8a5 r8n5 r8c5, .slice r9a5 r9n5 r9c5, .slice r10a5 r10n5 r10c5, .int .i64 r11_5]) (o := 9) rfl
  obtain ⟨nr20, rd20, ln20, lm20⟩ := OwnV.rd rdP (m12.res (i := 9) rfl) (cs := [.int .i64 r0_5, .slice r1a5 r1n5 r1c5, .slice r2a5 r2n5 r2c5, .slice r3a5 r3n5 r3c5, .slice r4a5 r4n5 r4c5, .int .i64 r5_5, .int .i64 r6_5, .slice r7a5 r7n5 r7c5, .slice r8a5 r8n5 r8c5, .slice r9a5 r9n5 r9c5, .slice r10a5 r10n5 r10c5, .int .i64 r11_5]) (o := 10) rfl
  exact KC.ret ⟨rfl, _, (.tmp rfl .nil), call_one (m12.pick [0, 10, 1, 2, 3, 4, 5, 6, 7, 8, 9] (by decide) rfl) rfl (see_18 9) ⟨_, _, _, _, _, _, ⟨_, _, _, _, _, _, ⟨_, rfl, (wrap64 (by omega) (by omega)), rfl, rfl, rfl⟩, ⟨_, _, _, _, _, _, rd13, ⟨_, _, _, _, _, _, rd14, ⟨_, _, _, _, _, _, rd15, ⟨_, _, _, _, _, _, rd16, ⟨rfl, rfl, rfl⟩, rfl, rfl, rfl⟩, rfl, rfl, rfl⟩, rfl, rfl, rfl⟩, rfl, rfl, rfl⟩, rfl, rfl, rfl⟩, ⟨_, _, _, _, _, _, ⟨_, _, _, _, _, _, ⟨_, rfl, (wrap64 (by omega) (by omega)), rfl, rfl, rfl⟩, ⟨_, _, _, _, _, _, ⟨_, rfl, (wrap64 (by omega) (by omega)), rfl, rfl, rfl⟩, ⟨_, _, _, _, _, _, rd17, ⟨_, _, _, _, _, _, rd18, ⟨_, _, _, _, _, _, rd19, ⟨_, _, _, _, _, _, ⟨_, _, _, _, _, _, rd20, ⟨_, _, _, _, _, _, ⟨_, rfl, (wrap64 (by omega) (by omega)), rfl, rfl, rfl⟩, ⟨rfl, rfl, rfl⟩, rfl, rfl, rfl⟩, rfl, rfl, rfl⟩, ⟨rfl, rfl, rfl⟩, rfl, rfl, rfl⟩, rfl, rfl, rfl⟩, rfl, rfl, rfl⟩, rfl, rfl, rfl⟩, rfl, rfl, rfl⟩, rfl, rfl, rfl⟩, ⟨rfl, rfl, rfl⟩, rfl, rfl, rfl⟩, rfl, rfl, rfl⟩ (by simp [R.own, R.inn, pickL]) (by simp only [List.length_append, List.length_cons, List.length_nil] <;> omega) (by simp)⟩
theorem top_3 (w : Bool × Bool) (hwS : Sh.bools (.fld 0 (.fld 0 (.num .i64) (.fld 1 (.list 2 (.fld 0 (.num .i64) (.fld 1 (.num .i64) .nil))) (.fld 2 (.list 2 (.fld 0 (.num .i64) (.fld 1 (.num .i64) .nil))) (.fld 3 (.list 1 (.num .i64)) (.fld 4 (.list 1 (.num .i64)) .nil))))) (.fld 5 (.num .i64) .nil)) = true → w.1 = true) (H : AHeap) (cs : List Value) (ns : List Int) (ss : List ByteArray) (D : List Nat) (hcl : cs.length = 6) (hone : cs.all oneC = true) (hR : Rd H ⟨false, w.1, w.2⟩ (.fld 0 (.fld 0 (.num .i64) (.fld 1 (.list 2 (.fld 0 (.num .i64) (.fld 1 (.num .i64) .nil))) (.fld 2 (.list 2 (.fld 0 (.num .i64) (.fld 1 (.num .i64) .nil))) (.fld 3 (.list 1 (.num .i64)) (.fld 4 (.list 1 (.num .i64)) .nil))))) (.fld 5 (.num .i64) .nil)) cs 0 ns ss D) (hD : ∀ j ∈ D, j < H.next) (l1 : ns.length ≤ 10000000) (l2 : ss.length ≤ 10000000) :
    WF E0 3 [.agg cs.toArray] H fun q => q.1 = .bool true := by
  have hcalls : ∀ f ∈ ([12, 16] : List FuncId), CallOK' E0 3 9 47 f (.fld 0 (.fld 0 (.num .i64) (.fld 1 (.list 2 (.fld 0 (.num .i64) (.fld 1 (.num .i64) .nil))) (.fld 2 (.list 2 (.fld 0 (.num .i64) (.fld 1 (.num .i64) .nil))) (.fld 3 (.list 1 (.num .i64)) (.fld 4 (.list 1 (.num .i64)) .nil))))) (.fld 5 (.num .i64) .nil)) ∧ E0.ext f = none := by
    intro f hf
    simp only [List.mem_cons, List.not_mem_nil, or_false] at hf
    rcases hf with rfl | rfl
    · exact ⟨call_12, rfl⟩
    · exact ⟨call_16, rfl⟩
  refine WF.k Tryz.func3 rfl rfl ?_
  refine KC.seq (KC.region ?_)
  refine KO.box (rfl) ((boxAgg hone)) rfl rfl fun G0 u0 => ?_
  refine KO.pv (PV.assign rfl) rfl rfl ?_
  refine KO.nil ?_
  rw [show cellsV (.agg cs.toArray) = cs by simp [cellsV]] at u0
  have hX : G0.row H.next = some ⟨28, true, true, cs⟩ := by rw [u0.row, if_pos rfl]
  have hn0 := u0.next
  refine KC.seq (KC.region ?_)
  refine KO.loadN ag28_ZPrefix sz28_ZPrefix rfl (hX) ((takeN_of (p := cs) (by rw [List.drop_zero, ← hcl, List.take_length]) hcl)) rfl rfl ?_
  refine KO.buildSlice el49_ZPrefix ez48_ZPrefix rfl rfl (rfl) rfl rfl fun G1 u1 => ?_
  refine KO.call rfl rfl rfl rfl (apart_9 (own := 10) (see := 11) (calls := [12, 16]) own_10 (see_11 9) hcalls rfl rfl (by decide) G1 cs ns ss D hcl hone w hwS (hR.frame fun j hj => by have := hD j hj; rw [u1.row, if_neg (by omega), u0.row, if_neg (by omega)]) (fun j hj => by have := hD j hj; rw [u1.next]; omega) l1 l2 G0.next (by rw [u1.row, if_pos rfl]; rfl) (by rw [u1.next]; omega)) fun v2 G2 q2 => ?_
  dsimp only at q2
  subst q2
  refine KO.pv (PV.move rfl) rfl rfl ?_
  refine KO.call rfl rfl rfl rfl (WF.sum (Q := fun q => q.1 = .bool true) rfl rfl) fun v3 G3 q3 => ?_
  dsimp only at q3
  subst q3
  refine KO.pv (PV.pickT rfl rfl rfl) rfl rfl ?_
  refine KO.pv (PV.assign rfl) rfl rfl ?_
  refine KO.nil ?_
  exact KC.ret ⟨rfl, _, rfl, rfl⟩
end Go.Eng

namespace Go.Eng
open Go Go.Proofs
theorem cells28_Prefix : Tryz.prog.cellsOf 28 = 6 := by kernel_rfl
theorem cells3_Prefix : Tryz.prog.cellsOf 3 = 1 := by kernel_rfl
theorem cells26_Prefix : Tryz.prog.cellsOf 26 = 5 := by kernel_rfl
theorem cells24_Prefix : Tryz.prog.cellsOf 24 = 1 := by kernel_rfl
theorem cells23_Prefix : Tryz.prog.cellsOf 23 = 1 := by kernel_rfl
theorem cells187_Prefix : Tryz.prog.cellsOf 187 = 2 := by kernel_rfl
theorem cells22_Prefix : Tryz.prog.cellsOf 22 = 1 := by kernel_rfl
theorem cells150_Prefix : Tryz.prog.cellsOf 150 = 2 := by kernel_rfl
theorem fits24_Prefix : Fits Tryz.prog (.list 1 (.num .i64)) 24 := ⟨3, Tryz.underlying24, cells3_Prefix, by decide, by decide, by decide, .inl Tryz.underlying3⟩
theorem fits23_Prefix : Fits Tryz.prog (.list 2 (.fld 0 (.num .i64) (.fld 1 (.num .i64) .nil))) 23 := ⟨187, Tryz.underlying23, cells187_Prefix, by decide, by decide, by decide, .inr ⟨_, Tryz.underlying187, by
    rw [cells187_Prefix]
    refine ⟨_, _, rfl, rfl, rfl, ⟨_, _, rfl, ?_, ?_, ⟨rfl, ?_⟩, .inl Tryz.underlying3⟩, .inl Tryz.underlying3⟩ <;> simp only [cells3_Prefix]⟩⟩
theorem fits22_Prefix : Fits Tryz.prog (.list 2 (.fld 0 (.num .i64) (.fld 1 (.num .i64) .nil))) 22 := ⟨150, Tryz.underlying22, cells150_Prefix, by decide, by decide, by decide, .inr ⟨_, Tryz.underlying150, by
    rw [cells150_Prefix]
    refine ⟨_, _, rfl, rfl, rfl, ⟨_, _, rfl, ?_, ?_, ⟨rfl, ?_⟩, .inl Tryz.underlying3⟩, .inl Tryz.underlying3⟩ <;> simp only [cells3_Prefix]⟩⟩
theorem fitsA_Prefix : Fits.go Tryz.prog (.fld 0 (.fld 0 (.num .i64) (.fld 1 (.list 2 (.fld 0 (.num .i64) (.fld 1 (.num .i64) .nil))) (.fld 2 (.list 2 (.fld 0 (.num .i64) (.fld 1 (.num .i64) .nil))) (.fld 3 (.list 1 (.num .i64)) (.fld 4 (.list 1 (.num .i64)) .nil))))) (.fld 5 (.num .i64) .nil)) [{ name := "C", type := 26, offset := 0, embedded := false, tag := "", pkgPath := "", byteOffset := 0 }, { name := "K", type := 3, offset := 5, embedded := false, tag := "", pkgPath := "", byteOffset := 104 }] 0 6 := by
  refine ⟨_, _, rfl, rfl, rfl, ⟨_, _, rfl, ?_, ?_, ⟨rfl, ?_⟩, .inl Tryz.underlying3⟩, .inr ⟨_, Tryz.underlying26, by
    rw [cells26_Prefix]
    refine ⟨_, _, rfl, rfl, rfl, ⟨_, _, rfl, ?_, ?_, ⟨_, _, rfl, ?_, ?_, ⟨_, _, rfl, ?_, ?_, ⟨_, _, rfl, ?_, ?_, ⟨rfl, ?_⟩, .inl fits24_Prefix⟩, .inl fits24_Prefix⟩, .inl fits23_Prefix⟩, .inl fits22_Prefix⟩, .inl Tryz.underlying3⟩ <;> simp only [cells3_Prefix, cells22_Prefix, cells23_Prefix, cells24_Prefix]⟩⟩ <;> simp only [cells26_Prefix, cells3_Prefix]
theorem core_Prefix {K : Type} {enc : TypeId × Value → K} {μ : DataW K → Nat} (hμ : Msr μ) (W : World) (cs : Array Value) (hcs : cs.size = 6) {d0 : DataW K} {p0 : List MemPlace} {fuel : Nat} (hf : DataW.trod enc Tryz.prog W 0 (fun _ => true) true fuel 28 cs.toList = some (d0, p0)) (hz : W.noneFrozen p0) (hd : μ d0 ≤ 1048576) :
    Calls Tryz.prog 3 #[.agg cs] W fun e W' => e = .returned (.bool true) ∧ RowKit.Below W.heap.size W W' := by
  obtain ⟨φ, H, acs, ns, ss, D, k1, k2, k3, k4, k5, k6, k7, k8, k9, k10⟩ := arg_vr hμ (G := 8) (s := .fld 0 (.fld 0 (.num .i64) (.fld 1 (.list 2 (.fld 0 (.num .i64) (.fld 1 (.num .i64) .nil))) (.fld 2 (.list 2 (.fld 0 (.num .i64) (.fld 1 (.num .i64) .nil))) (.fld 3 (.list 1 (.num .i64)) (.fld 4 (.list 1 (.num .i64)) .nil))))) (.fld 5 (.num .i64) .nil)) (fun _ => rfl) Tryz.underlying28 (by rw [cells28_Prefix]; exact fitsA_Prefix) hf hz (by dsimp only; omega) _ _ (rel0 8 W) (fun i o hi => by simp [heap0, AHeap.get, Tr.get] at hi)
  have hal : acs.length = 6 := by rw [LRel.len k6]; simpa using hcs
  dsimp only at k10
  have hcall := calls_true k1 k2 k6 (top_3 (true, true) (fun _ => rfl) H acs ns ss D hal k7 k8 k9 (by omega) (by omega))
  rw [show cs.toList.toArray = cs by simp] at hcall
  exact hcall
end Go.Eng
