/- TopSharedConstants answers true on the interpreter, and so on the machine. Conditions: none beyond each theorem's own. -/
import Derived.Test.YtbjiommpeeanmaaGreatDoorConstantsB24
import Derived.Test.YtbjiommpeeanmaaGreatDoorConstantsA
import Derived.KernelRfl
import Derived.Test.YtbjiommpeeanmaaGreatDoorAlive
set_option linter.all false
namespace Go.Eng
open Go Go.Proofs
theorem sz24_ZConstants : sizeT E0.P 24 = some 1 := by kernel_rfl
theorem ag26_ZConstants : isAggT E0.P 26 = some true := by kernel_rfl
theorem sz26_ZConstants : sizeT E0.P 26 = some 5 := by kernel_rfl
theorem zt24_ZConstants : zeroT E0.P 24 = some [.slice none 0 0] := by kernel_rfl
theorem zt40_ZConstants : zeroT E0.P 40 = some [.int .i64 0, .slice none 0 0, .slice none 0 0, .slice none 0 0, .slice none 0 0, .int .i64 0, .int .i64 0, .slice none 0 0, .slice none 0 0, .slice none 0 0, .slice none 0 0, .int .i64 0] := by kernel_rfl
theorem sz40_ZConstants : sizeT E0.P 40 = some 12 := by kernel_rfl
theorem el33_ZConstants : elemT E0.P 33 = some 47 := by kernel_rfl
theorem ez47_ZConstants : elemZ E0.P 47 = some (1, [.nilFunc]) := by kernel_rfl
theorem fo95_0_ZConstants : foff E0.P 95 0 = some 0 := by kernel_rfl
theorem ag95_ZConstants : isAggT E0.P 95 = some true := by kernel_rfl
theorem sz95_ZConstants : sizeT E0.P 95 = some 5 := by kernel_rfl
theorem el103_ZConstants : elemT E0.P 103 = some 101 := by kernel_rfl
theorem ez101_ZConstants : elemZ E0.P 101 = some (1, [.nilFunc]) := by kernel_rfl
abbrev ShConstants : Sh := .fld 0 (.fld 0 (.num .i64) (.fld 1 (.list 2 (.fld 0 (.num .i64) (.fld 1 (.num .i64) .nil))) (.fld 2 (.list 2 (.fld 0 (.num .i64) (.fld 1 (.num .i64) .nil))) (.fld 3 (.list 1 (.num .i64)) (.fld 4 (.list 1 (.num .i64)) .nil))))) .nil
theorem arg_Constants {H : AHeap} {bx : Nat} {ns : List Int} {ss : List ByteArray} {D : List Nat} (h : Own H ⟨true, true, false⟩ ShConstants bx ns ss D) (hl : ns.length ≤ 63000) :
    ∃ (r : Row) (yu0 : Int) (ya1 : Option Addr) (yn1 yc1 : Nat) (yl1 : List (Int × Int)) (ya2 : Option Addr) (yn2 yc2 : Nat) (yl2 : List (Int × Int)) (ya3 : Option Addr) (yn3 yc3 : Nat) (yl3 : List Int) (ya4 : Option Addr) (yn4 yc4 : Nat) (yl4 : List Int), H.row bx = some r ∧ r.cs[0]? = some (.int .i64 yu0) ∧ IntKind.i64.wrap yu0 = yu0 ∧ r.cs[1]? = some (.slice ya1 yn1 yc1) ∧ V EP H ya1 yn1 yc1 yl1 ∧ exactBase ya1 = true ∧ yn1 ≤ 63000 ∧ r.cs[2]? = some (.slice ya2 yn2 yc2) ∧ V EP H ya2 yn2 yc2 yl2 ∧ exactBase ya2 = true ∧ yn2 ≤ 63000 ∧ r.cs[3]? = some (.slice ya3 yn3 yc3) ∧ V (EI .i64) H ya3 yn3 yc3 yl3 ∧ exactBase ya3 = true ∧ yn3 ≤ 63000 ∧ r.cs[4]? = some (.slice ya4 yn4 yc4) ∧ V (EI .i64) H ya4 yn4 yc4 yl4 ∧ exactBase ya4 = true ∧ yn4 ≤ 63000 := by
  obtain ⟨r, hr, hw, hR⟩ := h.ex
  have hD := h.lD
  obtain ⟨n0, s0, D0, m0, t0, B0, r0, w0, rfl, rfl, rfl⟩ := hR
  obtain ⟨rfl, rfl, rfl⟩ := w0
  obtain ⟨n1, s1, D1, m1, t1, B1, r1, w1, rfl, rfl, rfl⟩ := r0
  obtain ⟨n2, s2, D2, m2, t2, B2, r2, w2, rfl, rfl, rfl⟩ := w1
  obtain ⟨n3, s3, D3, m3, t3, B3, r3, w3, rfl, rfl, rfl⟩ := w2
  obtain ⟨n4, s4, D4, m4, t4, B4, r4, w4, rfl, rfl, rfl⟩ := w3
  obtain ⟨n5, s5, D5, m5, t5, B5, r5, w5, rfl, rfl, rfl⟩ := w4
  obtain ⟨rfl, rfl, rfl⟩ := w5
  obtain ⟨yu0, k1, z1, -⟩ := r1
  obtain ⟨ya1, yn1, yc1, yl1, k2, v2, e2, g2⟩ := rd_list rdP r2 (fun j hj => hD j (by simp only [List.mem_append, hj, true_or, or_true]))
  obtain ⟨ya2, yn2, yc2, yl2, k3, v3, e3, g3⟩ := rd_list rdP r3 (fun j hj => hD j (by simp only [List.mem_append, hj, true_or, or_true]))
  obtain ⟨ya3, yn3, yc3, yl3, k4, v4, e4, g4⟩ := rd_list (rdI .i64) r4 (fun j hj => hD j (by simp only [List.mem_append, hj, true_or, or_true]))
  obtain ⟨ya4, yn4, yc4, yl4, k5, v5, e5, g5⟩ := rd_list (rdI .i64) r5 (fun j hj => hD j (by simp only [List.mem_append, hj, true_or, or_true]))
  exact ⟨r, yu0, ya1, yn1, yc1, yl1, ya2, yn2, yc2, yl2, ya3, yn3, yc3, yl3, ya4, yn4, yc4, yl4, hr, k1, z1, k2, v2, e2, (by simp only [List.length_append] at hl; omega), k3, v3, e3, (by simp only [List.length_append] at hl; omega), k4, v4, e4, (by simp only [List.length_append] at hl; omega), k5, v5, e5, (by simp only [List.length_append] at hl; omega)⟩
theorem call_56 : CallOK' E0 3 9 47 56 ShConstants := by
  intro H bx ns ss D hO hl1 _
  obtain ⟨r, yu0, ya1, yn1, yc1, yl1, ya2, yn2, yc2, yl2, ya3, yn3, yc3, yl3, ya4, yn4, yc4, yl4, hr, x0, w_u0, x1, h_l1, ex_l1, b_l1, x2, h_l2, ex_l2, b_l2, x3, h_l3, ex_l3, b_l3, x4, h_l4, ex_l4, b_l4⟩ := arg_Constants hO hl1
  obtain ⟨lo_u0, hi_u0⟩ := rangei64 w_u0
  obtain ⟨len_l1, cap_l1, max_l1, wf_l1⟩ := h_l1.len
  obtain ⟨len_l2, cap_l2, max_l2, wf_l2⟩ := h_l2.len
  obtain ⟨len_l3, cap_l3, max_l3, wf_l3⟩ := h_l3.len
  obtain ⟨len_l4, cap_l4, max_l4, wf_l4⟩ := h_l4.len
  have m0 : Mem [] H H [] := Mem.start
  refine WF.kg Tryz.func56 rfl rfl ?_
  refine KC.seq ?_
  refine KC.region ?_
  refine KO.pv (PV.assign rfl) rfl rfl ?_
  refine KO.nil ?_
  refine KC.seq ?_
  refine KC.region ?_
  refine KO.pv (PV.move rfl) rfl rfl ?_
  refine KO.pv (PV.nilCheck rfl) rfl rfl ?_
  refine KO.pv (PV.fieldAddr fo95_0_ZConstants rfl) rfl rfl ?_
  refine KO.loadN ag26_ZConstants sz26_ZConstants rfl (m0.row0 hO.lb hr) (takeN_cons x0 (takeN_cons x1 (takeN_cons x2 (takeN_cons x3 (takeN_cons x4 takeN_nil))))) rfl rfl ?_
  refine KO.call rfl rfl rfl rfl (co_Stay H yu0 ya1 yn1 yc1 _ ya2 yn2 yc2 _ ya3 yn3 yc3 _ ya4 yn4 yc4 _ (wrap64 (by omega) (by omega)) (V.mem m0 h_l1) (V.mem m0 h_l2) (V.mem m0 h_l3) (V.mem m0 h_l4)) fun v1 H1 q1 => ?_
  obtain ⟨a1, n1, k1, l1, D1, e1, hv1, mc1, p1_0, p1_1⟩ := q1
  dsimp only at hv1 mc1
  subst hv1
  have m2 := m0.seq mc1
  refine KO.pv (PV.move rfl) rfl rfl ?_
  refine KO.pv (PV.extract rfl rfl) rfl rfl ?_
  refine KO.pv (PV.extract rfl rfl) rfl rfl ?_
  refine KO.allocM m2 zt24_ZConstants rfl rfl fun H3 m4 => ?_
  refine KO.storeM m4 (i := 0) rfl sz24_ZConstants rfl rfl rfl (show 0 + 1 ≤ 1 by decide) (show _ = [.slice a1 n1 k1] from rfl) rfl fun H5 m6 => ?_
  refine KO.pv (PV.assign rfl) rfl rfl ?_
  refine KO.nil ?_
  refine KC.seq ?_
  refine KC.region ?_
  refine KO.pv (PV.makeFunc rfl rfl) rfl rfl ?_
  refine KO.buildSliceM m6 el33_ZConstants ez47_ZConstants rfl rfl (show _ = some [.func (.func 58) #[] #[.pointer (some ⟨H1.next, 0, none⟩)]] from rfl) rfl rfl fun H7 m8 => ?_
  refine KO.pv (PV.assign rfl) rfl rfl ?_
  refine KO.nil ?_
  obtain ⟨nr9, rd9, ln9, lm9⟩ := OwnV.rd (rdI .i64) (m8.res (i := 2) rfl) (cs := [.slice a1 n1 k1]) (o := 0) rfl
  exact KC.ret ⟨rfl, _, (.tmp rfl .nil), call_one (m8.pick [0, 1, 2] (by decide) rfl) rfl (see_58 9) rd9 (by simp [R.own, R.inn, pickL]) (by omega) (by simp)⟩
theorem call_59 : CallOK' E0 3 9 47 59 ShConstants := by
  intro H bx ns ss D hO hl1 _
  obtain ⟨r, yu0, ya1, yn1, yc1, yl1, ya2, yn2, yc2, yl2, ya3, yn3, yc3, yl3, ya4, yn4, yc4, yl4, hr, x0, w_u0, x1, h_l1, ex_l1, b_l1, x2, h_l2, ex_l2, b_l2, x3, h_l3, ex_l3, b_l3, x4, h_l4, ex_l4, b_l4⟩ := arg_Constants hO hl1
  obtain ⟨lo_u0, hi_u0⟩ := rangei64 w_u0
  obtain ⟨len_l1, cap_l1, max_l1, wf_l1⟩ := h_l1.len
  obtain ⟨len_l2, cap_l2, max_l2, wf_l2⟩ := h_l2.len
  obtain ⟨len_l3, cap_l3, max_l3, wf_l3⟩ := h_l3.len
  obtain ⟨len_l4, cap_l4, max_l4, wf_l4⟩ := h_l4.len
  have m0 : Mem [] H H [] := Mem.start
  refine WF.kg Tryz.func59 rfl rfl ?_
  refine KC.seq ?_
  refine KC.region ?_
  refine KO.pv (PV.assign rfl) rfl rfl ?_
  refine KO.nil ?_
  refine KC.seq ?_
  refine KC.region ?_
  refine KO.pv (PV.move rfl) rfl rfl ?_
  refine KO.pv (PV.nilCheck rfl) rfl rfl ?_
  refine KO.pv (PV.fieldAddr fo95_0_ZConstants rfl) rfl rfl ?_
  refine KO.loadN ag26_ZConstants sz26_ZConstants rfl (m0.row0 hO.lb hr) (takeN_cons x0 (takeN_cons x1 (takeN_cons x2 (takeN_cons x3 (takeN_cons x4 takeN_nil))))) rfl rfl ?_
  refine KO.call rfl rfl rfl rfl (co_Pass H yu0 ya1 yn1 yc1 _ ya2 yn2 yc2 _ ya3 yn3 yc3 _ ya4 yn4 yc4 _ (wrap64 (by omega) (by omega)) (V.mem m0 h_l1) (V.mem m0 h_l2) (V.mem m0 h_l3) (V.mem m0 h_l4)) fun v1 H1 q1 => ?_
  obtain ⟨r0_1, r1a1, r1n1, r1c1, r1_1, r1D1, r2a1, r2n1, r2c1, r2_1, r2D1, r3a1, r3n1, r3c1, r3_1, r3D1, r4a1, r4n1, r4c1, r4_1, r4D1, r5_1, r6_1, r7a1, r7n1, r7c1, r7_1, r7D1, r8a1, r8n1, r8c1, r8v1, r8D1, r8_1, r8E1, r9a1, r9n1, r9c1, r9_1, r9D1, r10a1, r10n1, r10c1, r10_1, r10D1, r11_1, e1, hv1, mc1, p1_0, p1_1, p1_2, p1_3⟩ := q1
  dsimp only at hv1 mc1
  subst hv1
  have m2 := m0.seq mc1
  refine KO.pv (PV.move rfl) rfl rfl ?_
  refine KO.pv (PV.extract rfl rfl) rfl rfl ?_
  refine KO.pv (PV.extract rfl rfl) rfl rfl ?_
  refine KO.allocM m2 zt40_ZConstants rfl rfl fun H3 m4 => ?_
  refine KO.storeM m4 (i := 0) rfl sz40_ZConstants rfl rfl rfl (show 0 + 12 ≤ 12 by decide) (show _ = [.int .i64 r0_1, .slice r1a1 r1n1 r1c1, .slice r2a1 r2n1 r2c1, .slice r3a1 r3n1 r3c1, .slice r4a1 r4n1 r4c1, .int .i64 r5_1, .int .i64 r6_1, .slice r7a1 r7n1 r7c1, .slice r8a1 r8n1 r8c1, .slice r9a1 r9n1 r9c1, .slice r10a1 r10n1 r10c1, .int .i64 r11_1] from rfl) rfl fun H5 m6 => ?_
  refine KO.pv (PV.assign rfl) rfl rfl ?_
  refine KO.nil ?_
  refine KC.seq ?_
  refine KC.region ?_
  refine KO.pv (PV.makeFunc rfl rfl) rfl rfl ?_
  refine KO.buildSliceM m6 el33_ZConstants ez47_ZConstants rfl rfl (show _ = some [.func (.func 61) #[] #[.pointer (some ⟨H1.next, 0, none⟩)]] from rfl) rfl rfl fun H7 m8 => ?_
  refine KO.pv (PV.assign rfl) rfl rfl ?_
  refine KO.nil ?_
  obtain ⟨nr9, rd9, ln9, lm9⟩ := OwnV.rd rdP (m8.res (i := 2) rfl) (cs := [.int .i64 r0_1, .slice r1a1 r1n1 r1c1, .slice r2a1 r2n1 r2c1, .slice r3a1 r3n1 r3c1, .slice r4a1 r4n1 r4c1, .int .i64 r5_1, .int .i64 r6_1, .slice r7a1 r7n1 r7c1, .slice r8a1 r8n1 r8c1, .slice r9a1 r9n1 r9c1, .slice r10a1 r10n1 r10c1, .int .i64 r11_1]) (o := 1) rfl
  obtain ⟨nr10, rd10, ln10, lm10⟩ := OwnV.rd rdP (m8.res (i := 3) rfl) (cs := [.int .i64 r0_1, .slice r1a1 r1n1 r1c1, .slice r2a1 r2n1 r2c1, .slice r3a1 r3n1 r3c1, .slice r4a1 r4n1 r4c1, .int .i64 r5_1, .int .i64 r6_1, .slice r7a1 r7n1 r7c1, .slice r8a1 r8n1 r8c1, .slice r9a1 r9n1 r9c1, .slice r10a1 r10n1 r10c1, .int .i64 r11_1]) (o := 2) rfl
  obtain ⟨nr11, rd11, ln11, lm11⟩ := OwnV.rd (rdI .i64) (m8.res (i := 4) rfl) (cs := [.int .i64 r0_1, .slice r1a1 r1n1 r1c1, .slice r2a1 r2n1 r2c1, .slice r3a1 r3n1 r3c1, .slice r4a1 r4n1 r4c1, .int .i64 r5_1, .int .i64 r6_1, .slice r7a1 r7n1 r7c1, .slice r8a1 r8n1 r8c1, .slice r9a1 r9n1 r9c1, .slice r10a1 r10n1 r10c1, .int .i64 r11_1]) (o := 3) rfl
  obtain ⟨nr12, rd12, ln12, lm12⟩ := OwnV.rd (rdI .i64) (m8.res (i := 5) rfl) (cs := [.int .i64 r0_1, .slice r1a1 r1n1 r1c1, .slice r2a1 r2n1 r2c1, .slice r3a1 r3n1 r3c1, .slice r4a1 r4n1 r4c1, .int .i64 r5_1, .int .i64 r6_1, .slice r7a1 r7n1 r7c1, .slice r8a1 r8n1 r8c1, .slice r9a1 r9n1 r9c1, .slice r10a1 r10n1 r10c1, .int .i64 r11_1]) (o := 4) rfl
  obtain ⟨nr13, rd13, ln13, lm13⟩ := OwnV.rd (rdI .i64) (m8.res (i := 6) rfl) (cs := [.int .i64 r0_1, .slice r1a1 r1n1 r1c1, .slice r2a1 r2n1 r2c1, .slice r3a1 r3n1 r3c1, .slice r4a1 r4n1 r4c1, .int .i64 r5_1, .int .i64 r6_1, .slice r7a1 r7n1 r7c1, .slice r8a1 r8n1 r8c1, .slice r9a1 r9n1 r9c1, .slice r10a1 r10n1 r10c1, .int .i64 r11_1]) (o := 7) rfl
  obtain ⟨nr14, rd14, ln14⟩ := InnOK.rd (rdI .i64) (m8.res (i := 7) rfl) (m8.res (i := 8) rfl) (cs := [.int .i64 r0_1, .slice r1a1 r1n1 r1c1, .slice r2a1 r2n1 r2c1, .slice r3a1 r3n1 r3c1, .slice r4a1 r4n1 r4c1, .int .i64 r5_1, .int .i64 r6_1, .slice r7a1 r7n1 r7c1, .slice r8a1 r8n1 r8c1, .slice r9a1 r9n1 r9c1, .slice r10a1 r10n1 r10c1, .int .i64 r11_1]) (o := 8) rfl
  have lt14 := total_le (xss := r8_1) (k := 1000) (by first | assumption | exact all_nil)
  have li14 := m8.innLen (i := 8) rfl
  have lo14 := m8.ownLen (i := 7) rfl
  obtain ⟨nr15, rd15, ln15, lm15⟩ := OwnV.rd (rdI .i64) (m8.res (i := 9) rfl) (cs := [.int .i64 r0_1, .slice r1a1 r1n1 r1c1, .slice r2a1 r2n1 r2c1, .slice r3a1 r3n1 r3c1, .slice r4a1 r4n1 r4c1, .int .i64 r5_1, .int .i64 r6_1, .slice r7a1 r7n1 r7c1, .slice r8a1 r8n1 r8c1, .slice r9a1 r9n1 r9c1, .slice r10a1 r10n1 r10c1, .int .i64 r11_1]) (o := 9) rfl
  obtain ⟨nr16, rd16, ln16, lm16⟩ := OwnV.rd rdP (m8.res (i := 10) rfl) (cs := [.int .i64 r0_1, .slice r1a1 r1n1 r1c1, .slice r2a1 r2n1 r2c1, .slice r3a1 r3n1 r3c1, .slice r4a1 r4n1 r4c1, .int .i64 r5_1, .int .i64 r6_1, .slice r7a1 r7n1 r7c1, .slice r8a1 r8n1 r8c1, .slice r9a1 r9n1 r9c1, .slice r10a1 r10n1 r10c1, .int .i64 r11_1]) (o := 10) rfl
  exact KC.ret ⟨rfl, _, (.tmp rfl .nil), call_one (m8.pick [0, 1, 2, 3, 4, 5, 6, 7, 8, 9, 10] (by decide) rfl) rfl (see_61 9) ⟨_, _, _, _, _, _, ⟨_, _, _, _, _, _, ⟨_, rfl, (wrap64 (by omega) (by omega)), rfl, rfl, rfl⟩, ⟨_, _, _, _, _, _, rd9, ⟨_, _, _, _, _, _, rd10, ⟨_, _, _, _, _, _, rd11, ⟨_, _, _, _, _, _, rd12, ⟨rfl, rfl, rfl⟩, rfl, rfl, rfl⟩, rfl, rfl, rfl⟩, rfl, rfl, rfl⟩, rfl, rfl, rfl⟩, rfl, rfl, rfl⟩, ⟨_, _, _, _, _, _, ⟨_, _, _, _, _, _, ⟨_, rfl, (wrap64 (by omega) (by omega)), rfl, rfl, rfl⟩, ⟨_, _, _, _, _, _, ⟨_, rfl, (wrap64 (by omega) (by omega)), rfl, rfl, rfl⟩, ⟨_, _, _, _, _, _, rd13, ⟨_, _, _, _, _, _, rd14, ⟨_, _, _, _, _, _, rd15, ⟨_, _, _, _, _, _, ⟨_, _, _, _, _, _, rd16, ⟨_, _, _, _, _, _, ⟨_, rfl, (wrap64 (by omega) (by omega)), rfl, rfl, rfl⟩, ⟨rfl, rfl, rfl⟩, rfl, rfl, rfl⟩, rfl, rfl, rfl⟩, ⟨rfl, rfl, rfl⟩, rfl, rfl, rfl⟩, rfl, rfl, rfl⟩, rfl, rfl, rfl⟩, rfl, rfl, rfl⟩, rfl, rfl, rfl⟩, rfl, rfl, rfl⟩, ⟨rfl, rfl, rfl⟩, rfl, rfl, rfl⟩, rfl, rfl, rfl⟩ (by simp [R.own, R.inn, pickL]) (by simp only [List.length_append, List.length_cons, List.length_nil] <;> omega) (by simp)⟩
theorem top_7 (w : Bool × Bool) (hwS : Sh.bools (.fld 0 (.fld 0 (.num .i64) (.fld 1 (.list 2 (.fld 0 (.num .i64) (.fld 1 (.num .i64) .nil))) (.fld 2 (.list 2 (.fld 0 (.num .i64) (.fld 1 (.num .i64) .nil))) (.fld 3 (.list 1 (.num .i64)) (.fld 4 (.list 1 (.num .i64)) .nil))))) .nil) = true → w.1 = true) (H : AHeap) (cs : List Value) (ns : List Int) (ss : List ByteArray) (D : List Nat) (hcl : cs.length = 5) (hone : cs.all oneC = true) (hR : Rd H ⟨false, w.1, w.2⟩ (.fld 0 (.fld 0 (.num .i64) (.fld 1 (.list 2 (.fld 0 (.num .i64) (.fld 1 (.num .i64) .nil))) (.fld 2 (.list 2 (.fld 0 (.num .i64) (.fld 1 (.num .i64) .nil))) (.fld 3 (.list 1 (.num .i64)) (.fld 4 (.list 1 (.num .i64)) .nil))))) .nil) cs 0 ns ss D) (hD : ∀ j ∈ D, j < H.next) (l1 : ns.length ≤ 10000000) (l2 : ss.length ≤ 10000000) :
    WF E0 7 [.agg cs.toArray] H fun q => q.1 = .bool true := by
  have hcalls : ∀ f ∈ ([56, 59] : List FuncId), CallOK' E0 3 9 47 f (.fld 0 (.fld 0 (.num .i64) (.fld 1 (.list 2 (.fld 0 (.num .i64) (.fld 1 (.num .i64) .nil))) (.fld 2 (.list 2 (.fld 0 (.num .i64) (.fld 1 (.num .i64) .nil))) (.fld 3 (.list 1 (.num .i64)) (.fld 4 (.list 1 (.num .i64)) .nil))))) .nil) ∧ E0.ext f = none := by
    intro f hf
    simp only [List.mem_cons, List.not_mem_nil, or_false] at hf
    rcases hf with rfl | rfl
    · exact ⟨call_56, rfl⟩
    · exact ⟨call_59, rfl⟩
  refine WF.k Tryz.func7 rfl rfl ?_
  refine KC.seq (KC.region ?_)
  refine KO.box (rfl) ((boxAgg hone)) rfl rfl fun G0 u0 => ?_
  refine KO.pv (PV.assign rfl) rfl rfl ?_
  refine KO.nil ?_
  rw [show cellsV (.agg cs.toArray) = cs by simp [cellsV]] at u0
  have hX : G0.row H.next = some ⟨95, true, true, cs⟩ := by rw [u0.row, if_pos rfl]
  have hn0 := u0.next
  refine KC.seq (KC.region ?_)
  refine KO.loadN ag95_ZConstants sz95_ZConstants rfl (hX) ((takeN_of (p := cs) (by rw [List.drop_zero, ← hcl, List.take_length]) hcl)) rfl rfl ?_
  refine KO.buildSlice el103_ZConstants ez101_ZConstants rfl rfl (rfl) rfl rfl fun G1 u1 => ?_
  refine KO.call rfl rfl rfl rfl (apart_53 (own := 54) (see := 55) (calls := [56, 59]) own_54 (see_55 9) hcalls rfl rfl (by decide) G1 cs ns ss D hcl hone w hwS (hR.frame fun j hj => by have := hD j hj; rw [u1.row, if_neg (by omega), u0.row, if_neg (by omega)]) (fun j hj => by have := hD j hj; rw [u1.next]; omega) l1 l2 G0.next (by rw [u1.row, if_pos rfl]; rfl) (by rw [u1.next]; omega)) fun v2 G2 q2 => ?_
  dsimp only at q2
  subst q2
  refine KO.pv (PV.move rfl) rfl rfl ?_
  refine KO.call rfl rfl rfl rfl (WF.sum (Q := fun q => q.1 = .bool true) rfl rfl) fun v3 G3 q3 => ?_
  dsimp only at q3
  subst q3
  refine KO.pv (PV.pickT rfl rfl rfl) rfl rfl ?_
  refine KO.pv (PV.assign rfl) rfl rfl ?_
  refine KO.nil ?_
  exact KC.ret ⟨rfl, _, rfl, rfl⟩
end Go.Eng

namespace Go.Eng
open Go Go.Proofs
theorem cells95_Constants : Tryz.prog.cellsOf 95 = 5 := by kernel_rfl
theorem cells26_Constants : Tryz.prog.cellsOf 26 = 5 := by kernel_rfl
theorem cells24_Constants : Tryz.prog.cellsOf 24 = 1 := by kernel_rfl
theorem cells3_Constants : Tryz.prog.cellsOf 3 = 1 := by kernel_rfl
theorem cells23_Constants : Tryz.prog.cellsOf 23 = 1 := by kernel_rfl
theorem cells187_Constants : Tryz.prog.cellsOf 187 = 2 := by kernel_rfl
theorem cells22_Constants : Tryz.prog.cellsOf 22 = 1 := by kernel_rfl
theorem cells150_Constants : Tryz.prog.cellsOf 150 = 2 := by kernel_rfl
theorem fits24_Constants : Fits Tryz.prog (.list 1 (.num .i64)) 24 := ⟨3, Tryz.underlying24, cells3_Constants, by decide, by decide, by decide, .inl Tryz.underlying3⟩
theorem fits23_Constants : Fits Tryz.prog (.list 2 (.fld 0 (.num .i64) (.fld 1 (.num .i64) .nil))) 23 := ⟨187, Tryz.underlying23, cells187_Constants, by decide, by decide, by decide, .inr ⟨_, Tryz.underlying187, by
    rw [cells187_Constants]
    refine ⟨_, _, rfl, rfl, rfl, ⟨_, _, rfl, ?_, ?_, ⟨rfl, ?_⟩, .inl Tryz.underlying3⟩, .inl Tryz.underlying3⟩ <;> simp only [cells3_Constants]⟩⟩
theorem fits22_Constants : Fits Tryz.prog (.list 2 (.fld 0 (.num .i64) (.fld 1 (.num .i64) .nil))) 22 := ⟨150, Tryz.underlying22, cells150_Constants, by decide, by decide, by decide, .inr ⟨_, Tryz.underlying150, by
    rw [cells150_Constants]
    refine ⟨_, _, rfl, rfl, rfl, ⟨_, _, rfl, ?_, ?_, ⟨rfl, ?_⟩, .inl Tryz.underlying3⟩, .inl Tryz.underlying3⟩ <;> simp only [cells3_Constants]⟩⟩
theorem fitsA_Constants : Fits.go Tryz.prog (.fld 0 (.fld 0 (.num .i64) (.fld 1 (.list 2 (.fld 0 (.num .i64) (.fld 1 (.num .i64) .nil))) (.fld 2 (.list 2 (.fld 0 (.num .i64) (.fld 1 (.num .i64) .nil))) (.fld 3 (.list 1 (.num .i64)) (.fld 4 (.list 1 (.num .i64)) .nil))))) .nil) [{ name := "C", type := 26, offset := 0, embedded := false, tag := "", pkgPath := "", byteOffset := 0 }] 0 5 := by
  refine ⟨_, _, rfl, rfl, rfl, ⟨rfl, ?_⟩, .inr ⟨_, Tryz.underlying26, by
    rw [cells26_Constants]
    refine ⟨_, _, rfl, rfl, rfl, ⟨_, _, rfl, ?_, ?_, ⟨_, _, rfl, ?_, ?_, ⟨_, _, rfl, ?_, ?_, ⟨_, _, rfl, ?_, ?_, ⟨rfl, ?_⟩, .inl fits24_Constants⟩, .inl fits24_Constants⟩, .inl fits23_Constants⟩, .inl fits22_Constants⟩, .inl Tryz.underlying3⟩ <;> simp only [cells3_Constants, cells22_Constants, cells23_Constants, cells24_Constants]⟩⟩ <;> simp only [cells26_Constants]
theorem core_Constants {K : Type} {enc : TypeId × Value → K} {μ : DataW K → Nat} (hμ : Msr μ) (W : World) (cs : Array Value) (hcs : cs.size = 5) {d0 : DataW K} {p0 : List MemPlace} {fuel : Nat} (hf : DataW.trod enc Tryz.prog W 0 (fun _ => true) true fuel 95 cs.toList = some (d0, p0)) (hz : W.noneFrozen p0) (hd : μ d0 ≤ 1048576) :
    Calls Tryz.prog 7 #[.agg cs] W fun e W' => e = .returned (.bool true) ∧ RowKit.Below W.heap.size W W' := by
  obtain ⟨φ, H, acs, ns, ss, D, k1, k2, k3, k4, k5, k6, k7, k8, k9, k10⟩ := arg_vr hμ (G := 8) (s := .fld 0 (.fld 0 (.num .i64) (.fld 1 (.list 2 (.fld 0 (.num .i64) (.fld 1 (.num .i64) .nil))) (.fld 2 (.list 2 (.fld 0 (.num .i64) (.fld 1 (.num .i64) .nil))) (.fld 3 (.list 1 (.num .i64)) (.fld 4 (.list 1 (.num .i64)) .nil))))) .nil) (fun _ => rfl) Tryz.underlying95 (by rw [cells95_Constants]; exact fitsA_Constants) hf hz (by dsimp only; omega) _ _ (rel0 8 W) (fun i o hi => by simp [heap0, AHeap.get, Tr.get] at hi)
  have hal : acs.length = 5 := by rw [LRel.len k6]; simpa using hcs
  dsimp only at k10
  have hcall := calls_true k1 k2 k6 (top_7 (true, true) (fun _ => rfl) H acs ns ss D hal k7 k8 k9 (by omega) (by omega))
  rw [show cs.toList.toArray = cs by simp] at hcall
  exact hcall
end Go.Eng
