/- TopSharedTseitin answers true on the interpreter, and so on the machine. Conditions: none beyond each theorem's own. -/
import Derived.Test.YtjmmbonjfaifnaaGreatDoorB8
import Derived.Test.YtjmmbonjfaifnaaGreatDoorTseitinA
import Derived.KernelRfl
import Derived.Test.YtjmmbonjfaifnaaGreatDoorAlive
set_option linter.all false
namespace Go.Eng
open Go Go.Proofs
theorem ag22_ZTseitin : isAggT E0.P 22 = some false := by kernel_rfl
theorem ag80_ZTseitin : isAggT E0.P 80 = some true := by kernel_rfl
theorem sz80_ZTseitin : sizeT E0.P 80 = some 5 := by kernel_rfl
theorem el32_ZTseitin : elemT E0.P 32 = some 42 := by kernel_rfl
theorem ez42_ZTseitin : elemZ E0.P 42 = some (1, [.nilFunc]) := by kernel_rfl
theorem zt82_ZTseitin : zeroT E0.P 82 = some [.int .i64 0, .slice none 0 0, .slice none 0 0] := by kernel_rfl
theorem sz82_ZTseitin : sizeT E0.P 82 = some 3 := by kernel_rfl
theorem ag82_ZTseitin : isAggT E0.P 82 = some true := by kernel_rfl
theorem fo84_0_ZTseitin : foff E0.P 84 0 = some 0 := by kernel_rfl
theorem fo84_1_ZTseitin : foff E0.P 84 1 = some 5 := by kernel_rfl
theorem fo84_2_ZTseitin : foff E0.P 84 2 = some 6 := by kernel_rfl
theorem ag84_ZTseitin : isAggT E0.P 84 = some true := by kernel_rfl
theorem sz84_ZTseitin : sizeT E0.P 84 = some 9 := by kernel_rfl
theorem el95_ZTseitin : elemT E0.P 95 = some 93 := by kernel_rfl
theorem ez93_ZTseitin : elemZ E0.P 93 = some (1, [.nilFunc]) := by kernel_rfl
abbrev ShTseitin : Sh := .fld 0 (.fld 0 (.num .i64) (.fld 1 (.list 2 (.fld 0 (.num .i64) (.fld 1 (.num .i64) .nil))) (.fld 2 (.list 2 (.fld 0 (.num .i64) (.fld 1 (.num .i64) .nil))) (.fld 3 (.list 1 (.num .i64)) (.fld 4 (.list 1 (.num .i64)) .nil))))) (.fld 5 (.list 1 (.num .i64)) (.fld 6 (.fld 0 (.num .i64) (.fld 1 (.list 1 (.list 1 (.num .i64))) (.fld 2 (.list 1 (.list 1 (.num .i64))) .nil))) .nil))
theorem arg_Tseitin {H : AHeap} {bx : Nat} {ns : List Int} {ss : List ByteArray} {D : List Nat} (h : Own H ⟨true, true, false⟩ ShTseitin bx ns ss D) (hl : ns.length ≤ 63000) :
    ∃ (r : Row) (yu0 : Int) (ya1 : Option Addr) (yn1 yc1 : Nat) (yl1 : List (Int × Int)) (ya2 : Option Addr) (yn2 yc2 : Nat) (yl2 : List (Int × Int)) (ya3 : Option Addr) (yn3 yc3 : Nat) (yl3 : List Int) (ya4 : Option Addr) (yn4 yc4 : Nat) (yl4 : List Int) (ya5 : Option Addr) (yn5 yc5 : Nat) (yl5 : List Int) (yu6 : Int) (ya7 : Option Addr) (yn7 yc7 : Nat) (yv7 : List (Option Addr × Nat × Nat)) (yl7 : List (List Int)) (ya8 : Option Addr) (yn8 yc8 : Nat) (yv8 : List (Option Addr × Nat × Nat)) (yl8 : List (List Int)), H.row bx = some r ∧ r.cs[0]? = some (.int .i64 yu0) ∧ IntKind.i64.wrap yu0 = yu0 ∧ r.cs[1]? = some (.slice ya1 yn1 yc1) ∧ V EP H ya1 yn1 yc1 yl1 ∧ exactBase ya1 = true ∧ yn1 ≤ 63000 ∧ r.cs[2]? = some (.slice ya2 yn2 yc2) ∧ V EP H ya2 yn2 yc2 yl2 ∧ exactBase ya2 = true ∧ yn2 ≤ 63000 ∧ r.cs[3]? = some (.slice ya3 yn3 yc3) ∧ V (EI .i64) H ya3 yn3 yc3 yl3 ∧ exactBase ya3 = true ∧ yn3 ≤ 63000 ∧ r.cs[4]? = some (.slice ya4 yn4 yc4) ∧ V (EI .i64) H ya4 yn4 yc4 yl4 ∧ exactBase ya4 = true ∧ yn4 ≤ 63000 ∧ r.cs[5]? = some (.slice ya5 yn5 yc5) ∧ V (EI .i64) H ya5 yn5 yc5 yl5 ∧ exactBase ya5 = true ∧ yn5 ≤ 63000 ∧ r.cs[6]? = some (.int .i64 yu6) ∧ IntKind.i64.wrap yu6 = yu6 ∧ r.cs[7]? = some (.slice ya7 yn7 yc7) ∧ V ES H ya7 yn7 yc7 yv7 ∧ exactBase ya7 = true ∧ yn7 ≤ 63000 ∧ VV (EI .i64) H yv7 yl7 ∧ (∀ xs ∈ yl7, xs.length ≤ 63000) ∧ r.cs[8]? = some (.slice ya8 yn8 yc8) ∧ V ES H ya8 yn8 yc8 yv8 ∧ exactBase ya8 = true ∧ yn8 ≤ 63000 ∧ VV (EI .i64) H yv8 yl8 ∧ (∀ xs ∈ yl8, xs.length ≤ 63000) := by
  obtain ⟨r, hr, hw, hR⟩ := h.ex
  have hD := h.lD
  obtain ⟨n0, s0, D0, m0, t0, B0, r0, w0, rfl, rfl, rfl⟩ := hR
  obtain ⟨n1, s1, D1, m1, t1, B1, r1, w1, rfl, rfl, rfl⟩ := w0
  obtain ⟨n2, s2, D2, m2, t2, B2, r2, w2, rfl, rfl, rfl⟩ := w1
  obtain ⟨rfl, rfl, rfl⟩ := w2
  obtain ⟨n3, s3, D3, m3, t3, B3, r3, w3, rfl, rfl, rfl⟩ := r0
  obtain ⟨n4, s4, D4, m4, t4, B4, r4, w4, rfl, rfl, rfl⟩ := w3
  obtain ⟨n5, s5, D5, m5, t5, B5, r5, w5, rfl, rfl, rfl⟩ := w4
  obtain ⟨n6, s6, D6, m6, t6, B6, r6, w6, rfl, rfl, rfl⟩ := w5
  obtain ⟨n7, s7, D7, m7, t7, B7, r7, w7, rfl, rfl, rfl⟩ := w6
  obtain ⟨rfl, rfl, rfl⟩ := w7
  obtain ⟨yu0, k3, z3, -⟩ := r3
  obtain ⟨ya1, yn1, yc1, yl1, k4, v4, e4, g4⟩ := rd_list rdP r4 (fun j hj => hD j (by simp only [List.mem_append, hj, true_or, or_true]))
  obtain ⟨ya2, yn2, yc2, yl2, k5, v5, e5, g5⟩ := rd_list rdP r5 (fun j hj => hD j (by simp only [List.mem_append, hj, true_or, or_true]))
  obtain ⟨ya3, yn3, yc3, yl3, k6, v6, e6, g6⟩ := rd_list (rdI .i64) r6 (fun j hj => hD j (by simp only [List.mem_append, hj, true_or, or_true]))
  obtain ⟨ya4, yn4, yc4, yl4, k7, v7, e7, g7⟩ := rd_list (rdI .i64) r7 (fun j hj => hD j (by simp only [List.mem_append, hj, true_or, or_true]))
  obtain ⟨ya5, yn5, yc5, yl5, k1, v1, e1, g1⟩ := rd_list (rdI .i64) r1 (fun j hj => hD j (by simp only [List.mem_append, hj, true_or, or_true]))
  obtain ⟨n8, s8, D8, m8, t8, B8, r8, w8, rfl, rfl, rfl⟩ := r2
  obtain ⟨n9, s9, D9, m9, t9, B9, r9, w9, rfl, rfl, rfl⟩ := w8
  obtain ⟨n10, s10, D10, m10, t10, B10, r10, w10, rfl, rfl, rfl⟩ := w9
  obtain ⟨rfl, rfl, rfl⟩ := w10
  obtain ⟨yu6, k8, z8, -⟩ := r8
  obtain ⟨ya7, yn7, yc7, yv7, yl7, k9, v9, e9, g9, vv9, bb9⟩ := rd_lists (rdI .i64) r9 (fun j hj => hD j (by simp only [List.mem_append, hj, true_or, or_true]))
  obtain ⟨ya8, yn8, yc8, yv8, yl8, k10, v10, e10, g10, vv10, bb10⟩ := rd_lists (rdI .i64) r10 (fun j hj => hD j (by simp only [List.mem_append, hj, true_or, or_true]))
  exact ⟨r, yu0, ya1, yn1, yc1, yl1, ya2, yn2, yc2, yl2, ya3, yn3, yc3, yl3, ya4, yn4, yc4, yl4, ya5, yn5, yc5, yl5, yu6, ya7, yn7, yc7, yv7, yl7, ya8, yn8, yc8, yv8, yl8, hr, k3, z3, k4, v4, e4, (by simp only [List.length_append] at hl; omega), k5, v5, e5, (by simp only [List.length_append] at hl; omega), k6, v6, e6, (by simp only [List.length_append] at hl; omega), k7, v7, e7, (by simp only [List.length_append] at hl; omega), k1, v1, e1, (by simp only [List.length_append] at hl; omega), k8, z8, k9, v9, e9, (by simp only [List.length_append] at hl; omega), vv9, (fun xs hx => by have := bb9 xs hx; simp only [List.length_append] at hl; omega), k10, v10, e10, (by simp only [List.length_append] at hl; omega), vv10, (fun xs hx => by have := bb10 xs hx; simp only [List.length_append] at hl; omega)⟩
theorem call_45 : CallOK' E0 3 9 42 45 ShTseitin := by
  intro H bx ns ss D hO hl1 _
  obtain ⟨r, yu0, ya1, yn1, yc1, yl1, ya2, yn2, yc2, yl2, ya3, yn3, yc3, yl3, ya4, yn4, yc4, yl4, ya5, yn5, yc5, yl5, yu6, ya7, yn7, yc7, yv7, yl7, ya8, yn8, yc8, yv8, yl8, hr, x0, w_u0, x1, h_l1, ex_l1, b_l1, x2, h_l2, ex_l2, b_l2, x3, h_l3, ex_l3, b_l3, x4, h_l4, ex_l4, b_l4, x5, h_l5, ex_l5, b_l5, x6, w_u6, x7, h_l7, ex_l7, b_l7, i_l7, bi_l7, x8, h_l8, ex_l8, b_l8, i_l8, bi_l8⟩ := arg_Tseitin hO hl1
  obtain ⟨lo_u0, hi_u0⟩ := rangei64 w_u0
  obtain ⟨len_l1, cap_l1, max_l1, wf_l1⟩ := h_l1.len
  obtain ⟨len_l2, cap_l2, max_l2, wf_l2⟩ := h_l2.len
  obtain ⟨len_l3, cap_l3, max_l3, wf_l3⟩ := h_l3.len
  obtain ⟨len_l4, cap_l4, max_l4, wf_l4⟩ := h_l4.len
  obtain ⟨len_l5, cap_l5, max_l5, wf_l5⟩ := h_l5.len
  obtain ⟨lo_u6, hi_u6⟩ := rangei64 w_u6
  obtain ⟨len_l7, cap_l7, max_l7, wf_l7⟩ := h_l7.len
  obtain ⟨len_l8, cap_l8, max_l8, wf_l8⟩ := h_l8.len
  have m0 : Mem [] H H [] := Mem.start
  refine WF.kg Tryz.func45 rfl rfl ?_
  refine KC.seq ?_
  refine KC.region ?_
  refine KO.pv (PV.assign rfl) rfl rfl ?_
  refine KO.nil ?_
  refine KC.seq ?_
  refine KC.drawG (n := 15) (anc := [0, 1, 3, 7, 0, 16, 48, 112, 255, 511, 1023, 1023, 0, 6143, 16383]) (hv := [8, 13]) (ord := [0, 1, 2, 3, 4, 5, 6, 7, 8, 9, 10, 12, 13, 11, 14]) (by kernel_rfl) (by kernel_rfl) (by kernel_rfl) (by kernel_rfl) (by kernel_rfl) fun H1 n2 g3 => ?_
  have m4 := m0.room n2 g3 [12] (by decide) (by decide)
  refine KD.pv 1 (PV.move rfl) rfl rfl rfl (by kernel_rfl) rfl rfl rfl ?_
  refine KD.pv 3 (PV.nilCheck rfl) rfl rfl rfl (by kernel_rfl) rfl rfl rfl ?_
  refine KD.pv 7 (PV.fieldAddr fo84_0_ZTseitin rfl) rfl rfl rfl (by kernel_rfl) rfl rfl rfl ?_
  refine KD.load 15 rfl (m4.row0 hO.lb hr) (readN ag80_ZTseitin sz80_ZTseitin (takeN_cons x0 (takeN_cons x1 (takeN_cons x2 (takeN_cons x3 (takeN_cons x4 takeN_nil)))))) (pastGo (k := 1) (l := [H1]) (by kernel_rfl) rfl (pastCons ⟨_, (m4.row0 hO.lb hr), (readN ag80_ZTseitin sz80_ZTseitin (takeN_cons x0 (takeN_cons x1 (takeN_cons x2 (takeN_cons x3 (takeN_cons x4 takeN_nil))))))⟩ pastNil)) (veq_agg (veqCons veqI (veqCons veqS (veqCons veqS (veqCons veqS (veqCons veqS veqNil)))))) rfl (by kernel_rfl) rfl rfl rfl ?_
  refine KD.pv 31 (PV.move rfl) rfl rfl rfl (by kernel_rfl) rfl rfl rfl ?_
  refine KD.pv 63 (PV.nilCheck rfl) rfl rfl rfl (by kernel_rfl) rfl rfl rfl ?_
  refine KD.pv 127 (PV.fieldAddr fo84_1_ZTseitin rfl) rfl rfl rfl (by kernel_rfl) rfl rfl rfl ?_
  refine KD.load 255 rfl (m4.row0 hO.lb hr) (by rw [read1 ag22_ZTseitin]; exact x5) (pastGo (k := 1) (l := [H1]) (by kernel_rfl) rfl (pastCons ⟨_, (m4.row0 hO.lb hr), (by rw [read1 ag22_ZTseitin]; exact x5)⟩ pastNil)) veq_sl rfl (by kernel_rfl) rfl rfl rfl ?_
  refine KD.call 511 rfl rfl rfl (by kernel_rfl) rfl rfl rfl (ts_Of H1 yu0 ya1 yn1 yc1 _ ya2 yn2 yc2 _ ya3 yn3 yc3 _ ya4 yn4 yc4 _ ya5 yn5 yc5 _ (wrap64 (by omega) (by omega)) (V.mem m4 h_l1) (V.mem m4 h_l2) (V.mem m4 h_l3) (V.mem m4 h_l4) (V.mem m4 h_l5)) fun v5 H5 q5 => ?_
  obtain ⟨v5, a15, n15, c15, v15, D15, l15, E15, a25, n25, c25, v25, D25, l25, E25, e5, hv5, mc5, p5_0, p5_1, p5_2⟩ := q5
  dsimp only at hv5 mc5
  subst hv5
  have m6 := m4.seq mc5
  refine KD.pv 1023 (PV.move rfl) rfl rfl rfl (by kernel_rfl) rfl rfl rfl ?_
  refine KD.pv 2047 (PV.extract rfl rfl) rfl rfl rfl (by kernel_rfl) rfl rfl rfl ?_
  refine KD.allocM 6143 m6 (j := 4) rfl zt82_ZTseitin rfl (by kernel_rfl) rfl rfl rfl fun H7 m8 => ?_
  refine KD.storeM 14335 m8 (j := 4) rfl sz82_ZTseitin rfl rfl rfl (show 0 + 3 ≤ 3 by decide) (show _ = [.int .i64 v5, .slice a15 n15 c15, .slice a25 n25 c25] from rfl) rfl (by kernel_rfl) rfl rfl fun H9 m10 => ?_
  refine KD.pv 16383 (PV.extract rfl rfl) rfl rfl rfl (by kernel_rfl) rfl rfl rfl ?_
  refine KD.pv 32767 (PV.assign rfl) rfl rfl rfl (by kernel_rfl) rfl rfl rfl ?_
  refine KD.nil ⟨rfl, ?_⟩
  refine KC.seq ?_
  refine KC.region ?_
  refine KO.pv (PV.makeFunc rfl rfl) rfl rfl ?_
  refine KO.buildSliceM m10 el32_ZTseitin ez42_ZTseitin rfl rfl (show _ = some [.func (.func 47) #[] #[.pointer (some ⟨(H.next + 12), 0, none⟩)]] from rfl) rfl rfl fun H11 m12 => ?_
  refine KO.pv (PV.assign rfl) rfl rfl ?_
  refine KO.nil ?_
  obtain ⟨nr13, rd13, ln13⟩ := InnOK.rd (rdI .i64) (m12.res (i := 1) rfl) (m12.res (i := 2) rfl) (cs := [.int .i64 v5, .slice a15 n15 c15, .slice a25 n25 c25]) (o := 1) rfl
  have lt13 := total_le (xss := l15) (k := 1001) (by first | assumption | exact all_nil)
  have li13 := m12.innLen (i := 2) rfl
  have lo13 := m12.ownLen (i := 1) rfl
  obtain ⟨nr14, rd14, ln14⟩ := InnOK.rd (rdI .i64) (m12.res (i := 3) rfl) (m12.res (i := 4) rfl) (cs := [.int .i64 v5, .slice a15 n15 c15, .slice a25 n25 c25]) (o := 2) rfl
  have lt14 := total_le (xss := l25) (k := 3) (by first | assumption | exact all_nil)
  have li14 := m12.innLen (i := 4) rfl
  have lo14 := m12.ownLen (i := 3) rfl
  exact KC.ret ⟨rfl, _, (.tmp rfl .nil), call_one (m12.pick [0, 5, 1, 2, 3, 4] (by decide) rfl) rfl (see_47 9) ⟨_, _, _, _, _, _, ⟨_, rfl, (wrap64 (by omega) (by omega)), rfl, rfl, rfl⟩, ⟨_, _, _, _, _, _, rd13, ⟨_, _, _, _, _, _, rd14, ⟨rfl, rfl, rfl⟩, rfl, rfl, rfl⟩, rfl, rfl, rfl⟩, rfl, rfl, rfl⟩ (by simp [R.own, R.inn, pickL]) (by simp only [List.length_append, List.length_cons, List.length_nil] <;> omega) (by simp)⟩
theorem call_49 : CallOK' E0 3 9 42 49 ShTseitin := by
  intro H bx ns ss D hO hl1 _
  obtain ⟨r, yu0, ya1, yn1, yc1, yl1, ya2, yn2, yc2, yl2, ya3, yn3, yc3, yl3, ya4, yn4, yc4, yl4, ya5, yn5, yc5, yl5, yu6, ya7, yn7, yc7, yv7, yl7, ya8, yn8, yc8, yv8, yl8, hr, x0, w_u0, x1, h_l1, ex_l1, b_l1, x2, h_l2, ex_l2, b_l2, x3, h_l3, ex_l3, b_l3, x4, h_l4, ex_l4, b_l4, x5, h_l5, ex_l5, b_l5, x6, w_u6, x7, h_l7, ex_l7, b_l7, i_l7, bi_l7, x8, h_l8, ex_l8, b_l8, i_l8, bi_l8⟩ := arg_Tseitin hO hl1
  obtain ⟨lo_u0, hi_u0⟩ := rangei64 w_u0
  obtain ⟨len_l1, cap_l1, max_l1, wf_l1⟩ := h_l1.len
  obtain ⟨len_l2, cap_l2, max_l2, wf_l2⟩ := h_l2.len
  obtain ⟨len_l3, cap_l3, max_l3, wf_l3⟩ := h_l3.len
  obtain ⟨len_l4, cap_l4, max_l4, wf_l4⟩ := h_l4.len
  obtain ⟨len_l5, cap_l5, max_l5, wf_l5⟩ := h_l5.len
  obtain ⟨lo_u6, hi_u6⟩ := rangei64 w_u6
  obtain ⟨len_l7, cap_l7, max_l7, wf_l7⟩ := h_l7.len
  obtain ⟨len_l8, cap_l8, max_l8, wf_l8⟩ := h_l8.len
  have m0 : Mem [] H H [] := Mem.start
  refine WF.kg Tryz.func49 rfl rfl ?_
  refine KC.seq ?_
  refine KC.region ?_
  refine KO.pv (PV.assign rfl) rfl rfl ?_
  refine KO.nil ?_
  refine KC.seq ?_
  refine KC.region ?_
  refine KO.pv (PV.move rfl) rfl rfl ?_
  refine KO.pv (PV.nilCheck rfl) rfl rfl ?_
  refine KO.pv (PV.fieldAddr fo84_2_ZTseitin rfl) rfl rfl ?_
  refine KO.loadN ag82_ZTseitin sz82_ZTseitin rfl (m0.row0 hO.lb hr) (takeN_cons x6 (takeN_cons x7 (takeN_cons x8 takeN_nil))) rfl rfl ?_
  refine KO.call rfl rfl rfl rfl (ts_Check H yu6 ya7 yn7 yc7 _ _ ya8 yn8 yc8 _ _ (wrap64 (by omega) (by omega)) (V.mem m0 h_l7) (VV.mem m0 i_l7) (V.mem m0 h_l8) (VV.mem m0 i_l8)) fun v1 H1 q1 => ?_
  obtain ⟨e1, hv1, mc1, p1_0, p1_1⟩ := q1
  dsimp only at hv1 mc1
  subst hv1
  have m2 := m0.seq mc1
  refine KO.nil ?_
  refine KC.seq ?_
  refine KC.region ?_
  refine KO.pv (PV.assign rfl) rfl rfl ?_
  refine KO.nil ?_
  exact KC.ret ⟨rfl, _, (.tmp rfl .nil), call_none m2⟩
theorem top_6 (w : Bool × Bool) (hwS : Sh.bools (.fld 0 (.fld 0 (.num .i64) (.fld 1 (.list 2 (.fld 0 (.num .i64) (.fld 1 (.num .i64) .nil))) (.fld 2 (.list 2 (.fld 0 (.num .i64) (.fld 1 (.num .i64) .nil))) (.fld 3 (.list 1 (.num .i64)) (.fld 4 (.list 1 (.num .i64)) .nil))))) (.fld 5 (.list 1 (.num .i64)) (.fld 6 (.fld 0 (.num .i64) (.fld 1 (.list 1 (.list 1 (.num .i64))) (.fld 2 (.list 1 (.list 1 (.num .i64))) .nil))) .nil))) = true → w.1 = true) (H : AHeap) (cs : List Value) (ns : List Int) (ss : List ByteArray) (D : List Nat) (hcl : cs.length = 9) (hone : cs.all oneC = true) (hR : Rd H ⟨false, w.1, w.2⟩ (.fld 0 (.fld 0 (.num .i64) (.fld 1 (.list 2 (.fld 0 (.num .i64) (.fld 1 (.num .i64) .nil))) (.fld 2 (.list 2 (.fld 0 (.num .i64) (.fld 1 (.num .i64) .nil))) (.fld 3 (.list 1 (.num .i64)) (.fld 4 (.list 1 (.num .i64)) .nil))))) (.fld 5 (.list 1 (.num .i64)) (.fld 6 (.fld 0 (.num .i64) (.fld 1 (.list 1 (.list 1 (.num .i64))) (.fld 2 (.list 1 (.list 1 (.num .i64))) .nil))) .nil))) cs 0 ns ss D) (hD : ∀ j ∈ D, j < H.next) (l1 : ns.length ≤ 10000000) (l2 : ss.length ≤ 10000000) :
    WF E0 6 [.agg cs.toArray] H fun q => q.1 = .bool true := by
  have hcalls : ∀ f ∈ ([45, 49] : List FuncId), CallOK' E0 3 9 42 f (.fld 0 (.fld 0 (.num .i64) (.fld 1 (.list 2 (.fld 0 (.num .i64) (.fld 1 (.num .i64) .nil))) (.fld 2 (.list 2 (.fld 0 (.num .i64) (.fld 1 (.num .i64) .nil))) (.fld 3 (.list 1 (.num .i64)) (.fld 4 (.list 1 (.num .i64)) .nil))))) (.fld 5 (.list 1 (.num .i64)) (.fld 6 (.fld 0 (.num .i64) (.fld 1 (.list 1 (.list 1 (.num .i64))) (.fld 2 (.list 1 (.list 1 (.num .i64))) .nil))) .nil))) ∧ E0.ext f = none := by
    intro f hf
    simp only [List.mem_cons, List.not_mem_nil, or_false] at hf
    rcases hf with rfl | rfl
    · exact ⟨call_45, rfl⟩
    · exact ⟨call_49, rfl⟩
  refine WF.k Tryz.func6 rfl rfl ?_
  refine KC.seq (KC.region ?_)
  refine KO.box (rfl) ((boxAgg hone)) rfl rfl fun G0 u0 => ?_
  refine KO.pv (PV.assign rfl) rfl rfl ?_
  refine KO.nil ?_
  rw [show cellsV (.agg cs.toArray) = cs by simp [cellsV]] at u0
  have hX : G0.row H.next = some ⟨84, true, true, cs⟩ := by rw [u0.row, if_pos rfl]
  have hn0 := u0.next
  refine KC.seq (KC.region ?_)
  refine KO.loadN ag84_ZTseitin sz84_ZTseitin rfl (hX) ((takeN_of (p := cs) (by rw [List.drop_zero, ← hcl, List.take_length]) hcl)) rfl rfl ?_
  refine KO.buildSlice el95_ZTseitin ez93_ZTseitin rfl rfl (rfl) rfl rfl fun G1 u1 => ?_
  refine KO.call rfl rfl rfl rfl (apart_42 (own := 43) (see := 44) (calls := [45, 49]) own_43 (see_44 9) hcalls rfl rfl (by decide) G1 cs ns ss D hcl hone w hwS (hR.frame fun j hj => by have := hD j hj; rw [u1.row, if_neg (by omega), u0.row, if_neg (by omega)]) (fun j hj => by have := hD j hj; rw [u1.next]; omega) l1 l2 G0.next (by rw [u1.row, if_pos rfl]; rfl) (by rw [u1.next]; omega)) fun v2 G2 q2 => ?_
  dsimp only at q2
  subst q2
  refine KO.pv (PV.move rfl) rfl rfl ?_
  refine KO.call rfl rfl rfl rfl (WF.sum (Q := fun q => q.1 = .bool true) rfl rfl) fun v3 G3 q3 => ?_
  dsimp only at q3
  subst q3
  refine KO.pv (PV.pickT rfl rfl rfl) rfl rfl ?_
  refine KO.pv (PV.assign rfl) rfl rfl ?_
  refine KO.nil ?_
  exact KC.ret ⟨rfl, _, rfl, rfl⟩

end Go.Eng

namespace Go.Eng
open Go Go.Proofs

theorem cells84_Tseitin : Tryz.prog.cellsOf 84 = 9 := by kernel_rfl
theorem cells82_Tseitin : Tryz.prog.cellsOf 82 = 3 := by kernel_rfl
theorem cells25_Tseitin : Tryz.prog.cellsOf 25 = 1 := by kernel_rfl
theorem cells22_Tseitin : Tryz.prog.cellsOf 22 = 1 := by kernel_rfl
theorem cells3_Tseitin : Tryz.prog.cellsOf 3 = 1 := by kernel_rfl
theorem cells80_Tseitin : Tryz.prog.cellsOf 80 = 5 := by kernel_rfl
theorem cells78_Tseitin : Tryz.prog.cellsOf 78 = 1 := by kernel_rfl
theorem cells162_Tseitin : Tryz.prog.cellsOf 162 = 2 := by kernel_rfl
theorem cells77_Tseitin : Tryz.prog.cellsOf 77 = 1 := by kernel_rfl
theorem cells166_Tseitin : Tryz.prog.cellsOf 166 = 2 := by kernel_rfl
theorem fits22_Tseitin : Fits Tryz.prog (.list 1 (.num .i64)) 22 := ⟨3, Tryz.underlying22, cells3_Tseitin, by decide, by decide, by decide, .inl Tryz.underlying3⟩
theorem fits25_Tseitin : Fits Tryz.prog (.list 1 (.list 1 (.num .i64))) 25 := ⟨22, Tryz.underlying25, cells22_Tseitin, by decide, by decide, by decide, .inl fits22_Tseitin⟩
theorem fits78_Tseitin : Fits Tryz.prog (.list 2 (.fld 0 (.num .i64) (.fld 1 (.num .i64) .nil))) 78 := ⟨162, Tryz.underlying78, cells162_Tseitin, by decide, by decide, by decide, .inr ⟨_, Tryz.underlying162, by
    rw [cells162_Tseitin]
    refine ⟨_, _, rfl, rfl, rfl, ⟨_, _, rfl, ?_, ?_, ⟨rfl, ?_⟩, .inl Tryz.underlying3⟩, .inl Tryz.underlying3⟩ <;> simp only [cells3_Tseitin]⟩⟩
theorem fits77_Tseitin : Fits Tryz.prog (.list 2 (.fld 0 (.num .i64) (.fld 1 (.num .i64) .nil))) 77 := ⟨166, Tryz.underlying77, cells166_Tseitin, by decide, by decide, by decide, .inr ⟨_, Tryz.underlying166, by
    rw [cells166_Tseitin]
    refine ⟨_, _, rfl, rfl, rfl, ⟨_, _, rfl, ?_, ?_, ⟨rfl, ?_⟩, .inl Tryz.underlying3⟩, .inl Tryz.underlying3⟩ <;> simp only [cells3_Tseitin]⟩⟩
theorem fitsA_Tseitin : Fits.go Tryz.prog (.fld 0 (.fld 0 (.num .i64) (.fld 1 (.list 2 (.fld 0 (.num .i64) (.fld 1 (.num .i64) .nil))) (.fld 2 (.list 2 (.fld 0 (.num .i64) (.fld 1 (.num .i64) .nil))) (.fld 3 (.list 1 (.num .i64)) (.fld 4 (.list 1 (.num .i64)) .nil))))) (.fld 5 (.list 1 (.num .i64)) (.fld 6 (.fld 0 (.num .i64) (.fld 1 (.list 1 (.list 1 (.num .i64))) (.fld 2 (.list 1 (.list 1 (.num .i64))) .nil))) .nil))) [{ name := "C", type := 80, offset := 0, embedded := false, tag := "", pkgPath := "", byteOffset := 0 }, { name := "Lits", type := 22, offset := 5, embedded := false, tag := "", pkgPath := "", byteOffset := 104 }, { name := "X", type := 82, offset := 6, embedded := false, tag := "", pkgPath := "", byteOffset := 128 }] 0 9 := by
  refine ⟨_, _, rfl, rfl, rfl, ⟨_, _, rfl, ?_, ?_, ⟨_, _, rfl, ?_, ?_, ⟨rfl, ?_⟩, .inr ⟨_, Tryz.underlying82, by
    rw [cells82_Tseitin]
    refine ⟨_, _, rfl, rfl, rfl, ⟨_, _, rfl, ?_, ?_, ⟨_, _, rfl, ?_, ?_, ⟨rfl, ?_⟩, .inl fits25_Tseitin⟩, .inl fits25_Tseitin⟩, .inl Tryz.underlying3⟩ <;> simp only [cells3_Tseitin, cells25_Tseitin]⟩⟩, .inl fits22_Tseitin⟩, .inr ⟨_, Tryz.underlying80, by
    rw [cells80_Tseitin]
    refine ⟨_, _, rfl, rfl, rfl, ⟨_, _, rfl, ?_, ?_, ⟨_, _, rfl, ?_, ?_, ⟨_, _, rfl, ?_, ?_, ⟨_, _, rfl, ?_, ?_, ⟨rfl, ?_⟩, .inl fits22_Tseitin⟩, .inl fits22_Tseitin⟩, .inl fits78_Tseitin⟩, .inl fits77_Tseitin⟩, .inl Tryz.underlying3⟩ <;> simp only [cells3_Tseitin, cells77_Tseitin, cells78_Tseitin, cells22_Tseitin]⟩⟩ <;> simp only [cells80_Tseitin, cells22_Tseitin, cells82_Tseitin]
/-- From the reading of an argument in the machine to the call. -/
theorem core_Tseitin {K : Type} {enc : TypeId × Value → K} {μ : DataW K → Nat} (hμ : Msr μ) (W : World) (cs : Array Value) (hcs : cs.size = 9) {d0 : DataW K} {p0 : List MemPlace} {fuel : Nat} (hf : DataW.trod enc Tryz.prog W 0 (fun _ => true) true fuel 84 cs.toList = some (d0, p0)) (hz : W.noneFrozen p0) (hd : μ d0 ≤ 1048576) :
    Calls Tryz.prog 6 #[.agg cs] W fun e W' => e = .returned (.bool true) ∧ RowKit.Below W.heap.size W W' := by
  obtain ⟨φ, H, acs, ns, ss, D, k1, k2, k3, k4, k5, k6, k7, k8, k9, k10⟩ := arg_vr hμ (G := 8) (s := .fld 0 (.fld 0 (.num .i64) (.fld 1 (.list 2 (.fld 0 (.num .i64) (.fld 1 (.num .i64) .nil))) (.fld 2 (.list 2 (.fld 0 (.num .i64) (.fld 1 (.num .i64) .nil))) (.fld 3 (.list 1 (.num .i64)) (.fld 4 (.list 1 (.num .i64)) .nil))))) (.fld 5 (.list 1 (.num .i64)) (.fld 6 (.fld 0 (.num .i64) (.fld 1 (.list 1 (.list 1 (.num .i64))) (.fld 2 (.list 1 (.list 1 (.num .i64))) .nil))) .nil))) (fun _ => rfl) Tryz.underlying84 (by rw [cells84_Tseitin]; exact fitsA_Tseitin) hf hz (by dsimp only; omega) _ _ (rel0 8 W) (fun i o hi => by simp [heap0, AHeap.get, Tr.get] at hi)
  have hal : acs.length = 9 := by rw [LRel.len k6]; simpa using hcs
  dsimp only at k10
  have hcall := calls_true k1 k2 k6 (top_6 (true, true) (fun _ => rfl) H acs ns ss D hal k7 k8 k9 (by omega) (by omega))
  rw [show cs.toList.toArray = cs by simp] at hcall
  exact hcall

end Go.Eng
