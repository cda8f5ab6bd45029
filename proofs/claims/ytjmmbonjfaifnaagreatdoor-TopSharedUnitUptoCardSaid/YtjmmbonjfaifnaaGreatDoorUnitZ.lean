/- TopSharedUnit answers true on the interpreter, and so on the machine. Conditions: none beyond each theorem's own. -/
import Derived.Test.YtjmmbonjfaifnaaGreatDoorB1
import Derived.Test.YtjmmbonjfaifnaaGreatDoorUnitA
import Derived.KernelRfl
import Derived.Test.YtjmmbonjfaifnaaGreatDoorAlive
set_option linter.all false
namespace Go.Eng
open Go Go.Proofs
theorem ag22_ZUnit : isAggT E0.P 22 = some false := by kernel_rfl
theorem ag24_ZUnit : isAggT E0.P 24 = some true := by kernel_rfl
theorem sz24_ZUnit : sizeT E0.P 24 = some 3 := by kernel_rfl
theorem zt24_ZUnit : zeroT E0.P 24 = some [.int .i64 0, .slice none 0 0, .slice none 0 0] := by kernel_rfl
theorem ag25_ZUnit : isAggT E0.P 25 = some false := by kernel_rfl
theorem fo27_0_ZUnit : foff E0.P 27 0 = some 0 := by kernel_rfl
theorem fo27_1_ZUnit : foff E0.P 27 1 = some 3 := by kernel_rfl
theorem fo27_2_ZUnit : foff E0.P 27 2 = some 4 := by kernel_rfl
theorem ag27_ZUnit : isAggT E0.P 27 = some true := by kernel_rfl
theorem sz27_ZUnit : sizeT E0.P 27 = some 5 := by kernel_rfl
theorem el32_ZUnit : elemT E0.P 32 = some 42 := by kernel_rfl
theorem ez42_ZUnit : elemZ E0.P 42 = some (1, [.nilFunc]) := by kernel_rfl
theorem el43_ZUnit : elemT E0.P 43 = some 36 := by kernel_rfl
theorem ez36_ZUnit : elemZ E0.P 36 = some (1, [.nilFunc]) := by kernel_rfl
abbrev ShUnit : Sh := .fld 0 (.fld 0 (.num .i64) (.fld 1 (.list 1 (.num .i64)) (.fld 2 (.list 1 (.num .i64)) .nil))) (.fld 3 (.list 1 (.num .i64)) (.fld 4 (.list 1 (.list 1 (.num .i64))) .nil))
theorem arg_Unit {H : AHeap} {bx : Nat} {ns : List Int} {ss : List ByteArray} {D : List Nat} (h : Own H ⟨true, true, false⟩ ShUnit bx ns ss D) (hl : ns.length ≤ 63000) :
    ∃ (r : Row) (yu0 : Int) (ya1 : Option Addr) (yn1 yc1 : Nat) (yl1 : List Int) (ya2 : Option Addr) (yn2 yc2 : Nat) (yl2 : List Int) (ya3 : Option Addr) (yn3 yc3 : Nat) (yl3 : List Int) (ya4 : Option Addr) (yn4 yc4 : Nat) (yv4 : List (Option Addr × Nat × Nat)) (yl4 : List (List Int)), H.row bx = some r ∧ r.cs[0]? = some (.int .i64 yu0) ∧ IntKind.i64.wrap yu0 = yu0 ∧ r.cs[1]? = some (.slice ya1 yn1 yc1) ∧ V (EI .i64) H ya1 yn1 yc1 yl1 ∧ exactBase ya1 = true ∧ yn1 ≤ 63000 ∧ r.cs[2]? = some (.slice ya2 yn2 yc2) ∧ V (EI .i64) H ya2 yn2 yc2 yl2 ∧ exactBase ya2 = true ∧ yn2 ≤ 63000 ∧ r.cs[3]? = some (.slice ya3 yn3 yc3) ∧ V (EI .i64) H ya3 yn3 yc3 yl3 ∧ exactBase ya3 = true ∧ yn3 ≤ 63000 ∧ r.cs[4]? = some (.slice ya4 yn4 yc4) ∧ V ES H ya4 yn4 yc4 yv4 ∧ exactBase ya4 = true ∧ yn4 ≤ 63000 ∧ VV (EI .i64) H yv4 yl4 ∧ (∀ xs ∈ yl4, xs.length ≤ 63000) := by
  obtain ⟨r, hr, hw, hR⟩ := h.ex
  have hD := h.lD
  obtain ⟨n0, s0, D0, m0, t0, B0, r0, w0, rfl, rfl, rfl⟩ := hR
  obtain ⟨n1, s1, D1, m1, t1, B1, r1, w1, rfl, rfl, rfl⟩ := w0
  obtain ⟨n2, s2, D2, m2, t2, B2, r2, w2, rfl, rfl, rfl⟩ := w1
  obtain ⟨rfl, rfl, rfl⟩ := w2
  obtain ⟨n3, s3, D3, m3, t3, B3, r3, w3, rfl, rfl, rfl⟩ := r0
  obtain ⟨n4, s4, D4, m4, t4, B4, r4, w4, rfl, rfl, rfl⟩ := w3
  obtain ⟨n5, s5, D5, m5, t5, B5, r5, w5, rfl, rfl, rfl⟩ := w4
  obtain ⟨rfl, rfl, rfl⟩ := w5
  obtain ⟨yu0, k3, z3, -⟩ := r3
  obtain ⟨ya1, yn1, yc1, yl1, k4, v4, e4, g4⟩ := rd_list (rdI .i64) r4 (fun j hj => hD j (by simp only [List.mem_append, hj, true_or, or_true]))
  obtain ⟨ya2, yn2, yc2, yl2, k5, v5, e5, g5⟩ := rd_list (rdI .i64) r5 (fun j hj => hD j (by simp only [List.mem_append, hj, true_or, or_true]))
  obtain ⟨ya3, yn3, yc3, yl3, k1, v1, e1, g1⟩ := rd_list (rdI .i64) r1 (fun j hj => hD j (by simp only [List.mem_append, hj, true_or, or_true]))
  obtain ⟨ya4, yn4, yc4, yv4, yl4, k2, v2, e2, g2, vv2, bb2⟩ := rd_lists (rdI .i64) r2 (fun j hj => hD j (by simp only [List.mem_append, hj, true_or, or_true]))
  exact ⟨r, yu0, ya1, yn1, yc1, yl1, ya2, yn2, yc2, yl2, ya3, yn3, yc3, yl3, ya4, yn4, yc4, yv4, yl4, hr, k3, z3, k4, v4, e4, (by simp only [List.length_append] at hl; omega), k5, v5, e5, (by simp only [List.length_append] at hl; omega), k1, v1, e1, (by simp only [List.length_append] at hl; omega), k2, v2, e2, (by simp only [List.length_append] at hl; omega), vv2, (fun xs hx => by have := bb2 xs hx; simp only [List.length_append] at hl; omega)⟩
theorem call_11 : CallOK' E0 3 9 42 11 ShUnit := by
  intro H bx ns ss D hO hl1 _
  obtain ⟨r, yu0, ya1, yn1, yc1, yl1, ya2, yn2, yc2, yl2, ya3, yn3, yc3, yl3, ya4, yn4, yc4, yv4, yl4, hr, x0, w_u0, x1, h_l1, ex_l1, b_l1, x2, h_l2, ex_l2, b_l2, x3, h_l3, ex_l3, b_l3, x4, h_l4, ex_l4, b_l4, i_l4, bi_l4⟩ := arg_Unit hO hl1
  obtain ⟨lo_u0, hi_u0⟩ := rangei64 w_u0
  obtain ⟨len_l1, cap_l1, max_l1, wf_l1⟩ := h_l1.len
  obtain ⟨len_l2, cap_l2, max_l2, wf_l2⟩ := h_l2.len
  obtain ⟨len_l3, cap_l3, max_l3, wf_l3⟩ := h_l3.len
  obtain ⟨len_l4, cap_l4, max_l4, wf_l4⟩ := h_l4.len
  have m0 : Mem [] H H [] := Mem.start
  refine WF.kg Tryz.func11 rfl rfl ?_
  refine KC.seq ?_
  refine KC.region ?_
  refine KO.pv (PV.assign rfl) rfl rfl ?_
  refine KO.nil ?_
  refine KC.seq ?_
  refine KC.drawG (n := 9) (anc := [0, 1, 3, 7, 0, 16, 48, 112, 255]) (hv := [8]) (ord := [0, 1, 2, 3, 4, 5, 6, 7, 8]) (by kernel_rfl) (by kernel_rfl) (by kernel_rfl) (by kernel_rfl) (by kernel_rfl) fun H1 n2 g3 => ?_
  have m4 := m0.room n2 g3 [] (by decide) (by decide)
  refine KD.pv 1 (PV.move rfl) rfl rfl rfl (by kernel_rfl) rfl rfl rfl ?_
  refine KD.pv 3 (PV.nilCheck rfl) rfl rfl rfl (by kernel_rfl) rfl rfl rfl ?_
  refine KD.pv 7 (PV.fieldAddr fo27_0_ZUnit rfl) rfl rfl rfl (by kernel_rfl) rfl rfl rfl ?_
  refine KD.load 15 rfl (m4.row0 hO.lb hr) (readN ag24_ZUnit sz24_ZUnit (takeN_cons x0 (takeN_cons x1 (takeN_cons x2 takeN_nil)))) (pastGo (k := 1) (l := [H1]) (by kernel_rfl) rfl (pastCons ⟨_, (m4.row0 hO.lb hr), (readN ag24_ZUnit sz24_ZUnit (takeN_cons x0 (takeN_cons x1 (takeN_cons x2 takeN_nil))))⟩ pastNil)) (veq_agg (veqCons veqI (veqCons veqS (veqCons veqS veqNil)))) rfl (by kernel_rfl) rfl rfl rfl ?_
  refine KD.pv 31 (PV.move rfl) rfl rfl rfl (by kernel_rfl) rfl rfl rfl ?_
  refine KD.pv 63 (PV.nilCheck rfl) rfl rfl rfl (by kernel_rfl) rfl rfl rfl ?_
  refine KD.pv 127 (PV.fieldAddr fo27_1_ZUnit rfl) rfl rfl rfl (by kernel_rfl) rfl rfl rfl ?_
  refine KD.load 255 rfl (m4.row0 hO.lb hr) (by rw [read1 ag22_ZUnit]; exact x3) (pastGo (k := 1) (l := [H1]) (by kernel_rfl) rfl (pastCons ⟨_, (m4.row0 hO.lb hr), (by rw [read1 ag22_ZUnit]; exact x3)⟩ pastNil)) veq_sl rfl (by kernel_rfl) rfl rfl rfl ?_
  refine KD.call 511 rfl rfl rfl (by kernel_rfl) rfl rfl rfl (unit_State H1 yu0 ya1 yn1 yc1 _ ya2 yn2 yc2 _ ya3 yn3 yc3 _ (wrap64 (by omega) (by omega)) (V.mem m4 h_l1) (V.mem m4 h_l2) (V.mem m4 h_l3)) fun v5 H5 q5 => ?_
  obtain ⟨s5, lit5, e5, hv5, mc5, p5_0, p5_1⟩ := q5
  dsimp only at hv5 mc5
  subst hv5
  have m6 := m4.seq mc5
  refine KD.nil ⟨rfl, ?_⟩
  refine KC.seq ?_
  refine KC.region ?_
  refine KO.pv (PV.assign rfl) rfl rfl ?_
  refine KO.nil ?_
  exact KC.ret ⟨rfl, _, (.tmp rfl .nil), call_none m6⟩
theorem call_13 : CallOK' E0 3 9 42 13 ShUnit := by
  intro H bx ns ss D hO hl1 _
  obtain ⟨r, yu0, ya1, yn1, yc1, yl1, ya2, yn2, yc2, yl2, ya3, yn3, yc3, yl3, ya4, yn4, yc4, yv4, yl4, hr, x0, w_u0, x1, h_l1, ex_l1, b_l1, x2, h_l2, ex_l2, b_l2, x3, h_l3, ex_l3, b_l3, x4, h_l4, ex_l4, b_l4, i_l4, bi_l4⟩ := arg_Unit hO hl1
  obtain ⟨lo_u0, hi_u0⟩ := rangei64 w_u0
  obtain ⟨len_l1, cap_l1, max_l1, wf_l1⟩ := h_l1.len
  obtain ⟨len_l2, cap_l2, max_l2, wf_l2⟩ := h_l2.len
  obtain ⟨len_l3, cap_l3, max_l3, wf_l3⟩ := h_l3.len
  obtain ⟨len_l4, cap_l4, max_l4, wf_l4⟩ := h_l4.len
  have m0 : Mem [] H H [] := Mem.start
  refine WF.kg Tryz.func13 rfl rfl ?_
  refine KC.seq ?_
  refine KC.region ?_
  refine KO.pv (PV.assign rfl) rfl rfl ?_
  refine KO.nil ?_
  refine KC.seq ?_
  refine KC.drawG (n := 17) (anc := [0, 1, 3, 7, 0, 16, 48, 112, 255, 511, 1023, 1023, 1023, 0, 10239, 28671, 65535]) (hv := [8, 14]) (ord := [0, 1, 2, 3, 4, 5, 6, 7, 8, 9, 10, 13, 14, 11, 12, 15, 16]) (by kernel_rfl) (by kernel_rfl) (by kernel_rfl) (by kernel_rfl) (by kernel_rfl) fun H1 n2 g3 => ?_
  have m4 := m0.room n2 g3 [13] (by decide) (by decide)
  refine KD.pv 1 (PV.move rfl) rfl rfl rfl (by kernel_rfl) rfl rfl rfl ?_
  refine KD.pv 3 (PV.nilCheck rfl) rfl rfl rfl (by kernel_rfl) rfl rfl rfl ?_
  refine KD.pv 7 (PV.fieldAddr fo27_0_ZUnit rfl) rfl rfl rfl (by kernel_rfl) rfl rfl rfl ?_
  refine KD.load 15 rfl (m4.row0 hO.lb hr) (readN ag24_ZUnit sz24_ZUnit (takeN_cons x0 (takeN_cons x1 (takeN_cons x2 takeN_nil)))) (pastGo (k := 1) (l := [H1]) (by kernel_rfl) rfl (pastCons ⟨_, (m4.row0 hO.lb hr), (readN ag24_ZUnit sz24_ZUnit (takeN_cons x0 (takeN_cons x1 (takeN_cons x2 takeN_nil))))⟩ pastNil)) (veq_agg (veqCons veqI (veqCons veqS (veqCons veqS veqNil)))) rfl (by kernel_rfl) rfl rfl rfl ?_
  refine KD.pv 31 (PV.move rfl) rfl rfl rfl (by kernel_rfl) rfl rfl rfl ?_
  refine KD.pv 63 (PV.nilCheck rfl) rfl rfl rfl (by kernel_rfl) rfl rfl rfl ?_
  refine KD.pv 127 (PV.fieldAddr fo27_2_ZUnit rfl) rfl rfl rfl (by kernel_rfl) rfl rfl rfl ?_
  refine KD.load 255 rfl (m4.row0 hO.lb hr) (by rw [read1 ag25_ZUnit]; exact x4) (pastGo (k := 1) (l := [H1]) (by kernel_rfl) rfl (pastCons ⟨_, (m4.row0 hO.lb hr), (by rw [read1 ag25_ZUnit]; exact x4)⟩ pastNil)) veq_sl rfl (by kernel_rfl) rfl rfl rfl ?_
  refine KD.call 511 rfl rfl rfl (by kernel_rfl) rfl rfl rfl (unit_Run H1 yu0 ya1 yn1 yc1 _ ya2 yn2 yc2 _ ya4 yn4 yc4 _ _ (wrap64 (by omega) (by omega)) (V.mem m4 h_l1) (V.mem m4 h_l2) (V.mem m4 h_l4) (VV.mem m4 i_l4)) fun v5 H5 q5 => ?_
  obtain ⟨rv5, a15, n15, x15, D15, a25, n25, x25, D25, ix5, e5, hv5, mc5, p5_0, p5_1, p5_2, p5_3⟩ := q5
  dsimp only at hv5 mc5
  subst hv5
  have m6 := m4.seq mc5
  refine KD.pv 1023 (PV.move rfl) rfl rfl rfl (by kernel_rfl) rfl rfl rfl ?_
  refine KD.pv 2047 (PV.extract rfl rfl) rfl rfl rfl (by kernel_rfl) rfl rfl rfl ?_
  refine KD.allocM 10239 m6 (j := 2) rfl zt24_ZUnit rfl (by kernel_rfl) rfl rfl rfl fun H7 m8 => ?_
  refine KD.storeM 26623 m8 (j := 2) rfl sz24_ZUnit rfl rfl rfl (show 0 + 3 ≤ 3 by decide) (show _ = [.int .i64 rv5, .slice a15 n15 n15, .slice a25 n25 n25] from rfl) rfl (by kernel_rfl) rfl rfl fun H9 m10 => ?_
  refine KD.pv 28671 (PV.extract rfl rfl) rfl rfl rfl (by kernel_rfl) rfl rfl rfl ?_
  refine KD.pv 32767 (PV.extract rfl rfl) rfl rfl rfl (by kernel_rfl) rfl rfl rfl ?_
  refine KD.pv 65535 (PV.assign rfl) rfl rfl rfl (by kernel_rfl) rfl rfl rfl ?_
  refine KD.pv 131071 (PV.assign rfl) rfl rfl rfl (by kernel_rfl) rfl rfl rfl ?_
  refine KD.nil ⟨rfl, ?_⟩
  refine KC.seq ?_
  refine KC.region ?_
  refine KO.pv (PV.makeFunc rfl rfl) rfl rfl ?_
  refine KO.buildSliceM m10 el32_ZUnit ez42_ZUnit rfl rfl (show _ = some [.func (.func 15) #[] #[.pointer (some ⟨(H.next + 13), 0, none⟩)]] from rfl) rfl rfl fun H11 m12 => ?_
  refine KO.pv (PV.assign rfl) rfl rfl ?_
  refine KO.nil ?_
  have m13 := m12.ownLst (C := (EI .i64)) (i := 1) rfl (by assumption) (by first | omega | (simp only [splice, List.length_append, List.length_set, List.length_replicate, List.length_map, List.length_take, List.length_drop, List.length_cons, List.length_nil] <;> omega))
  have m15 := m13.ownLst (C := (EI .i64)) (i := 2) rfl (by assumption) (by first | omega | (simp only [splice, List.length_append, List.length_set, List.length_replicate, List.length_map, List.length_take, List.length_drop, List.length_cons, List.length_nil] <;> omega))
  obtain ⟨nr14, rd14, ln14, lm14⟩ := OwnV.rd (rdI .i64) (m15.res (i := 1) rfl) (cs := [.int .i64 rv5, .slice a15 n15 n15, .slice a25 n25 n25]) (o := 1) rfl
  obtain ⟨nr16, rd16, ln16, lm16⟩ := OwnV.rd (rdI .i64) (m15.res (i := 2) rfl) (cs := [.int .i64 rv5, .slice a15 n15 n15, .slice a25 n25 n25]) (o := 2) rfl
  exact KC.ret ⟨rfl, _, (.tmp rfl .nil), call_one (m15.pick [0, 3, 1, 2] (by decide) rfl) rfl (see_15 9) ⟨_, _, _, _, _, _, ⟨_, rfl, (wrap64 (by omega) (by omega)), rfl, rfl, rfl⟩, ⟨_, _, _, _, _, _, rd14, ⟨_, _, _, _, _, _, rd16, ⟨rfl, rfl, rfl⟩, rfl, rfl, rfl⟩, rfl, rfl, rfl⟩, rfl, rfl, rfl⟩ (by simp [R.own, R.inn, pickL]) (by simp only [List.length_append, List.length_cons, List.length_nil] <;> omega) (by simp)⟩
theorem top_3 (w : Bool × Bool) (hwS : Sh.bools (.fld 0 (.fld 0 (.num .i64) (.fld 1 (.list 1 (.num .i64)) (.fld 2 (.list 1 (.num .i64)) .nil))) (.fld 3 (.list 1 (.num .i64)) (.fld 4 (.list 1 (.list 1 (.num .i64))) .nil))) = true → w.1 = true) (H : AHeap) (cs : List Value) (ns : List Int) (ss : List ByteArray) (D : List Nat) (hcl : cs.length = 5) (hone : cs.all oneC = true) (hR : Rd H ⟨false, w.1, w.2⟩ (.fld 0 (.fld 0 (.num .i64) (.fld 1 (.list 1 (.num .i64)) (.fld 2 (.list 1 (.num .i64)) .nil))) (.fld 3 (.list 1 (.num .i64)) (.fld 4 (.list 1 (.list 1 (.num .i64))) .nil))) cs 0 ns ss D) (hD : ∀ j ∈ D, j < H.next) (l1 : ns.length ≤ 10000000) (l2 : ss.length ≤ 10000000) :
    WF E0 3 [.agg cs.toArray] H fun q => q.1 = .bool true := by
  have hcalls : ∀ f ∈ ([11, 13] : List FuncId), CallOK' E0 3 9 42 f (.fld 0 (.fld 0 (.num .i64) (.fld 1 (.list 1 (.num .i64)) (.fld 2 (.list 1 (.num .i64)) .nil))) (.fld 3 (.list 1 (.num .i64)) (.fld 4 (.list 1 (.list 1 (.num .i64))) .nil))) ∧ E0.ext f = none := by
    intro f hf
    simp only [List.mem_cons, List.not_mem_nil, or_false] at hf
    rcases hf with rfl | rfl
    · exact ⟨call_11, rfl⟩
    · exact ⟨call_13, rfl⟩
  refine WF.k Tryz.func3 rfl rfl ?_
  refine KC.seq (KC.region ?_)
  refine KO.box (rfl) ((boxAgg hone)) rfl rfl fun G0 u0 => ?_
  refine KO.pv (PV.assign rfl) rfl rfl ?_
  refine KO.nil ?_
  rw [show cellsV (.agg cs.toArray) = cs by simp [cellsV]] at u0
  have hX : G0.row H.next = some ⟨27, true, true, cs⟩ := by rw [u0.row, if_pos rfl]
  have hn0 := u0.next
  refine KC.seq (KC.region ?_)
  refine KO.loadN ag27_ZUnit sz27_ZUnit rfl (hX) ((takeN_of (p := cs) (by rw [List.drop_zero, ← hcl, List.take_length]) hcl)) rfl rfl ?_
  refine KO.buildSlice el43_ZUnit ez36_ZUnit rfl rfl (rfl) rfl rfl fun G1 u1 => ?_
  refine KO.call rfl rfl rfl rfl (apart_8 (own := 9) (see := 10) (calls := [11, 13]) own_9 (see_10 9) hcalls rfl rfl (by decide) G1 cs ns ss D hcl hone w hwS (hR.frame fun j hj => by have := hD j hj; rw [u1.row, if_neg (by omega), u0.row, if_neg (by omega)]) (fun j hj => by have := hD j hj; rw [u1.next]; omega) l1 l2 G0.next (by rw [u1.row, if_pos rfl]; rfl) (by rw [u1.next]; omega)) fun v2 G2 q2 => ?_
  dsimp only at q2
  subst q2
  refine KO.pv (PV.move rfl) rfl rfl ?_
  refine KO.call rfl rfl rfl rfl (WF.sum (Q := fun q => q.1 = .bool true) rfl rfl) fun v3 G3 q3 => ?_
  dsimp only at q3
  subst q3
  refine KO.pv (PV.pickT rfl rfl rfl) rfl rfl ?_
  refine KO.pv (PV.assign rfl) rfl rfl ?_
  refine KO.nil ?_
  exact KC.ret ⟨rfl, _, rfl, rfl⟩

end Go.Eng

namespace Go.Eng
open Go Go.Proofs

theorem cells27_Unit : Tryz.prog.cellsOf 27 = 5 := by kernel_rfl
theorem cells25_Unit : Tryz.prog.cellsOf 25 = 1 := by kernel_rfl
theorem cells22_Unit : Tryz.prog.cellsOf 22 = 1 := by kernel_rfl
theorem cells3_Unit : Tryz.prog.cellsOf 3 = 1 := by kernel_rfl
theorem cells24_Unit : Tryz.prog.cellsOf 24 = 3 := by kernel_rfl
theorem fits22_Unit : Fits Tryz.prog (.list 1 (.num .i64)) 22 := ⟨3, Tryz.underlying22, cells3_Unit, by decide, by decide, by decide, .inl Tryz.underlying3⟩
theorem fits25_Unit : Fits Tryz.prog (.list 1 (.list 1 (.num .i64))) 25 := ⟨22, Tryz.underlying25, cells22_Unit, by decide, by decide, by decide, .inl fits22_Unit⟩
theorem fitsA_Unit : Fits.go Tryz.prog (.fld 0 (.fld 0 (.num .i64) (.fld 1 (.list 1 (.num .i64)) (.fld 2 (.list 1 (.num .i64)) .nil))) (.fld 3 (.list 1 (.num .i64)) (.fld 4 (.list 1 (.list 1 (.num .i64))) .nil))) [{ name := "A", type := 24, offset := 0, embedded := false, tag := "", pkgPath := "", byteOffset := 0 }, { name := "C", type := 22, offset := 3, embedded := false, tag := "", pkgPath := "", byteOffset := 56 }, { name := "L", type := 25, offset := 4, embedded := false, tag := "", pkgPath := "", byteOffset := 80 }] 0 5 := by
  refine ⟨_, _, rfl, rfl, rfl, ⟨_, _, rfl, ?_, ?_, ⟨_, _, rfl, ?_, ?_, ⟨rfl, ?_⟩, .inl fits25_Unit⟩, .inl fits22_Unit⟩, .inr ⟨_, Tryz.underlying24, by
    rw [cells24_Unit]
    refine ⟨_, _, rfl, rfl, rfl, ⟨_, _, rfl, ?_, ?_, ⟨_, _, rfl, ?_, ?_, ⟨rfl, ?_⟩, .inl fits22_Unit⟩, .inl fits22_Unit⟩, .inl Tryz.underlying3⟩ <;> simp only [cells3_Unit, cells22_Unit]⟩⟩ <;> simp only [cells24_Unit, cells22_Unit, cells25_Unit]
/-- From the reading of an argument in the machine to the call. -/
theorem core_Unit {K : Type} {enc : TypeId × Value → K} {μ : DataW K → Nat} (hμ : Msr μ) (W : World) (cs : Array Value) (hcs : cs.size = 5) {d0 : DataW K} {p0 : List MemPlace} {fuel : Nat} (hf : DataW.trod enc Tryz.prog W 0 (fun _ => true) true fuel 27 cs.toList = some (d0, p0)) (hz : W.noneFrozen p0) (hd : μ d0 ≤ 1048576) :
    Calls Tryz.prog 3 #[.agg cs] W fun e W' => e = .returned (.bool true) ∧ RowKit.Below W.heap.size W W' := by
  obtain ⟨φ, H, acs, ns, ss, D, k1, k2, k3, k4, k5, k6, k7, k8, k9, k10⟩ := arg_vr hμ (G := 8) (s := .fld 0 (.fld 0 (.num .i64) (.fld 1 (.list 1 (.num .i64)) (.fld 2 (.list 1 (.num .i64)) .nil))) (.fld 3 (.list 1 (.num .i64)) (.fld 4 (.list 1 (.list 1 (.num .i64))) .nil))) (fun _ => rfl) Tryz.underlying27 (by rw [cells27_Unit]; exact fitsA_Unit) hf hz (by dsimp only; omega) _ _ (rel0 8 W) (fun i o hi => by simp [heap0, AHeap.get, Tr.get] at hi)
  have hal : acs.length = 5 := by rw [LRel.len k6]; simpa using hcs
  dsimp only at k10
  have hcall := calls_true k1 k2 k6 (top_3 (true, true) (fun _ => rfl) H acs ns ss D hal k7 k8 k9 (by omega) (by omega))
  rw [show cs.toList.toArray = cs by simp] at hcall
  exact hcall

end Go.Eng
