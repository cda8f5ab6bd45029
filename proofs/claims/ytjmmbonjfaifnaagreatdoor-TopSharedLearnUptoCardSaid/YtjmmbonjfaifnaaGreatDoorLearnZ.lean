/- TopSharedLearn answers true on the interpreter, and so on the machine. Conditions: none beyond each theorem's own. -/
import Derived.Test.YtjmmbonjfaifnaaGreatDoorB4
import Derived.Test.YtjmmbonjfaifnaaGreatDoorLearnA
import Derived.KernelRfl
import Derived.Test.YtjmmbonjfaifnaaGreatDoorAlive
set_option linter.all false
namespace Go.Eng
open Go Go.Proofs
theorem ag3_ZLearn : isAggT E0.P 3 = some false := by kernel_rfl
theorem ag22_ZLearn : isAggT E0.P 22 = some false := by kernel_rfl
theorem sz22_ZLearn : sizeT E0.P 22 = some 1 := by kernel_rfl
theorem ag25_ZLearn : isAggT E0.P 25 = some false := by kernel_rfl
theorem fo66_0_ZLearn : foff E0.P 66 0 = some 0 := by kernel_rfl
theorem fo66_1_ZLearn : foff E0.P 66 1 = some 1 := by kernel_rfl
theorem fo66_2_ZLearn : foff E0.P 66 2 = some 2 := by kernel_rfl
theorem ag66_ZLearn : isAggT E0.P 66 = some true := by kernel_rfl
theorem sz66_ZLearn : sizeT E0.P 66 = some 3 := by kernel_rfl
theorem zt22_ZLearn : zeroT E0.P 22 = some [.slice none 0 0] := by kernel_rfl
theorem el32_ZLearn : elemT E0.P 32 = some 42 := by kernel_rfl
theorem ez42_ZLearn : elemZ E0.P 42 = some (1, [.nilFunc]) := by kernel_rfl
theorem el75_ZLearn : elemT E0.P 75 = some 72 := by kernel_rfl
theorem ez72_ZLearn : elemZ E0.P 72 = some (1, [.nilFunc]) := by kernel_rfl
abbrev ShLearn : Sh := .fld 0 (.num .i64) (.fld 1 (.list 1 (.list 1 (.num .i64))) (.fld 2 (.list 1 (.num .i64)) .nil))
theorem arg_Learn {H : AHeap} {bx : Nat} {ns : List Int} {ss : List ByteArray} {D : List Nat} (h : Own H ⟨true, true, false⟩ ShLearn bx ns ss D) (hl : ns.length ≤ 63000) :
    ∃ (r : Row) (yu0 : Int) (ya1 : Option Addr) (yn1 yc1 : Nat) (yv1 : List (Option Addr × Nat × Nat)) (yl1 : List (List Int)) (ya2 : Option Addr) (yn2 yc2 : Nat) (yl2 : List Int), H.row bx = some r ∧ r.cs[0]? = some (.int .i64 yu0) ∧ IntKind.i64.wrap yu0 = yu0 ∧ r.cs[1]? = some (.slice ya1 yn1 yc1) ∧ V ES H ya1 yn1 yc1 yv1 ∧ exactBase ya1 = true ∧ yn1 ≤ 63000 ∧ VV (EI .i64) H yv1 yl1 ∧ (∀ xs ∈ yl1, xs.length ≤ 63000) ∧ r.cs[2]? = some (.slice ya2 yn2 yc2) ∧ V (EI .i64) H ya2 yn2 yc2 yl2 ∧ exactBase ya2 = true ∧ yn2 ≤ 63000 := by
  obtain ⟨r, hr, hw, hR⟩ := h.ex
  have hD := h.lD
  obtain ⟨n0, s0, D0, m0, t0, B0, r0, w0, rfl, rfl, rfl⟩ := hR
  obtain ⟨n1, s1, D1, m1, t1, B1, r1, w1, rfl, rfl, rfl⟩ := w0
  obtain ⟨n2, s2, D2, m2, t2, B2, r2, w2, rfl, rfl, rfl⟩ := w1
  obtain ⟨rfl, rfl, rfl⟩ := w2
  obtain ⟨yu0, k0, z0, -⟩ := r0
  obtain ⟨ya1, yn1, yc1, yv1, yl1, k1, v1, e1, g1, vv1, bb1⟩ := rd_lists (rdI .i64) r1 (fun j hj => hD j (by simp only [List.mem_append, hj, true_or, or_true]))
  obtain ⟨ya2, yn2, yc2, yl2, k2, v2, e2, g2⟩ := rd_list (rdI .i64) r2 (fun j hj => hD j (by simp only [List.mem_append, hj, true_or, or_true]))
  exact ⟨r, yu0, ya1, yn1, yc1, yv1, yl1, ya2, yn2, yc2, yl2, hr, k0, z0, k1, v1, e1, (by simp only [List.length_append] at hl; omega), vv1, (fun xs hx => by have := bb1 xs hx; simp only [List.length_append] at hl; omega), k2, v2, e2, (by simp only [List.length_append] at hl; omega)⟩
theorem call_37 : CallOK' E0 3 9 42 37 ShLearn := by
  intro H bx ns ss D hO hl1 _
  obtain ⟨r, yu0, ya1, yn1, yc1, yv1, yl1, ya2, yn2, yc2, yl2, hr, x0, w_u0, x1, h_l1, ex_l1, b_l1, i_l1, bi_l1, x2, h_l2, ex_l2, b_l2⟩ := arg_Learn hO hl1
  obtain ⟨lo_u0, hi_u0⟩ := rangei64 w_u0
  obtain ⟨len_l1, cap_l1, max_l1, wf_l1⟩ := h_l1.len
  obtain ⟨len_l2, cap_l2, max_l2, wf_l2⟩ := h_l2.len
  have m0 : Mem [] H H [] := Mem.start
  refine WF.kg Tryz.func37 rfl rfl ?_
  refine KC.seq ?_
  refine KC.region ?_
  refine KO.pv (PV.assign rfl) rfl rfl ?_
  refine KO.nil ?_
  refine KC.seq ?_
  refine KC.drawG (n := 13) (anc := [0, 1, 3, 7, 0, 16, 48, 112, 0, 256, 768, 1792, 4095]) (hv := [12]) (ord := [0, 1, 2, 3, 4, 5, 6, 7, 8, 9, 10, 11, 12]) (by kernel_rfl) (by kernel_rfl) (by kernel_rfl) (by kernel_rfl) (by kernel_rfl) fun H1 n2 g3 => ?_
  have m4 := m0.room n2 g3 [] (by decide) (by decide)
  refine KD.pv 1 (PV.move rfl) rfl rfl rfl (by kernel_rfl) rfl rfl rfl ?_
  refine KD.pv 3 (PV.nilCheck rfl) rfl rfl rfl (by kernel_rfl) rfl rfl rfl ?_
  refine KD.pv 7 (PV.fieldAddr fo66_0_ZLearn rfl) rfl rfl rfl (by kernel_rfl) rfl rfl rfl ?_
  refine KD.load 15 rfl (m4.row0 hO.lb hr) (by rw [read1 ag3_ZLearn]; exact x0) (pastGo (k := 1) (l := [H1]) (by kernel_rfl) rfl (pastCons ⟨_, (m4.row0 hO.lb hr), (by rw [read1 ag3_ZLearn]; exact x0)⟩ pastNil)) veq_int rfl (by kernel_rfl) rfl rfl rfl ?_
  refine KD.pv 31 (PV.move rfl) rfl rfl rfl (by kernel_rfl) rfl rfl rfl ?_
  refine KD.pv 63 (PV.nilCheck rfl) rfl rfl rfl (by kernel_rfl) rfl rfl rfl ?_
  refine KD.pv 127 (PV.fieldAddr fo66_1_ZLearn rfl) rfl rfl rfl (by kernel_rfl) rfl rfl rfl ?_
  refine KD.load 255 rfl (m4.row0 hO.lb hr) (by rw [read1 ag25_ZLearn]; exact x1) (pastGo (k := 1) (l := [H1]) (by kernel_rfl) rfl (pastCons ⟨_, (m4.row0 hO.lb hr), (by rw [read1 ag25_ZLearn]; exact x1)⟩ pastNil)) veq_sl rfl (by kernel_rfl) rfl rfl rfl ?_
  refine KD.pv 511 (PV.move rfl) rfl rfl rfl (by kernel_rfl) rfl rfl rfl ?_
  refine KD.pv 1023 (PV.nilCheck rfl) rfl rfl rfl (by kernel_rfl) rfl rfl rfl ?_
  refine KD.pv 2047 (PV.fieldAddr fo66_2_ZLearn rfl) rfl rfl rfl (by kernel_rfl) rfl rfl rfl ?_
  refine KD.load 4095 rfl (m4.row0 hO.lb hr) (by rw [read1 ag22_ZLearn]; exact x2) (pastGo (k := 1) (l := [H1]) (by kernel_rfl) rfl (pastCons ⟨_, (m4.row0 hO.lb hr), (by rw [read1 ag22_ZLearn]; exact x2)⟩ pastNil)) veq_sl rfl (by kernel_rfl) rfl rfl rfl ?_
  refine KD.call 8191 rfl rfl rfl (by kernel_rfl) rfl rfl rfl (le_Conflict H1 yu0 ya1 yn1 yc1 _ _ ya2 yn2 yc2 _ (wrap64 (by omega) (by omega)) (V.mem m4 h_l1) (VV.mem m4 i_l1) (V.mem m4 h_l2)) fun v5 H5 q5 => ?_
  obtain ⟨o5, e5, hv5, mc5⟩ := q5
  dsimp only at hv5 mc5
  subst hv5
  have m6 := m4.seq mc5
  refine KD.nil ⟨rfl, ?_⟩
  refine KC.seq ?_
  refine KC.region ?_
  refine KO.pv (PV.assign rfl) rfl rfl ?_
  refine KO.nil ?_
  exact KC.ret ⟨rfl, _, (.tmp rfl .nil), call_none m6⟩
theorem call_39 : CallOK' E0 3 9 42 39 ShLearn := by
  intro H bx ns ss D hO hl1 _
  obtain ⟨r, yu0, ya1, yn1, yc1, yv1, yl1, ya2, yn2, yc2, yl2, hr, x0, w_u0, x1, h_l1, ex_l1, b_l1, i_l1, bi_l1, x2, h_l2, ex_l2, b_l2⟩ := arg_Learn hO hl1
  obtain ⟨lo_u0, hi_u0⟩ := rangei64 w_u0
  obtain ⟨len_l1, cap_l1, max_l1, wf_l1⟩ := h_l1.len
  obtain ⟨len_l2, cap_l2, max_l2, wf_l2⟩ := h_l2.len
  have m0 : Mem [] H H [] := Mem.start
  refine WF.kg Tryz.func39 rfl rfl ?_
  refine KC.seq ?_
  refine KC.region ?_
  refine KO.pv (PV.assign rfl) rfl rfl ?_
  refine KO.nil ?_
  refine KC.seq ?_
  refine KC.drawG (n := 19) (anc := [0, 1, 3, 7, 0, 16, 48, 112, 0, 256, 768, 1792, 4095, 8191, 16383, 16383, 0, 98303, 262143]) (hv := [12, 17]) (ord := [0, 1, 2, 3, 4, 5, 6, 7, 8, 9, 10, 11, 12, 13, 14, 16, 17, 15, 18]) (by kernel_rfl) (by kernel_rfl) (by kernel_rfl) (by kernel_rfl) (by kernel_rfl) fun H1 n2 g3 => ?_
  have m4 := m0.room n2 g3 [16] (by decide) (by decide)
  refine KD.pv 1 (PV.move rfl) rfl rfl rfl (by kernel_rfl) rfl rfl rfl ?_
  refine KD.pv 3 (PV.nilCheck rfl) rfl rfl rfl (by kernel_rfl) rfl rfl rfl ?_
  refine KD.pv 7 (PV.fieldAddr fo66_0_ZLearn rfl) rfl rfl rfl (by kernel_rfl) rfl rfl rfl ?_
  refine KD.load 15 rfl (m4.row0 hO.lb hr) (by rw [read1 ag3_ZLearn]; exact x0) (pastGo (k := 1) (l := [H1]) (by kernel_rfl) rfl (pastCons ⟨_, (m4.row0 hO.lb hr), (by rw [read1 ag3_ZLearn]; exact x0)⟩ pastNil)) veq_int rfl (by kernel_rfl) rfl rfl rfl ?_
  refine KD.pv 31 (PV.move rfl) rfl rfl rfl (by kernel_rfl) rfl rfl rfl ?_
  refine KD.pv 63 (PV.nilCheck rfl) rfl rfl rfl (by kernel_rfl) rfl rfl rfl ?_
  refine KD.pv 127 (PV.fieldAddr fo66_1_ZLearn rfl) rfl rfl rfl (by kernel_rfl) rfl rfl rfl ?_
  refine KD.load 255 rfl (m4.row0 hO.lb hr) (by rw [read1 ag25_ZLearn]; exact x1) (pastGo (k := 1) (l := [H1]) (by kernel_rfl) rfl (pastCons ⟨_, (m4.row0 hO.lb hr), (by rw [read1 ag25_ZLearn]; exact x1)⟩ pastNil)) veq_sl rfl (by kernel_rfl) rfl rfl rfl ?_
  refine KD.pv 511 (PV.move rfl) rfl rfl rfl (by kernel_rfl) rfl rfl rfl ?_
  refine KD.pv 1023 (PV.nilCheck rfl) rfl rfl rfl (by kernel_rfl) rfl rfl rfl ?_
  refine KD.pv 2047 (PV.fieldAddr fo66_2_ZLearn rfl) rfl rfl rfl (by kernel_rfl) rfl rfl rfl ?_
  refine KD.load 4095 rfl (m4.row0 hO.lb hr) (by rw [read1 ag22_ZLearn]; exact x2) (pastGo (k := 1) (l := [H1]) (by kernel_rfl) rfl (pastCons ⟨_, (m4.row0 hO.lb hr), (by rw [read1 ag22_ZLearn]; exact x2)⟩ pastNil)) veq_sl rfl (by kernel_rfl) rfl rfl rfl ?_
  refine KD.call 8191 rfl rfl rfl (by kernel_rfl) rfl rfl rfl (le_Clause H1 yu0 ya1 yn1 yc1 _ _ ya2 yn2 yc2 _ (wrap64 (by omega) (by omega)) (V.mem m4 h_l1) (VV.mem m4 i_l1) (V.mem m4 h_l2)) fun v5 H5 q5 => ?_
  obtain ⟨a5, n5, e5, ys5, D5, hv5, mc5, p5_0, p5_1⟩ := q5
  dsimp only at hv5 mc5
  subst hv5
  have m6 := m4.seq mc5
  refine KD.pv 16383 (PV.move rfl) rfl rfl rfl (by kernel_rfl) rfl rfl rfl ?_
  refine KD.pv 32767 (PV.extract rfl rfl) rfl rfl rfl (by kernel_rfl) rfl rfl rfl ?_
  refine KD.allocM 98303 m6 (j := 1) rfl zt22_ZLearn rfl (by kernel_rfl) rfl rfl rfl fun H7 m8 => ?_
  refine KD.storeM 229375 m8 (j := 1) rfl sz22_ZLearn rfl rfl rfl (show 0 + 1 ≤ 1 by decide) (show _ = [.slice a5 n5 n5] from rfl) rfl (by kernel_rfl) rfl rfl fun H9 m10 => ?_
  refine KD.pv 262143 (PV.extract rfl rfl) rfl rfl rfl (by kernel_rfl) rfl rfl rfl ?_
  refine KD.pv 524287 (PV.assign rfl) rfl rfl rfl (by kernel_rfl) rfl rfl rfl ?_
  refine KD.nil ⟨rfl, ?_⟩
  refine KC.seq ?_
  refine KC.region ?_
  refine KO.pv (PV.makeFunc rfl rfl) rfl rfl ?_
  refine KO.buildSliceM m10 el32_ZLearn ez42_ZLearn rfl rfl (show _ = some [.func (.func 41) #[] #[.pointer (some ⟨(H.next + 16), 0, none⟩)]] from rfl) rfl rfl fun H11 m12 => ?_
  refine KO.pv (PV.assign rfl) rfl rfl ?_
  refine KO.nil ?_
  have m13 := m12.ownLst (C := (EI .i64)) (i := 1) rfl (by assumption) (by first | omega | (simp only [splice, List.length_append, List.length_set, List.length_replicate, List.length_map, List.length_take, List.length_drop, List.length_cons, List.length_nil] <;> omega))
  obtain ⟨nr14, rd14, ln14, lm14⟩ := OwnV.rd (rdI .i64) (m13.res (i := 1) rfl) (cs := [.slice a5 n5 n5]) (o := 0) rfl
  exact KC.ret ⟨rfl, _, (.tmp rfl .nil), call_one (m13.pick [0, 2, 1] (by decide) rfl) rfl (see_41 9) rd14 (by simp [R.own, R.inn, pickL]) (by omega) (by simp)⟩
theorem top_5 (w : Bool × Bool) (hwS : Sh.bools (.fld 0 (.num .i64) (.fld 1 (.list 1 (.list 1 (.num .i64))) (.fld 2 (.list 1 (.num .i64)) .nil))) = true → w.1 = true) (H : AHeap) (cs : List Value) (ns : List Int) (ss : List ByteArray) (D : List Nat) (hcl : cs.length = 3) (hone : cs.all oneC = true) (hR : Rd H ⟨false, w.1, w.2⟩ (.fld 0 (.num .i64) (.fld 1 (.list 1 (.list 1 (.num .i64))) (.fld 2 (.list 1 (.num .i64)) .nil))) cs 0 ns ss D) (hD : ∀ j ∈ D, j < H.next) (l1 : ns.length ≤ 10000000) (l2 : ss.length ≤ 10000000) :
    WF E0 5 [.agg cs.toArray] H fun q => q.1 = .bool true := by
  have hcalls : ∀ f ∈ ([37, 39] : List FuncId), CallOK' E0 3 9 42 f (.fld 0 (.num .i64) (.fld 1 (.list 1 (.list 1 (.num .i64))) (.fld 2 (.list 1 (.num .i64)) .nil))) ∧ E0.ext f = none := by
    intro f hf
    simp only [List.mem_cons, List.not_mem_nil, or_false] at hf
    rcases hf with rfl | rfl
    · exact ⟨call_37, rfl⟩
    · exact ⟨call_39, rfl⟩
  refine WF.k Tryz.func5 rfl rfl ?_
  refine KC.seq (KC.region ?_)
  refine KO.box (rfl) ((boxAgg hone)) rfl rfl fun G0 u0 => ?_
  refine KO.pv (PV.assign rfl) rfl rfl ?_
  refine KO.nil ?_
  rw [show cellsV (.agg cs.toArray) = cs by simp [cellsV]] at u0
  have hX : G0.row H.next = some ⟨66, true, true, cs⟩ := by rw [u0.row, if_pos rfl]
  have hn0 := u0.next
  refine KC.seq (KC.region ?_)
  refine KO.loadN ag66_ZLearn sz66_ZLearn rfl (hX) ((takeN_of (p := cs) (by rw [List.drop_zero, ← hcl, List.take_length]) hcl)) rfl rfl ?_
  refine KO.buildSlice el75_ZLearn ez72_ZLearn rfl rfl (rfl) rfl rfl fun G1 u1 => ?_
  refine KO.call rfl rfl rfl rfl (apart_34 (own := 35) (see := 36) (calls := [37, 39]) own_35 (see_36 9) hcalls rfl rfl (by decide) G1 cs ns ss D hcl hone w hwS (hR.frame fun j hj => by have := hD j hj; rw [u1.row, if_neg (by omega), u0.row, if_neg (by omega)]) (fun j hj => by have := hD j hj; rw [u1.next]; omega) l1 l2 G0.next (by rw [u1.row, if_pos rfl]; rfl) (by rw [u1.next]; omega)) fun v2 G2 q2 => ?_
  dsimp only at q2
  subst q2
  refine KO.pv (PV.move rfl) rfl rfl ?_
  refine KO.call rfl rfl rfl rfl (WF.sum (Q := fun q => q.1 = .bool true) rfl rfl) fun v3 G3 q3 => ?_
  dsimp only at q3
  subst q3
  refine KO.pv (PV.pickT rfl rfl rfl) rfl rfl ?_
  refine KO.pv (PV.assign rfl) rfl rfl ?_
  refine KO.nil ?_
  exact KC.ret ⟨rfl, _, rfl, rfl⟩

end Go.Eng

namespace Go.Eng
open Go Go.Proofs

theorem cells66_Learn : Tryz.prog.cellsOf 66 = 3 := by kernel_rfl
theorem cells22_Learn : Tryz.prog.cellsOf 22 = 1 := by kernel_rfl
theorem cells3_Learn : Tryz.prog.cellsOf 3 = 1 := by kernel_rfl
theorem cells25_Learn : Tryz.prog.cellsOf 25 = 1 := by kernel_rfl
theorem fits22_Learn : Fits Tryz.prog (.list 1 (.num .i64)) 22 := ⟨3, Tryz.underlying22, cells3_Learn, by decide, by decide, by decide, .inl Tryz.underlying3⟩
theorem fits25_Learn : Fits Tryz.prog (.list 1 (.list 1 (.num .i64))) 25 := ⟨22, Tryz.underlying25, cells22_Learn, by decide, by decide, by decide, .inl fits22_Learn⟩
theorem fitsA_Learn : Fits.go Tryz.prog (.fld 0 (.num .i64) (.fld 1 (.list 1 (.list 1 (.num .i64))) (.fld 2 (.list 1 (.num .i64)) .nil))) [{ name := "Vars", type := 3, offset := 0, embedded := false, tag := "", pkgPath := "", byteOffset := 0 }, { name := "L", type := 25, offset := 1, embedded := false, tag := "", pkgPath := "", byteOffset := 8 }, { name := "Decisions", type := 22, offset := 2, embedded := false, tag := "", pkgPath := "", byteOffset := 32 }] 0 3 := by
  refine ⟨_, _, rfl, rfl, rfl, ⟨_, _, rfl, ?_, ?_, ⟨_, _, rfl, ?_, ?_, ⟨rfl, ?_⟩, .inl fits22_Learn⟩, .inl fits25_Learn⟩, .inl Tryz.underlying3⟩ <;> simp only [cells3_Learn, cells25_Learn, cells22_Learn]
/-- From the reading of an argument in the machine to the call. -/
theorem core_Learn {K : Type} {enc : TypeId × Value → K} {μ : DataW K → Nat} (hμ : Msr μ) (W : World) (cs : Array Value) (hcs : cs.size = 3) {d0 : DataW K} {p0 : List MemPlace} {fuel : Nat} (hf : DataW.trod enc Tryz.prog W 0 (fun _ => true) true fuel 66 cs.toList = some (d0, p0)) (hz : W.noneFrozen p0) (hd : μ d0 ≤ 1048576) :
    Calls Tryz.prog 5 #[.agg cs] W fun e W' => e = .returned (.bool true) ∧ RowKit.Below W.heap.size W W' := by
  obtain ⟨φ, H, acs, ns, ss, D, k1, k2, k3, k4, k5, k6, k7, k8, k9, k10⟩ := arg_vr hμ (G := 8) (s := .fld 0 (.num .i64) (.fld 1 (.list 1 (.list 1 (.num .i64))) (.fld 2 (.list 1 (.num .i64)) .nil))) (fun _ => rfl) Tryz.underlying66 (by rw [cells66_Learn]; exact fitsA_Learn) hf hz (by dsimp only; omega) _ _ (rel0 8 W) (fun i o hi => by simp [heap0, AHeap.get, Tr.get] at hi)
  have hal : acs.length = 3 := by rw [LRel.len k6]; simpa using hcs
  dsimp only at k10
  have hcall := calls_true k1 k2 k6 (top_5 (true, true) (fun _ => rfl) H acs ns ss D hal k7 k8 k9 (by omega) (by omega))
  rw [show cs.toList.toArray = cs by simp] at hcall
  exact hcall

end Go.Eng
