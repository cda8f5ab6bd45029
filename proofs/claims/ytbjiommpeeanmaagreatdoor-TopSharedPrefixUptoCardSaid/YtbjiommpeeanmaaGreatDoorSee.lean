/- The functions that see numbers and truth values keep their contracts. Conditions: none beyond each theorem's own. -/
import Derived.Test.YtbjiommpeeanmaaGreatDoorF
import Derived.KernelRfl
set_option linter.all false
namespace Go.Eng
open Go Go.Proofs
theorem fo136_2_N1 : foff E0.P 136 2 = some 2 := by kernel_rfl
theorem ag4_N1 : isAggT E0.P 4 = some false := by kernel_rfl
theorem fo136_3_N1 : foff E0.P 136 3 = some 3 := by kernel_rfl
theorem ag3_N1 : isAggT E0.P 3 = some false := by kernel_rfl
theorem sz3_N1 : sizeT E0.P 3 = some 1 := by kernel_rfl
theorem fo136_0_N1 : foff E0.P 136 0 = some 0 := by kernel_rfl
theorem ag24_N1 : isAggT E0.P 24 = some false := by kernel_rfl
theorem el24_N1 : elemT E0.P 24 = some 3 := by kernel_rfl
theorem ez3_N1 : elemZ E0.P 3 = some (1, [.int .i64 0]) := by kernel_rfl
theorem sb3_N1 : smallBytes E0.P 3 = true := by kernel_rfl
theorem un24_N1 : E0.P.underlying 24 = some (.slice 3) := by kernel_rfl
theorem sz24_N1 : sizeT E0.P 24 = some 1 := by kernel_rfl
theorem num_int (tS : Nat) : SeeOK E0 3 tS 88 (.num .i64) := by
  intro H be oe n0 s0 mark room at_ re Fn Fs bx o rx ns ss D he hx hxw hwm hmk hrd hbx hD h1 h2 h3 h4 h5 h6 hm hl1 hl2
  refine WF.k Tryz.func88 rfl rfl ?_
  refine KC.seq (KC.seq (KC.region ?_))
  refine KO.pv (PV.move rfl) rfl rfl ?_
  refine KO.pv (PV.nilCheck rfl) rfl rfl ?_
  refine KO.pv (PV.fieldAddr fo136_2_N1 rfl) rfl rfl ?_
  refine KO.load1 ag4_N1 rfl (he.row) (he.mark) rfl rfl ?_
  refine KO.nil ?_
  obtain ⟨v, hv, hw, rfl, rfl, rfl⟩ := hrd
  have hlo := lt_of_get hv
  refine KC.mono (Q := fun e l' H' => e = .normal ∧ Sub [(0, .pointer (some ⟨be, oe, none⟩)), (1, .pointer (some ⟨bx, o, none⟩))] l' ∧ ∃ v' at' re', Eye 3 tS H' be oe n0 s0 mark room.r at' re' Fn Fs ∧ H'.row bx = some ⟨rx.elem, rx.whole, rx.rw, putL rx.cs o [.int .i64 v']⟩ ∧ IntKind.wrap .i64 v' = v' ∧
      re'.elem = re.elem ∧ re'.whole = re.whole ∧ re'.cs.length = re.cs.length ∧ (∀ i, i ≠ oe → i ≠ oe + 1 → i ≠ oe + 3 → re'.cs[i]? = re.cs[i]?) ∧ (mark = false → v' = v) ∧ H'.next = H.next ∧ ∀ j, j ≠ be → j ≠ bx → H'.row j = H.row j) ?_ ?_
  · refine KC.cond rfl (fun hm => ?_) (fun hm => ?_)
    · refine KC.seq (KC.region ?_)
      have ha := lt_of_get he.at_
      have hrx := (hxw (hwm (.inl hm))).rw (hmk hm)
      refine KO.pv (PV.move rfl) rfl rfl ?_
      refine KO.pv (PV.nilCheck rfl) rfl rfl ?_
      refine KO.pv (PV.fieldAddr fo136_3_N1 rfl) rfl rfl ?_
      refine KO.load1 ag3_N1 rfl (he.row) (he.at_) rfl rfl ?_
      refine KO.pv (PV.add rfl rfl (rfl)) rfl rfl ?_
      refine KO.pv (PV.nilCheck rfl) rfl rfl ?_
      refine KO.pv (PV.fieldAddr fo136_3_N1 rfl) rfl rfl ?_
      refine KO.store1 sz3_N1 rfl rfl rfl (he.row) (he.rw) (ha) rfl fun H1 u1 => ?_
      refine KO.nil ?_
      have he1 := he.setAt u1
      have hx1 : H1.row bx = some rx := by rw [u1.row, if_neg h1]; exact hx
      refine KC.region ?_
      refine KO.pv (PV.move rfl) rfl rfl ?_
      refine KO.pv (PV.move rfl) rfl rfl ?_
      refine KO.pv (PV.nilCheck rfl) rfl rfl ?_
      refine KO.pv (PV.fieldAddr fo136_3_N1 rfl) rfl rfl ?_
      refine KO.load1 ag3_N1 rfl (he1.row) (he1.at_) rfl rfl ?_
      refine KO.pv (PV.nilCheck rfl) rfl rfl ?_
      refine KO.store1 sz3_N1 rfl rfl rfl (hx1) (hrx) (hlo) rfl fun H2 u2 => ?_
      refine KO.nil ?_
      refine ⟨rfl, .cons rfl (.cons rfl .nil), _, _, _, he1.frame (by rw [u2.next]; exact Nat.le_refl _) (fun j hj => by rw [u2.row, if_neg]; rintro rfl; rcases hj with hj | hj | hj; exact h1 hj; exact h2 hj; exact h3 hj), by rw [u2.row, if_pos rfl, hrx], by exact wrap_wrap _ _, rfl, rfl, ?_, ?_, fun hh => (by rw [hh] at hm; cases hm), by rw [u2.next, u1.next], ?_⟩
      · exact putL_length ha
      · intro i i1 i2 i3; exact (putL1 ha i).trans (if_neg i3)
      · intro j j1 j2; rw [u2.row, if_neg j2, u1.row, if_neg j1]
    · refine KC.skip ⟨rfl, .cons rfl (.cons rfl .nil), v, at_, re, he, ?_, hw, rfl, rfl, rfl, fun _ _ _ _ => rfl, fun _ => rfl, rfl, fun _ _ _ => rfl⟩
      rw [putL_same hv, hx]
  · rintro e l' H' ⟨rfl, hsub, v', at', re', he', hx', hw', q1, q2, q3, q4, q5, q6, q7⟩
    refine KC.sub hsub ?_
    obtain ⟨nv, hnv, hL⟩ := he'.n
    refine KC.draw (n := 13) (anc := [0, 0, 2, 6, 14, 0, 32, 96, 224, 510, 1023, 2047, 4095]) (hv := [9, 12]) (ord := [1, 2, 3, 4, 5, 6, 7, 8, 9, 0, 10, 11, 12]) (by kernel_rfl) (by kernel_rfl) (by kernel_rfl) (by kernel_rfl) (by kernel_rfl) fun H0 hn0 hr0 => ?_
    refine KD.pv 2 (PV.move rfl) rfl rfl rfl (by kernel_rfl) rfl rfl rfl ?_
    refine KD.pv 6 (PV.nilCheck rfl) rfl rfl rfl (by kernel_rfl) rfl rfl rfl ?_
    refine KD.pv 14 (PV.fieldAddr fo136_0_N1 rfl) rfl rfl rfl (by kernel_rfl) rfl rfl rfl ?_
    refine KD.load 30 rfl ((hr0 be ▸ he'.row)) (by rw [read1 ag24_N1]; exact (hnv)) (past1 ⟨_, ((hr0 be ▸ he'.row)), by rw [read1 ag24_N1]; exact (hnv)⟩) (hL.veq) rfl (by kernel_rfl) rfl rfl rfl ?_
    refine KD.pv 62 (PV.move rfl) rfl rfl rfl (by kernel_rfl) rfl rfl rfl ?_
    refine KD.pv 126 (PV.nilCheck rfl) rfl rfl rfl (by kernel_rfl) rfl rfl rfl ?_
    refine KD.load 254 rfl ((hr0 bx ▸ hx')) (by rw [read1 ag3_N1]; exact ((by rw [putL1 hlo, if_pos rfl]))) (past1 ⟨_, ((hr0 bx ▸ hx')), by rw [read1 ag3_N1]; exact ((by rw [putL1 hlo, if_pos rfl]))⟩) (veq_int) rfl (by kernel_rfl) rfl rfl rfl ?_
    refine KD.buildSlice 510 el24_N1 ez3_N1 rfl rfl (rfl) rfl (by kernel_rfl) rfl rfl rfl fun H1 u1 => ?_
    have he0 : Eye 3 tS H0 be oe n0 s0 mark room.r at' re' Fn Fs := he'.frame (by rw [hn0]; exact Nat.le_add_right _ _) (fun j _ => hr0 j)
    have he1 : Eye 3 tS H1 be oe n0 s0 mark room.r at' re' Fn Fs := he0.frame (by rw [u1.next]; exact Nat.le_refl _) (fun j hj => by rw [u1.row, if_neg]; show j ≠ H'.next + 8; rcases hj with rfl | hj | hj; have := he'.ltb; omega; have := he'.ltn j hj; omega; have := he'.lts j hj; omega)
    have hL1 := hL.frame (H' := H1) (fun j hj => by rw [u1.row, if_neg (show j ≠ H'.next + 8 from by have := he'.ltn j hj; omega), hr0])
    refine KD.append 1022 el24_N1 ez3_N1 sb3_N1 un24_N1 rfl rfl ((hL1)) ((newElems_one (u1.row _ ▸ if_pos rfl) rfl rfl)) (rfl) ((ints_one _)) ((by simp only [List.length_map, List.length_cons, List.length_nil] at hl1 ⊢; omega)) rfl (by kernel_rfl) rfl rfl rfl fun v2 H2 D2 k1 k2 k3 k4 => ?_
    refine KD.pv 1023 (PV.move rfl) rfl rfl rfl (by kernel_rfl) rfl rfl rfl ?_
    refine KD.pv 2047 (PV.nilCheck rfl) rfl rfl rfl (by kernel_rfl) rfl rfl rfl ?_
    refine KD.pv 4095 (PV.fieldAddr fo136_0_N1 rfl) rfl rfl rfl (by kernel_rfl) rfl rfl rfl ?_
    have hbe2 : H2.row be = some re' := by rw [k3 be he1.bn he1.ltb]; exact he1.row
    refine KD.store1 8191 sz24_N1 rfl rfl (k1.one) ((hbe2)) (he1.rw) ((lt_of_get hnv)) rfl (by kernel_rfl) rfl rfl fun H3 u3 => ?_
    refine KD.nil ⟨rfl, rfl, _, rfl, ?_⟩
    have hq := Eye.push (x := IntKind.i64.wrap v') he1 (by rw [List.map_append]; rw [show IntKind.i64.wrap v' = v' from hw']; exact k1) k2 k3 k4 u3
    obtain ⟨hq1, hq2, hq3⟩ := hq
    have hbxL : bx ≠ H'.next + 8 := by rw [q6]; omega
    refine ⟨⟨[IntKind.i64.wrap v'], [], at', ⟨re'.elem, re'.whole, true, putL re'.cs oe [v2]⟩, D2, Fs, putL rx.cs o [.int .i64 v'], by rw [List.append_nil]; exact hq1, ?_, ?_, putL_length hlo, ?_, rfl, rfl, ?_, q1, q2, ?_, ?_, ?_, ?_⟩, ?_, ?_⟩
    · rw [hq3 bx (by rw [u1.next, hn0, q6]; omega) h1 h2, u1.row, if_neg hbxL, hr0, hx']
    · exact ⟨v', by rw [putL1 hlo, if_pos rfl], hw', rfl, rfl, rfl⟩
    · intro i hi
      rw [putL1 hlo, if_neg (by simpa [Sh.cells] using hi)]
    · intro hmk
      refine ⟨by rw [q5 hmk], rfl, by rw [q5 hmk, putL_same hv], fun _ hj => absurd hj List.not_mem_nil⟩
    · exact (putL_length (show oe + [v2].length ≤ _ from lt_of_get hnv)).trans q3
    · intro i i1 i2 i3; exact ((putL1 (lt_of_get hnv) i).trans (if_neg i1)).trans (q4 i i1 i2 i3)
    · intro j hj
      rcases k4 j hj with hj | ⟨hj, -⟩
      · exact .inl hj
      · refine .inr ?_; rw [u1.next, hn0, q6] at hj; omega
    · exact fun j hj => .inl hj
    · have := hq2; rw [u1.next, hn0, q6] at this; show H.next ≤ H3.next; omega
    · intro j j0 j1 j2 j3 j4 j5
      show H3.row j = _
      rw [hq3 j (by rw [u1.next, hn0, q6]; omega) j1 j2, u1.row, if_neg (by show j ≠ H'.next + 8; rw [q6]; omega), hr0, q7 j j1 j4]
end Go.Eng

namespace Go.Eng
open Go Go.Proofs
theorem ag3_N3 : isAggT E0.P 3 = some false := by kernel_rfl
theorem sz3_N3 : sizeT E0.P 3 = some 1 := by kernel_rfl
theorem fo136_0_N3 : foff E0.P 136 0 = some 0 := by kernel_rfl
theorem ag24_N3 : isAggT E0.P 24 = some false := by kernel_rfl
theorem un24_N3 : E0.P.underlying 24 = some (.slice 3) := by kernel_rfl
theorem fo136_1_N3 : foff E0.P 136 1 = some 1 := by kernel_rfl
theorem ag134_N3 : isAggT E0.P 134 = some false := by kernel_rfl
theorem un134_N3 : E0.P.underlying 134 = some (.slice 9) := by kernel_rfl
theorem sz9_N3 : sizeT E0.P 9 = some 1 := by kernel_rfl
theorem ag9_N3 : isAggT E0.P 9 = some false := by kernel_rfl
theorem un9_N3 : E0.P.underlying 9 = some TypeDesc.string := by kernel_rfl
theorem eye_same (tS : Nat) (H : AHeap) (ns : List Int) (ss : List ByteArray) (nv sv nv' sv' : Value) (mk mk' rm rm' : Bool) (a0 a0' : Int) (Fn Fs Fn' Fs' : List Nat) (h1 : Lst H 3 1 nv (ns.map (Value.int .i64)) Fn) (h2 : Lst H tS 1 sv (ss.map Value.string) Fs) (h3 : Lst H 3 1 nv' (ns.map (Value.int .i64)) Fn') (h4 : Lst H tS 1 sv' (ss.map Value.string) Fs')
    (l1 : ∀ j ∈ Fn, j < H.next) (l2 : ∀ j ∈ Fs, j < H.next) (l3 : ∀ j ∈ Fn', j < H.next) (l4 : ∀ j ∈ Fs', j < H.next) (b1 : ns.length ≤ 1000000000) (b2 : ss.length ≤ 1000000000) :
    WF E0 84 [.agg #[nv, sv, .bool mk, .int .i64 a0, .bool rm], .agg #[nv', sv', .bool mk', .int .i64 a0', .bool rm']] H fun q => q.1 = .bool true ∧ H.next ≤ q.2.next ∧ ∀ j, j < H.next → q.2.row j = H.row j := by
  obtain ⟨a, rfl, r1⟩ := h1.sl
  obtain ⟨b, rfl, r2⟩ := h2.sl
  obtain ⟨c, rfl, r3⟩ := h3.sl
  obtain ⟨d, rfl, r4⟩ := h4.sl
  simp only [List.length_map] at *
  refine WF.k Tryz.func84 rfl rfl ?_
  refine KC.seq (KC.region ?_)
  refine KO.box (rfl) (rfl) rfl rfl fun G1 n1 => ?_
  refine KO.box (rfl) (rfl) rfl rfl fun G n2 => ?_
  refine KO.pv (PV.assign rfl) rfl rfl ?_
  refine KO.nil ?_
  have x1 : G.row H.next = some ⟨136, true, true, [.slice a ns.length ns.length, .slice b ss.length ss.length, .bool mk, .int .i64 a0, .bool rm]⟩ := by rw [n2.row, if_neg (by rw [n1.next]; omega), n1.row, if_pos rfl]; rfl
  have x2 : G.row G1.next = some ⟨136, true, true, [.slice c ns.length ns.length, .slice d ss.length ss.length, .bool mk', .int .i64 a0', .bool rm']⟩ := by rw [n2.row, if_pos rfl]; rfl
  have hk : ∀ j, j < H.next → G.row j = H.row j := fun j hj => by rw [n2.row, if_neg (by rw [n1.next]; omega), n1.row, if_neg (by omega)]
  have hx : G.next = H.next + 2 := by rw [n2.next, n1.next]
  have done : H.next ≤ G.next ∧ ∀ j, j < H.next → G.row j = H.row j := ⟨by omega, hk⟩
  have hp' : G1.next = H.next + 1 := n1.next
  generalize H.next = p at *
  generalize G1.next = p' at *
  refine KC.seq (KC.seq (KC.region ?_))
  refine KO.pv (PV.fieldAddr fo136_0_N3 rfl) rfl rfl ?_
  refine KO.load1 ag24_N3 rfl (x1) (rfl) rfl rfl ?_
  refine KO.pv (PV.len un24_N3 rfl) rfl rfl ?_
  refine KO.pv (PV.fieldAddr fo136_0_N3 rfl) rfl rfl ?_
  refine KO.load1 ag24_N3 rfl (x2) (rfl) rfl rfl ?_
  refine KO.pv (PV.len un24_N3 rfl) rfl rfl ?_
  refine KO.pv (PV.neq rfl rfl) rfl rfl ?_
  refine KO.pv (PV.move rfl) rfl rfl ?_
  simp only [beq_self_eq_true, Bool.not_true]
  refine KO.pv (PV.fieldAddr fo136_1_N3 rfl) rfl rfl ?_
  refine KO.load1 ag134_N3 rfl (x1) (rfl) rfl rfl ?_
  refine KO.pv (PV.len un134_N3 rfl) rfl rfl ?_
  refine KO.pv (PV.fieldAddr fo136_1_N3 rfl) rfl rfl ?_
  refine KO.load1 ag134_N3 rfl (x2) (rfl) rfl rfl ?_
  refine KO.pv (PV.len un134_N3 rfl) rfl rfl ?_
  refine KO.pv (PV.neq rfl rfl) rfl rfl ?_
  refine KO.pv (PV.pickF rfl rfl rfl) rfl rfl ?_
  refine KO.nil ?_
  simp only [beq_self_eq_true, Bool.not_true]
  refine KC.cond rfl (fun hb => by cases hb) (fun _ => KC.skip ?_)
  refine KC.seq (KC.seq (KC.region ?_))
  refine KO.pv (PV.assign rfl) rfl rfl ?_
  refine KO.nil ?_
  refine KC.sub (l' := [(2, .pointer (some ⟨p, 0, none⟩)), (3, .pointer (some ⟨p', 0, none⟩)), (5, .int .i64 ((0 : Nat) : Int))]) (.cons rfl (.cons rfl (.cons rfl .nil))) ?_
  refine KC.block (KC.loopN (fun k l Hi => ∃ i : Nat, i + k = ns.length ∧ l = [(2, .pointer (some ⟨p, 0, none⟩)), (3, .pointer (some ⟨p', 0, none⟩)), (5, .int .i64 (i : Int))] ∧ Hi.next ≥ G.next ∧ ∀ j, j < G.next → Hi.row j = G.row j) ?_ ns.length ⟨0, by omega, rfl, Nat.le_refl _, fun _ _ => rfl⟩)
  rintro k l Hi ⟨i, hik, rfl, hg, hgr⟩
  refine KC.seq (KC.seq (KC.region ?_))
  have y1 := (hgr p (by omega)).trans x1
  refine KO.pv (PV.move rfl) rfl rfl ?_
  refine KO.pv (PV.fieldAddr fo136_0_N3 rfl) rfl rfl ?_
  refine KO.load1 ag24_N3 rfl (y1) (rfl) rfl rfl ?_
  refine KO.pv (PV.len un24_N3 rfl) rfl rfl ?_
  refine KO.pv (PV.lss rfl rfl) rfl rfl ?_
  refine KO.nil ?_
  refine KC.cond rfl (fun hb => KC.skip ?_) (fun hb => KC.exit ?_)
  · have hi : i < ns.length := by simpa using hb
    obtain ⟨ba, rfl, ra, da⟩ := r1 (by omega)
    obtain ⟨bc, rfl, rc, dc⟩ := r3 (by omega)
    have y2 := (hgr p' (by omega)).trans x2
    have ba' := l1 ba (by rw [da]; exact List.mem_singleton_self _)
    have bc' := l3 bc (by rw [dc]; exact List.mem_singleton_self _)
    have y3 := ((hgr ba (by omega)).trans (hk ba ba')).trans ra
    have y4 := ((hgr bc (by omega)).trans (hk bc bc')).trans rc
    have yc : (ns.map (Value.int .i64))[0 + i * 1]? = some (.int .i64 (ns[i]'hi)) := by rw [Nat.mul_one, Nat.zero_add, List.getElem?_map, List.getElem?_eq_getElem hi]; rfl
    refine KC.seq (KC.block (KC.seq ?_))
    refine KC.draw (n := 11) (anc := [0, 1, 0, 7, 15, 0, 32, 0, 224, 480, 1023]) (hv := []) (ord := [0, 1, 2, 3, 4, 5, 6, 7, 8, 9, 10]) (by kernel_rfl) (by kernel_rfl) (by kernel_rfl) (by kernel_rfl) (by kernel_rfl) fun H0 hn0 hr0 => ?_
    refine KD.pv 1 (PV.fieldAddr fo136_0_N3 rfl) rfl rfl rfl (by kernel_rfl) rfl rfl rfl ?_
    refine KD.load 3 rfl ((hr0 _ ▸ y1)) (by rw [read1 ag24_N3]; exact (rfl)) (past1 ⟨_, ((hr0 _ ▸ y1)), by rw [read1 ag24_N3]; exact (rfl)⟩) (veq_sl) rfl (by kernel_rfl) rfl rfl rfl ?_
    refine KD.pv 7 (PV.move rfl) rfl rfl rfl (by kernel_rfl) rfl rfl rfl ?_
    refine KD.pv 15 (PV.indexAddr un24_N3 sz3_N3 rfl rfl (hi)) rfl rfl rfl (by kernel_rfl) rfl rfl rfl ?_
    refine KD.load 31 rfl ((hr0 _ ▸ y3)) (by rw [read1 ag3_N3]; exact (yc)) (past1 ⟨_, ((hr0 _ ▸ y3)), by rw [read1 ag3_N3]; exact (yc)⟩) (veq_int) rfl (by kernel_rfl) rfl rfl rfl ?_
    refine KD.pv 63 (PV.fieldAddr fo136_0_N3 rfl) rfl rfl rfl (by kernel_rfl) rfl rfl rfl ?_
    refine KD.load 127 rfl ((hr0 _ ▸ y2)) (by rw [read1 ag24_N3]; exact (rfl)) (past1 ⟨_, ((hr0 _ ▸ y2)), by rw [read1 ag24_N3]; exact (rfl)⟩) (veq_sl) rfl (by kernel_rfl) rfl rfl rfl ?_
    refine KD.pv 255 (PV.move rfl) rfl rfl rfl (by kernel_rfl) rfl rfl rfl ?_
    refine KD.pv 511 (PV.indexAddr un24_N3 sz3_N3 rfl rfl (hi)) rfl rfl rfl (by kernel_rfl) rfl rfl rfl ?_
    refine KD.load 1023 rfl ((hr0 _ ▸ y4)) (by rw [read1 ag3_N3]; exact (yc)) (past1 ⟨_, ((hr0 _ ▸ y4)), by rw [read1 ag3_N3]; exact (yc)⟩) (veq_int) rfl (by kernel_rfl) rfl rfl rfl ?_
    refine KD.pv 2047 (PV.neq rfl rfl) rfl rfl rfl (by kernel_rfl) rfl rfl rfl ?_
    refine KD.nil ⟨rfl, ?_⟩
    simp only [beq_self_eq_true, Bool.not_true]
    refine KC.cond rfl (fun hb => by cases hb) (fun _ => KC.skip ?_)
    refine KC.region ?_
    refine KO.pv (PV.move rfl) rfl rfl ?_
    refine KO.pv (PV.add rfl rfl ((show _ = ((i + 1 : Nat) : Int) from wrap64 (by omega) (by omega)))) rfl rfl ?_
    refine KO.pv (PV.assign rfl) rfl rfl ?_
    refine KO.nil ?_
    exact ⟨k - 1, _, by omega, .cons rfl (.cons rfl (.cons rfl .nil)), i + 1, by omega, rfl, by omega, fun j hj => (hr0 j).trans (hgr j hj)⟩
  refine KC.seq (KC.seq (KC.region ?_))
  have done : p ≤ Hi.next ∧ ∀ j, j < p → Hi.row j = H.row j := ⟨by omega, fun j hj => (hgr j (by omega)).trans (hk j hj)⟩
  have x1 := y1
  have x2 := (hgr p' (by omega)).trans x2
  have hk2 : ∀ j, j < p → Hi.row j = H.row j := done.2
  clear y1 hb
  refine KO.pv (PV.assign rfl) rfl rfl ?_
  refine KO.nil ?_
  refine KC.sub (l' := [(2, .pointer (some ⟨p, 0, none⟩)), (3, .pointer (some ⟨p', 0, none⟩)), (6, .int .i64 ((0 : Nat) : Int))]) (.cons rfl (.cons rfl (.cons rfl .nil))) ?_
  refine KC.block (KC.loopN (fun k l Hj => ∃ i : Nat, i + k = ss.length ∧ l = [(2, .pointer (some ⟨p, 0, none⟩)), (3, .pointer (some ⟨p', 0, none⟩)), (6, .int .i64 (i : Int))] ∧ Hj.next ≥ Hi.next ∧ ∀ j, j < Hi.next → Hj.row j = Hi.row j) ?_ ss.length ⟨0, by omega, rfl, Nat.le_refl _, fun _ _ => rfl⟩)
  rintro k l Hj ⟨i, hik, rfl, hg2, hgr2⟩
  refine KC.seq (KC.seq (KC.region ?_))
  have y1 := (hgr2 p (by omega)).trans x1
  refine KO.pv (PV.move rfl) rfl rfl ?_
  refine KO.pv (PV.fieldAddr fo136_1_N3 rfl) rfl rfl ?_
  refine KO.load1 ag134_N3 rfl (y1) (rfl) rfl rfl ?_
  refine KO.pv (PV.len un134_N3 rfl) rfl rfl ?_
  refine KO.pv (PV.lss rfl rfl) rfl rfl ?_
  refine KO.nil ?_
  refine KC.cond rfl (fun hb => KC.skip ?_) (fun hb => KC.exit ?_)
  · have hi : i < ss.length := by simpa using hb
    obtain ⟨ba, rfl, ra, da⟩ := r2 (by omega)
    obtain ⟨bc, rfl, rc, dc⟩ := r4 (by omega)
    have y2 := (hgr2 p' (by omega)).trans x2
    have ba' := l2 ba (by rw [da]; exact List.mem_singleton_self _)
    have bc' := l4 bc (by rw [dc]; exact List.mem_singleton_self _)
    have y3 := ((hgr2 ba (by omega)).trans (hk2 ba ba')).trans ra
    have y4 := ((hgr2 bc (by omega)).trans (hk2 bc bc')).trans rc
    have yc : (ss.map Value.string)[0 + i * 1]? = some (.string (ss[i]'hi)) := by rw [Nat.mul_one, Nat.zero_add, List.getElem?_map, List.getElem?_eq_getElem hi]; rfl
    refine KC.seq (KC.block (KC.seq ?_))
    refine KC.draw (n := 11) (anc := [0, 1, 0, 7, 15, 0, 32, 0, 224, 480, 1023]) (hv := []) (ord := [0, 1, 2, 3, 4, 5, 6, 7, 8, 9, 10]) (by kernel_rfl) (by kernel_rfl) (by kernel_rfl) (by kernel_rfl) (by kernel_rfl) fun H0 hn0 hr0 => ?_
    refine KD.pv 1 (PV.fieldAddr fo136_1_N3 rfl) rfl rfl rfl (by kernel_rfl) rfl rfl rfl ?_
    refine KD.load 3 rfl ((hr0 _ ▸ y1)) (by rw [read1 ag134_N3]; exact (rfl)) (past1 ⟨_, ((hr0 _ ▸ y1)), by rw [read1 ag134_N3]; exact (rfl)⟩) (veq_sl) rfl (by kernel_rfl) rfl rfl rfl ?_
    refine KD.pv 7 (PV.move rfl) rfl rfl rfl (by kernel_rfl) rfl rfl rfl ?_
    refine KD.pv 15 (PV.indexAddr un134_N3 sz9_N3 rfl rfl (hi)) rfl rfl rfl (by kernel_rfl) rfl rfl rfl ?_
    refine KD.load 31 rfl ((hr0 _ ▸ y3)) (by rw [read1 ag9_N3]; exact (yc)) (past1 ⟨_, ((hr0 _ ▸ y3)), by rw [read1 ag9_N3]; exact (yc)⟩) (veq_str) rfl (by kernel_rfl) rfl rfl rfl ?_
    refine KD.pv 63 (PV.fieldAddr fo136_1_N3 rfl) rfl rfl rfl (by kernel_rfl) rfl rfl rfl ?_
    refine KD.load 127 rfl ((hr0 _ ▸ y2)) (by rw [read1 ag134_N3]; exact (rfl)) (past1 ⟨_, ((hr0 _ ▸ y2)), by rw [read1 ag134_N3]; exact (rfl)⟩) (veq_sl) rfl (by kernel_rfl) rfl rfl rfl ?_
    refine KD.pv 255 (PV.move rfl) rfl rfl rfl (by kernel_rfl) rfl rfl rfl ?_
    refine KD.pv 511 (PV.indexAddr un134_N3 sz9_N3 rfl rfl (hi)) rfl rfl rfl (by kernel_rfl) rfl rfl rfl ?_
    refine KD.load 1023 rfl ((hr0 _ ▸ y4)) (by rw [read1 ag9_N3]; exact (yc)) (past1 ⟨_, ((hr0 _ ▸ y4)), by rw [read1 ag9_N3]; exact (yc)⟩) (veq_str) rfl (by kernel_rfl) rfl rfl rfl ?_
    refine KD.pv 2047 (PV.sneq rfl rfl) rfl rfl rfl (by kernel_rfl) rfl rfl rfl ?_
    refine KD.nil ⟨rfl, ?_⟩
    simp only [streq_self, Bool.not_true]
    refine KC.cond rfl (fun hb => by cases hb) (fun _ => KC.skip ?_)
    refine KC.region ?_
    refine KO.pv (PV.move rfl) rfl rfl ?_
    refine KO.pv (PV.add rfl rfl ((show _ = ((i + 1 : Nat) : Int) from wrap64 (by omega) (by omega)))) rfl rfl ?_
    refine KO.pv (PV.assign rfl) rfl rfl ?_
    refine KO.nil ?_
    exact ⟨k - 1, _, by omega, .cons rfl (.cons rfl (.cons rfl .nil)), i + 1, by omega, rfl, by omega, fun j hj => (hr0 j).trans (hgr2 j hj)⟩
  refine KC.seq (KC.region ?_)
  refine KO.pv (PV.assign rfl) rfl rfl ?_
  refine KO.nil ?_
  exact KC.ret ⟨rfl, _, rfl, rfl, by show p ≤ Hj.next; omega, fun j hj => (hgr2 j (by omega)).trans (hk2 j hj)⟩
theorem eye_great (tS : Nat) (H : AHeap) (ns : List Int) (ss : List ByteArray) (nv sv : Value) (mk rm : Bool) (a0 : Int) (Fn Fs : List Nat) (h1 : Lst H 3 1 nv (ns.map (Value.int .i64)) Fn) (h2 : Lst H tS 1 sv (ss.map Value.string) Fs)
    (l2 : ∀ j ∈ Fs, j < H.next) (b2 : ss.length ≤ 1000000000) :
    WF E0 82 [.agg #[nv, sv, .bool mk, .int .i64 a0, .bool rm]] H fun q => (∃ b, q.1 = .bool b ∧ (b = false → ns.length ≤ 3000)) ∧ H.next ≤ q.2.next ∧ ∀ j, j < H.next → q.2.row j = H.row j := by
  obtain ⟨a, rfl, r1⟩ := h1.sl
  obtain ⟨b, rfl, r2⟩ := h2.sl
  simp only [List.length_map] at *
  refine WF.k Tryz.func82 rfl rfl ?_
  refine KC.seq (KC.region ?_)
  refine KO.box (rfl) (rfl) rfl rfl fun G n1 => ?_
  refine KO.pv (PV.assign rfl) rfl rfl ?_
  refine KO.nil ?_
  have x1 : G.row H.next = some ⟨136, true, true, [.slice a ns.length ns.length, .slice b ss.length ss.length, .bool mk, .int .i64 a0, .bool rm]⟩ := by rw [n1.row, if_pos rfl]; rfl
  have hk : ∀ j, j < H.next → G.row j = H.row j := fun j hj => by rw [n1.row, if_neg (by omega)]
  have hx : G.next = H.next + 1 := n1.next
  generalize H.next = p at *
  refine KC.seq (KC.region ?_)
  refine KO.pv (PV.assign rfl) rfl rfl ?_
  refine KO.nil ?_
  refine KC.seq (KC.seq (KC.region ?_))
  refine KO.pv (PV.assign rfl) rfl rfl ?_
  refine KO.nil ?_
  refine KC.sub (l' := [(1, .pointer (some ⟨p, 0, none⟩)), (3, .int .i64 0), (4, .int .i64 ((0 : Nat) : Int))]) (.cons rfl (.cons rfl (.cons rfl .nil))) ?_
  refine KC.block (KC.loopN (fun k l Hi => ∃ (i : Nat) (z : Int), i + k = ss.length ∧ l = [(1, .pointer (some ⟨p, 0, none⟩)), (3, .int .i64 z), (4, .int .i64 (i : Int))] ∧ Hi = G) ?_ ss.length ⟨0, 0, by omega, rfl, rfl⟩)
  rintro k l Hi ⟨i, z, hik, rfl, rfl⟩
  refine KC.seq (KC.seq (KC.region ?_))
  refine KO.pv (PV.move rfl) rfl rfl ?_
  refine KO.pv (PV.fieldAddr fo136_1_N3 rfl) rfl rfl ?_
  refine KO.load1 ag134_N3 rfl (x1) (rfl) rfl rfl ?_
  refine KO.pv (PV.len un134_N3 rfl) rfl rfl ?_
  refine KO.pv (PV.lss rfl rfl) rfl rfl ?_
  refine KO.nil ?_
  refine KC.cond rfl (fun hb => KC.skip ?_) (fun hb => KC.exit ?_)
  · have hi : i < ss.length := by simpa using hb
    obtain ⟨ba, rfl, ra, da⟩ := r2 (by omega)
    have ba' := l2 ba (by rw [da]; exact List.mem_singleton_self _)
    have y3 := (hk ba ba').trans ra
    have yc : (ss.map Value.string)[0 + i * 1]? = some (.string (ss[i]'hi)) := by rw [Nat.mul_one, Nat.zero_add, List.getElem?_map, List.getElem?_eq_getElem hi]; rfl
    refine KC.seq (KC.block (KC.seq (KC.region ?_)))
    refine KO.pv (PV.move rfl) rfl rfl ?_
    refine KO.pv (PV.fieldAddr fo136_1_N3 rfl) rfl rfl ?_
    refine KO.load1 ag134_N3 rfl (x1) (rfl) rfl rfl ?_
    refine KO.pv (PV.move rfl) rfl rfl ?_
    refine KO.pv (PV.indexAddr un134_N3 sz9_N3 rfl rfl (hi)) rfl rfl ?_
    refine KO.load1 ag9_N3 rfl (y3) (yc) rfl rfl ?_
    refine KO.pv (PV.lenS un9_N3 rfl) rfl rfl ?_
    refine KO.pv (PV.min rfl rfl) rfl rfl ?_
    refine KO.pv (PV.add rfl rfl (rfl)) rfl rfl ?_
    refine KO.pv (PV.assign rfl) rfl rfl ?_
    refine KO.nil ?_
    refine KC.seq (KC.region ?_)
    refine KO.pv (PV.move rfl) rfl rfl ?_
    refine KO.pv (PV.gtr rfl rfl) rfl rfl ?_
    refine KO.nil ?_
    refine KC.cond rfl (fun hb => ?_) (fun hb => KC.skip ?_)
    · refine KC.seq (KC.region ?_)
      refine KO.pv (PV.assign rfl) rfl rfl ?_
      refine KO.nil ?_
      exact KC.ret ⟨rfl, _, rfl, ⟨_, rfl, fun h => by cases h⟩, by show p ≤ Hi.next; omega, hk⟩
    refine KC.region ?_
    refine KO.pv (PV.move rfl) rfl rfl ?_
    refine KO.pv (PV.add rfl rfl ((show _ = ((i + 1 : Nat) : Int) from wrap64 (by omega) (by omega)))) rfl rfl ?_
    refine KO.pv (PV.assign rfl) rfl rfl ?_
    refine KO.nil ?_
    exact ⟨k - 1, _, by omega, .cons rfl (.cons rfl (.cons rfl .nil)), i + 1, _, by omega, rfl, rfl⟩
  refine KC.seq (KC.region ?_)
  refine KO.pv (PV.fieldAddr fo136_0_N3 rfl) rfl rfl ?_
  refine KO.load1 ag24_N3 rfl (x1) (rfl) rfl rfl ?_
  refine KO.pv (PV.len un24_N3 rfl) rfl rfl ?_
  refine KO.pv (PV.gtr rfl rfl) rfl rfl ?_
  refine KO.pv (PV.assign rfl) rfl rfl ?_
  refine KO.nil ?_
  exact KC.ret ⟨rfl, _, rfl, ⟨_, rfl, fun h => by have := of_decide_eq_false h; omega⟩, by show p ≤ Hi.next; omega, hk⟩
end Go.Eng

namespace Go.Eng
open Go Go.Proofs
theorem un33_N4 : E0.P.underlying 33 = some (.slice 47) := by kernel_rfl
theorem el137_N4 : elemT E0.P 137 = some 136 := by kernel_rfl
theorem ez136_N4 : elemZ E0.P 136 = some (5, [.slice none 0 0, .slice none 0 0, .bool false, .int .i64 0, .bool false]) := by kernel_rfl
theorem sb136_N4 : smallBytes E0.P 136 = true := by kernel_rfl
theorem sz47_N4 : sizeT E0.P 47 = some 1 := by kernel_rfl
theorem ag47_N4 : isAggT E0.P 47 = some false := by kernel_rfl
theorem un137_N4 : E0.P.underlying 137 = some (.slice 136) := by kernel_rfl
theorem sz136_N4 : sizeT E0.P 136 = some 5 := by kernel_rfl
theorem ag136_N4 : isAggT E0.P 136 = some true := by kernel_rfl
theorem look_ok (tS : Nat) (H : AHeap) (lv : Value) (L : List R1) (lo hi : Nat) (hv : ResV H 47 lv L lo hi) (hr : ResAll E0 3 tS H lo hi L) (hhi : hi ≤ H.next) :
    WF E0 83 [lv] H fun q => ∃ b, Told 3 tS 136 q.2 H.next q.1 L b ∧ H.next ≤ q.2.next ∧ ∀ j, j < H.next → q.2.row j = H.row j := by
  have hlv : ∃ a, lv = .slice a L.length L.length ∧ (0 < L.length → ∃ b, a = some ⟨b, 0, none⟩ ∧ H.row b = some ⟨47, true, true, L.map (·.v)⟩ ∧ b < H.next) := by
    rcases hv with ⟨rfl, rfl⟩ | ⟨b, rfl, h1, h2, h3, h4⟩
    · exact ⟨none, rfl, fun h => absurd h (Nat.lt_irrefl _)⟩
    · exact ⟨_, rfl, fun _ => ⟨b, rfl, h1, Nat.lt_of_lt_of_le h3 hhi⟩⟩
  obtain ⟨a, rfl, ha⟩ := hlv
  have few := hr.few
  refine WF.k Tryz.func83 rfl rfl ?_
  refine KC.seq (KC.region ?_)
  refine KO.pv (PV.assign rfl) rfl rfl ?_
  refine KO.nil ?_
  refine KC.seq (KC.region ?_)
  refine KO.pv (PV.move rfl) rfl rfl ?_
  refine KO.pv (PV.len un33_N4 rfl) rfl rfl ?_
  refine KO.makeSlice el137_N4 ez136_N4 sb136_N4 rfl rfl ((Nat.le_refl _)) ((by omega)) rfl rfl fun G n1 => ?_
  refine KO.pv (PV.assign rfl) rfl rfl ?_
  refine KO.nil ?_
  have hz : ∀ k, k < L.length → ∀ c, c < 5 → (zerosFor [.slice none 0 0, .slice none 0 0, .bool false, .int .i64 0, .bool false] L.length)[k * 5 + c]? = ([.slice none 0 0, .slice none 0 0, .bool false, .int .i64 0, .bool false] : List Value)[c]? := fun k hk c hc => zerosFor_get (z := [.slice none 0 0, .slice none 0 0, .bool false, .int .i64 0, .bool false]) hk hc
  have hb0 : G.row H.next = some ⟨136, true, true, zerosFor [.slice none 0 0, .slice none 0 0, .bool false, .int .i64 0, .bool false] L.length⟩ := by rw [n1.row, if_pos rfl]
  have hk : ∀ j, j < H.next → G.row j = H.row j := fun j hj => by rw [n1.row, if_neg (by omega)]
  have hx : G.next = H.next + 1 := n1.next
  refine KC.seq (KC.seq (KC.region ?_))
  refine KO.pv (PV.assign rfl) rfl rfl ?_
  refine KO.nil ?_
  refine KC.sub (l' := [(0, .slice a L.length L.length), (3, .slice (some ⟨H.next, 0, none⟩) L.length L.length), (4, .int .i64 ((0 : Nat) : Int))]) (.cons rfl (.cons rfl (.cons rfl .nil))) ?_
  refine KC.block (KC.loopN (fun k l Hi => ∃ i : Nat, i + k = L.length ∧ l = [(0, .slice a L.length L.length), (3, .slice (some ⟨H.next, 0, none⟩) L.length L.length), (4, .int .i64 (i : Int))] ∧ H.next + 1 ≤ Hi.next ∧ (∀ j, j < H.next → Hi.row j = H.row j) ∧
    ∃ cs, Hi.row H.next = some ⟨136, true, true, cs⟩ ∧ (∀ k r, k < i → L[k]? = some r → EyeV 3 tS Hi (H.next + 1) Hi.next cs (k * 5) r.ns r.ss) ∧
      ∀ k, i ≤ k → k < L.length → ∀ c, c < 5 → cs[k * 5 + c]? = ([.slice none 0 0, .slice none 0 0, .bool false, .int .i64 0, .bool false] : List Value)[c]?) ?_ L.length
    ⟨0, by omega, rfl, by omega, hk, _, hb0, fun _ _ h => absurd h (Nat.not_lt_zero _), fun k _ hk c hc => hz k hk c hc⟩)
  rintro k l Hi ⟨i, hik, rfl, hnx, hkp, cs, hrow, hold, hzero⟩
  refine KC.seq (KC.seq (KC.region ?_))
  refine KO.pv (PV.move rfl) rfl rfl ?_
  refine KO.pv (PV.move rfl) rfl rfl ?_
  refine KO.pv (PV.len un33_N4 rfl) rfl rfl ?_
  refine KO.pv (PV.lss rfl rfl) rfl rfl ?_
  refine KO.nil ?_
  refine KC.cond rfl (fun hb => KC.skip ?_) (fun hb => KC.exit ?_)
  · have hi : i < L.length := by simpa using hb
    obtain ⟨bl, rfl, hbl, hbl2⟩ := ha (by omega)
    obtain ⟨f, s, ba, D', hfv, hfx, hfs, hown, hDe⟩ := (hr.one _ (List.getElem_mem hi)).ex
    have hrl1 := (hr.one _ (List.getElem_mem hi)).l1
    have hrl2 := (hr.one _ (List.getElem_mem hi)).l2
    generalize hLi : L[i] = ri at *
    have hLi' : L[i]? = some ri := by rw [List.getElem?_eq_getElem hi, hLi]
    have hc : (L.map (·.v))[0 + i * 1]? = some ri.v := by rw [Nat.mul_one, Nat.zero_add, List.getElem?_map, hLi']; rfl
    rw [hfv] at hc
    have hvv : veq 100 (.func (.func f) #[] #[.pointer (some ⟨ba, 0, none⟩)]) (.func (.func f) #[] #[.pointer (some ⟨ba, 0, none⟩)]) = true := by simp [veq, vFunc, fnBeq, fnFunc, veq.veqs, vPtr, optAddrBeq, addrBeq_self]
    have hown' : Own Hi ⟨false, true, false⟩ s ba ri.ns ri.ss D' := hown.frame (by omega) (fun j hj => hkp j (by rcases hj with rfl | hj; exact hown.lb; exact hown.lD j hj))
    obtain ⟨rx, hxr, hxw, hxR⟩ := hown'.ex
    refine KC.seq (KC.block ?_)
    refine KC.draw (n := 8) (anc := [0, 0, 3, 7, 0, 0, 48, 127]) (hv := [7]) (ord := [0, 1, 2, 3, 4, 5, 6, 7]) (by kernel_rfl) (by kernel_rfl) (by kernel_rfl) (by kernel_rfl) (by kernel_rfl) fun H0 hn0 hr0 => ?_
    refine KD.pv 1 (PV.move rfl) rfl rfl rfl (by kernel_rfl) rfl rfl rfl ?_
    refine KD.pv 3 (PV.move rfl) rfl rfl rfl (by kernel_rfl) rfl rfl rfl ?_
    refine KD.pv 7 (PV.indexAddr un33_N4 sz47_N4 rfl rfl (hi)) rfl rfl rfl (by kernel_rfl) rfl rfl rfl ?_
    refine KD.load 15 rfl ((hr0 _ ▸ (hkp bl hbl2).trans hbl)) (by rw [read1 ag47_N4]; exact (hc)) (past1 ⟨_, ((hr0 _ ▸ (hkp bl hbl2).trans hbl)), by rw [read1 ag47_N4]; exact (hc)⟩) (hvv) rfl (by kernel_rfl) rfl rfl rfl ?_
    refine KD.pv 31 (PV.move rfl) rfl rfl rfl (by kernel_rfl) rfl rfl rfl ?_
    refine KD.pv 63 (PV.move rfl) rfl rfl rfl (by kernel_rfl) rfl rfl rfl ?_
    refine KD.pv 127 (PV.indexAddr un137_N4 sz136_N4 rfl rfl (hi)) rfl rfl rfl (by kernel_rfl) rfl rfl rfl ?_
    have he0 : Eye 3 tS H0 H.next (0 + i * 5) [] [] false false 0 ⟨136, true, true, cs⟩ [] [] := Eye.ofCells (r := ⟨136, true, true, cs⟩) (hr0 _ ▸ hrow) rfl (by rw [Nat.zero_add]; exact hzero i (Nat.le_refl _) hi 0 (by omega)) (by rw [Nat.zero_add]; exact hzero i (Nat.le_refl _) hi 1 (by omega)) (by rw [Nat.zero_add]; exact hzero i (Nat.le_refl _) hi 2 (by omega)) (by rw [Nat.zero_add]; exact hzero i (Nat.le_refl _) hi 3 (by omega)) (by rw [Nat.zero_add]; exact hzero i (Nat.le_refl _) hi 4 (by omega)) (by omega)
    have hw0 := hfs.read (room := ⟨false, true, false⟩) he0 (hr0 ba ▸ hxr) (fun _ => .inl hxw) (fun _ => rfl) (hxR.frame fun j _ => hr0 j) (by have := hown.lb; omega) (fun j hj => by have := hown.lD j hj; omega) (by have := hown.lb; omega) (fun hj => by have := hown.lD _ hj; omega) hrl1 hrl2
    refine KD.callV 255 rfl (rfl) (hfx) rfl (by kernel_rfl) rfl rfl rfl hw0 fun v1 H1 hq => ?_
    refine KD.nil ⟨rfl, ?_⟩
    dsimp only at hq
    obtain ⟨a', re', Fn, Fs, he', hF1, hF2, hER, hn1, hk1⟩ := hq
    rw [hn0] at hn1 hF1 hF2
    refine KC.region ?_
    refine KO.pv (PV.move rfl) rfl rfl ?_
    refine KO.pv (PV.add rfl rfl ((show _ = ((i + 1 : Nat) : Int) from wrap64 (by omega) (by omega)))) rfl rfl ?_
    refine KO.pv (PV.assign rfl) rfl rfl ?_
    refine KO.nil ?_
    have hre' : re' = ⟨136, true, true, re'.cs⟩ := by
      obtain ⟨e1, e2, -⟩ := hER
      obtain ⟨e, w, rw', c⟩ := re'
      have := he'.rw
      simp_all
    refine ⟨k - 1, _, by omega, .cons rfl (.cons rfl (.cons rfl .nil)), i + 1, by omega, rfl, by show H.next + 1 ≤ H1.next; omega, fun j hj => by rw [hk1 j (by omega) (by omega), hr0, hkp j hj], re'.cs, by rw [← hre']; exact he'.row, ?_, ?_⟩
    · intro k r hk hkr
      by_cases hki : k = i
      · subst hki
        rw [hLi'] at hkr
        cases hkr
        have := he'.toV (lo := H.next + 1) (hi := H1.next) (fun j hj => by have := hF1 j hj; omega) (fun j hj => by have := hF2 j hj; omega) (Nat.le_refl _)
        rw [Nat.zero_add] at this
        exact this
      · refine (hold k r (by omega) hkr).frame (by omega) (fun j j1 j2 => by rw [hk1 j (by omega) (by omega), hr0]) (fun c hc => hER.2.2.2 _ (by omega) (by omega) (by omega))
    · intro k hk1' hk2 c hc
      rw [← hzero k (by omega) hk2 c hc]
      exact hER.2.2.2 _ (by omega) (by omega) (by omega)
  refine KC.seq (KC.region ?_)
  refine KO.pv (PV.move rfl) rfl rfl ?_
  refine KO.pv (PV.assign rfl) rfl rfl ?_
  refine KO.nil ?_
  refine KC.ret ⟨rfl, _, rfl, H.next, ⟨rfl, Nat.le_refl _, by show H.next < Hi.next; omega, cs, hrow, fun j r hj => ?_⟩, by show H.next ≤ Hi.next; omega, hkp⟩
  have hil : i = L.length := by
    have : ¬ (i : Int) < (L.length : Int) := by simpa using hb
    omega
  exact (hold j r (by have := (List.getElem?_eq_some_iff.1 hj).1; omega) hj).weak (by omega) (Nat.le_refl _)
theorem alike_ok (tS : Nat) (H : AHeap) (L L2 : List R1) (va vb : Value) (ba bb lo1 lo2 : Nat) (but : Int) (hA : Told 3 tS 136 H lo1 va L ba) (hB : Told 3 tS 136 H lo2 vb L2 bb) (hlen : L2.length = L.length) (few : L.length ≤ 100)
    (heq : ∀ (i : Nat) (r q : R1), (i : Int) ≠ but → L[i]? = some r → L2[i]? = some q → q.ns = r.ns ∧ q.ss = r.ss) (hbd : ∀ r ∈ L, r.ns.length ≤ 1000000000 ∧ r.ss.length ≤ 1000000000) :
    WF E0 85 [va, vb, .int .i64 but] H fun q => q.1 = .bool true ∧ H.next ≤ q.2.next ∧ ∀ j, j < H.next → q.2.row j = H.row j := by
  have hAv := hA.hv
  have hBv := hB.hv
  subst hAv; subst hBv
  rw [hlen]
  obtain ⟨ca, ra, ea⟩ := hA.ex
  obtain ⟨cb, rb, eb⟩ := hB.ex
  have la := hA.hhi
  have lb := hB.hhi
  refine WF.k Tryz.func85 rfl rfl ?_
  refine KC.seq (KC.region ?_)
  refine KO.pv (PV.assign rfl) rfl rfl ?_
  refine KO.nil ?_
  refine KC.seq (KC.seq (KC.region ?_))
  refine KO.pv (PV.assign rfl) rfl rfl ?_
  refine KO.nil ?_
  refine KC.sub (l' := [(0, .slice (some ⟨ba, 0, none⟩) L.length L.length), (1, .slice (some ⟨bb, 0, none⟩) L.length L.length), (2, .int .i64 but), (7, .int .i64 ((0 : Nat) : Int))]) (.cons rfl (.cons rfl (.cons rfl (.cons rfl .nil)))) ?_
  refine KC.block (KC.loopN (fun k l Hi => ∃ i : Nat, i + k = L.length ∧ l = [(0, .slice (some ⟨ba, 0, none⟩) L.length L.length), (1, .slice (some ⟨bb, 0, none⟩) L.length L.length), (2, .int .i64 but), (7, .int .i64 (i : Int))] ∧ H.next ≤ Hi.next ∧ ∀ j, j < H.next → Hi.row j = H.row j) ?_ L.length
    ⟨0, by omega, rfl, Nat.le_refl _, fun _ _ => rfl⟩)
  rintro k l Hi ⟨i, hik, rfl, hnx, hkp⟩
  refine KC.seq (KC.seq (KC.region ?_))
  refine KO.pv (PV.move rfl) rfl rfl ?_
  refine KO.pv (PV.move rfl) rfl rfl ?_
  refine KO.pv (PV.len un137_N4 rfl) rfl rfl ?_
  refine KO.pv (PV.lss rfl rfl) rfl rfl ?_
  refine KO.nil ?_
  refine KC.cond rfl (fun hb => KC.skip ?_) (fun hb => KC.exit ?_)
  · have hi : i < L.length := by simpa using hb
    have hi2 : i < L2.length := by omega
    refine KC.seq (KC.block (KC.seq ?_))
    by_cases hib : (i : Int) = but
    · have hneq : (!((i : Int) == but)) = false := by simp [hib]
      refine KC.draw (n := 15) (anc := [0, 0, 3, 7, 15, 15, 63, 127, 15, 15, 783, 1807, 4095, 8191, 16383]) (hv := [12]) (ord := [0, 1, 2, 3, 4, 5, 6, 7, 8, 9, 10, 11, 12, 13, 14]) (by kernel_rfl) (by kernel_rfl) (by kernel_rfl) (by kernel_rfl) (by kernel_rfl) fun H0 hn0 hr0 => ?_
      refine KD.pv 1 (PV.move rfl) rfl rfl rfl (by kernel_rfl) rfl rfl rfl ?_
      refine KD.pv 3 (PV.move rfl) rfl rfl rfl (by kernel_rfl) rfl rfl rfl ?_
      refine KD.pv 7 (PV.neq rfl rfl) rfl rfl rfl (by kernel_rfl) rfl rfl rfl ?_
      rw [hneq]
      refine KD.pv 15 (PV.move rfl) rfl rfl rfl (by kernel_rfl) rfl rfl rfl ?_
      refine KD.skip 31 rfl rfl rfl (by kernel_rfl) rfl rfl rfl ?_
      refine KD.skip 63 rfl rfl rfl (by kernel_rfl) rfl rfl rfl ?_
      refine KD.skip 127 rfl rfl rfl (by kernel_rfl) rfl rfl rfl ?_
      refine KD.skip 255 rfl rfl rfl (by kernel_rfl) rfl rfl rfl ?_
      refine KD.skip 511 rfl rfl rfl (by kernel_rfl) rfl rfl rfl ?_
      refine KD.skip 1023 rfl rfl rfl (by kernel_rfl) rfl rfl rfl ?_
      refine KD.skip 2047 rfl rfl rfl (by kernel_rfl) rfl rfl rfl ?_
      refine KD.skip 4095 rfl rfl rfl (by kernel_rfl) rfl rfl rfl ?_
      refine KD.skipH 8191 rfl rfl rfl (by kernel_rfl) rfl rfl rfl ?_
      refine KD.skip 16383 rfl rfl rfl (by kernel_rfl) rfl rfl rfl ?_
      refine KD.pv 32767 (PV.pickF rfl rfl rfl) rfl rfl rfl (by kernel_rfl) rfl rfl rfl ?_
      refine KD.nil ⟨rfl, ?_⟩
      refine KC.cond rfl (fun hb => by cases hb) (fun _ => KC.skip ?_)
      refine KC.region ?_
      refine KO.pv (PV.move rfl) rfl rfl ?_
      refine KO.pv (PV.add rfl rfl ((show _ = ((i + 1 : Nat) : Int) from wrap64 (by omega) (by omega)))) rfl rfl ?_
      refine KO.pv (PV.assign rfl) rfl rfl ?_
      refine KO.nil ?_
      exact ⟨k - 1, _, by omega, .cons rfl (.cons rfl (.cons rfl (.cons rfl .nil))), i + 1, by omega, rfl, by omega, fun j hj => (hr0 j).trans (hkp j hj)⟩
    · have hneq : (!((i : Int) == but)) = true := by simp [hib]
      obtain ⟨nv, sv, mk, a0, rm, Fn, Fs, t1, t2, t3, t4, t5⟩ := (ea i _ (List.getElem?_eq_getElem hi)).take
      obtain ⟨nv', sv', mk', a0', rm', Fn', Fs', t1', t2', t3', t4', t5'⟩ := (eb i _ (List.getElem?_eq_getElem hi2)).take
      obtain ⟨q1, q2⟩ := heq i _ _ hib (List.getElem?_eq_getElem hi) (List.getElem?_eq_getElem hi2)
      obtain ⟨q3, q4⟩ := hbd _ (List.getElem_mem hi)
      rw [q1] at t2'
      rw [q2] at t3'
      rw [show i * 5 = 0 + i * 5 from (Nat.zero_add _).symm] at t1 t1'
      refine KC.draw (n := 15) (anc := [0, 0, 3, 7, 15, 15, 63, 127, 15, 15, 783, 1807, 4095, 8191, 16383]) (hv := [12]) (ord := [0, 1, 2, 3, 4, 5, 6, 7, 8, 9, 10, 11, 12, 13, 14]) (by kernel_rfl) (by kernel_rfl) (by kernel_rfl) (by kernel_rfl) (by kernel_rfl) fun H0 hn0 hr0 => ?_
      refine KD.pv 1 (PV.move rfl) rfl rfl rfl (by kernel_rfl) rfl rfl rfl ?_
      refine KD.pv 3 (PV.move rfl) rfl rfl rfl (by kernel_rfl) rfl rfl rfl ?_
      refine KD.pv 7 (PV.neq rfl rfl) rfl rfl rfl (by kernel_rfl) rfl rfl rfl ?_
      rw [hneq]
      refine KD.pv 15 (PV.move rfl) rfl rfl rfl (by kernel_rfl) rfl rfl rfl ?_
      refine KD.pv 31 (PV.move rfl) rfl rfl rfl (by kernel_rfl) rfl rfl rfl ?_
      refine KD.pv 63 (PV.move rfl) rfl rfl rfl (by kernel_rfl) rfl rfl rfl ?_
      refine KD.pv 127 (PV.indexAddr un137_N4 sz136_N4 rfl rfl (hi)) rfl rfl rfl (by kernel_rfl) rfl rfl rfl ?_
      refine KD.load 255 rfl ((hr0 _ ▸ (hkp ba la).trans ra)) (readN ag136_N4 sz136_N4 (t1)) (past1 ⟨_, ((hr0 _ ▸ (hkp ba la).trans ra)), readN ag136_N4 sz136_N4 (t1)⟩) ((veq_eye t2.veqn t3.veqn)) rfl (by kernel_rfl) rfl rfl rfl ?_
      refine KD.pv 511 (PV.move rfl) rfl rfl rfl (by kernel_rfl) rfl rfl rfl ?_
      refine KD.pv 1023 (PV.move rfl) rfl rfl rfl (by kernel_rfl) rfl rfl rfl ?_
      refine KD.pv 2047 (PV.indexAddr un137_N4 sz136_N4 rfl rfl (hi)) rfl rfl rfl (by kernel_rfl) rfl rfl rfl ?_
      refine KD.load 4095 rfl ((hr0 _ ▸ (hkp bb lb).trans rb)) (readN ag136_N4 sz136_N4 (t1')) (past1 ⟨_, ((hr0 _ ▸ (hkp bb lb).trans rb)), readN ag136_N4 sz136_N4 (t1')⟩) ((veq_eye t2'.veqn t3'.veqn)) rfl (by kernel_rfl) rfl rfl rfl ?_
      refine KD.call 8191 rfl rfl rfl (by kernel_rfl) rfl rfl rfl (eye_same tS H0 _ _ _ _ _ _ _ _ _ _ _ _ _ _ _ _ (t2.frame fun j hj => (hr0 j).trans (hkp j (by have := t4 j hj; omega))) (t3.frame fun j hj => (hr0 j).trans (hkp j (by have := t5 j hj; omega))) (t2'.frame fun j hj => (hr0 j).trans (hkp j (by have := t4' j hj; omega))) (t3'.frame fun j hj => (hr0 j).trans (hkp j (by have := t5' j hj; omega))) (fun j hj => by have := t4 j hj; omega) (fun j hj => by have := t5 j hj; omega) (fun j hj => by have := t4' j hj; omega) (fun j hj => by have := t5' j hj; omega) q3 q4) fun v1 H1 hq => ?_
      obtain ⟨rfl, hq2, hq3⟩ := hq
      dsimp only at hq2 hq3
      refine KD.pv 16383 (PV.not rfl) rfl rfl rfl (by kernel_rfl) rfl rfl rfl ?_
      simp only [Bool.not_true]
      refine KD.pv 32767 (PV.pickT rfl rfl rfl) rfl rfl rfl (by kernel_rfl) rfl rfl rfl ?_
      refine KD.nil ⟨rfl, ?_⟩
      refine KC.cond rfl (fun hb => by cases hb) (fun _ => KC.skip ?_)
      refine KC.region ?_
      refine KO.pv (PV.move rfl) rfl rfl ?_
      refine KO.pv (PV.add rfl rfl ((show _ = ((i + 1 : Nat) : Int) from wrap64 (by omega) (by omega)))) rfl rfl ?_
      refine KO.pv (PV.assign rfl) rfl rfl ?_
      refine KO.nil ?_
      exact ⟨k - 1, _, by omega, .cons rfl (.cons rfl (.cons rfl (.cons rfl .nil))), i + 1, by omega, rfl, by show H.next ≤ H1.next; omega, fun j hj => (hq3 j (by omega)).trans ((hr0 j).trans (hkp j hj))⟩
  refine KC.seq (KC.region ?_)
  refine KO.pv (PV.assign rfl) rfl rfl ?_
  refine KO.nil ?_
  exact KC.ret ⟨rfl, _, rfl, rfl, hnx, hkp⟩
end Go.Eng
