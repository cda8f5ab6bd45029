/- Functions of the program and of the library keep their contracts. Conditions: none beyond each theorem's own. -/
import Derived.Test.YthofopbfjpidhaaGreatDoorTracesB5
import Derived.KernelRfl
set_option linter.all false
namespace Go.Eng
open Go Go.Proofs
theorem ag4_B6 : isAggT E0.P 4 = some false := by kernel_rfl
theorem ag3_B6 : isAggT E0.P 3 = some false := by kernel_rfl
theorem sz3_B6 : sizeT E0.P 3 = some 1 := by kernel_rfl
theorem ag24_B6 : isAggT E0.P 24 = some false := by kernel_rfl
theorem un24_B6 : E0.P.underlying 24 = some (.slice 3) := by kernel_rfl
theorem un4_B6 : E0.P.underlying 4 = some TypeDesc.bool := by kernel_rfl
theorem sz4_B6 : sizeT E0.P 4 = some 1 := by kernel_rfl
theorem el89_B6 : elemT E0.P 89 = some 4 := by kernel_rfl
theorem ez4_B6 : elemZ E0.P 4 = some (1, [.bool false]) := by kernel_rfl
theorem sb4_B6 : smallBytes E0.P 4 = true := by kernel_rfl
theorem un89_B6 : E0.P.underlying 89 = some (.slice 4) := by kernel_rfl
theorem fo26_0_B6 : foff E0.P 26 0 = some 0 := by kernel_rfl
theorem fo26_1_B6 : foff E0.P 26 1 = some 1 := by kernel_rfl
theorem ag22_B6 : isAggT E0.P 22 = some false := by kernel_rfl
theorem un22_B6 : E0.P.underlying 22 = some (.slice 147) := by kernel_rfl
theorem fo26_2_B6 : foff E0.P 26 2 = some 2 := by kernel_rfl
theorem ag23_B6 : isAggT E0.P 23 = some false := by kernel_rfl
theorem un23_B6 : E0.P.underlying 23 = some (.slice 145) := by kernel_rfl
theorem sz147_B6 : sizeT E0.P 147 = some 2 := by kernel_rfl
theorem fo147_0_B6 : foff E0.P 147 0 = some 0 := by kernel_rfl
theorem ag26_B6 : isAggT E0.P 26 = some true := by kernel_rfl
theorem sz26_B6 : sizeT E0.P 26 = some 5 := by kernel_rfl
theorem fo26_3_B6 : foff E0.P 26 3 = some 3 := by kernel_rfl
theorem fo26_4_B6 : foff E0.P 26 4 = some 4 := by kernel_rfl
theorem sz145_B6 : sizeT E0.P 145 = some 2 := by kernel_rfl
theorem fo145_1_B6 : foff E0.P 145 1 = some 1 := by kernel_rfl
theorem fo145_0_B6 : foff E0.P 145 0 = some 0 := by kernel_rfl
theorem val_of (H : AHeap) (a_v : Option Addr) (n_v c_v : Nat) (v : List Bool) (l : Int) (h_v : V EB H a_v n_v c_v v) (w_l : IntKind.i64.wrap l = l) (h0 : 0 ≤ l) (h1 : l / 2 < n_v) : WF E0 227 [.slice a_v n_v c_v, .int .i64 l] H fun q => ∃ (o : Bool), q.1 = .bool o ∧ Mem [] H q.2 [] := by
  obtain ⟨len_v, cap_v, max_v, wf_v⟩ := h_v.len
  obtain ⟨lo_l, hi_l⟩ := rangei64 w_l
  have m0 : Mem [] H H [] := Mem.start
  refine WF.kg Tryz.func227 rfl rfl ?_
  refine KC.seq ?_
  refine KC.region ?_
  refine KO.pv (PV.assign rfl) rfl rfl ?_
  refine KO.nil ?_
  refine KC.seq ?_
  refine KC.region ?_
  refine KO.pv (PV.move rfl) rfl rfl ?_
  refine KO.pv (PV.move rfl) rfl rfl ?_
  refine KO.pv (PV.shr1 rfl rfl rfl) rfl rfl ?_
  obtain ⟨b1, o1, p1, r1, e1, ha1, hb1, hr1, hx1, hw1, hc1, ht1⟩ := V.at_ h_v (z := (l / 2)) (by omega) (by omega)
  have hc1_0 : r1.cs[o1 + ((l / 2)).toNat * 1 + 0]? = some (.bool e1) := hc1 0 (by decide)
  refine KO.pv (PV.indexAddrZ un89_B6 sz4_B6 rfl ha1 rfl (by omega) (by omega)) rfl rfl ?_
  refine KO.load1 ag4_B6 rfl (m0.row0 hb1 hr1) hc1_0 rfl rfl ?_
  refine KO.pv (PV.move rfl) rfl rfl ?_
  refine KO.pv (PV.and1 rfl rfl (by omega) (by omega)) rfl rfl ?_
  refine KO.pv (PV.eqlD rfl rfl rfl) rfl rfl ?_
  obtain ⟨b2, qb2⟩ : ∃ b : Bool, (e1 != (decide ((l % 2) = 1))) = b := ⟨_, rfl⟩
  refine KO.pv (PV.bneqB un4_B6 rfl rfl qb2) rfl rfl ?_
  refine KO.pv (PV.assign rfl) rfl rfl ?_
  refine KO.nil ?_
  exact KC.ret ⟨rfl, _, (.tmp rfl .nil), b2, rfl, m0.pick [] (by decide) rfl⟩
theorem val_All (H : AHeap) (ci : Int) (a_cL : Option Addr) (n_cL c_cL : Nat) (cL : List (Int × Int)) (a_cA : Option Addr) (n_cA c_cA : Nat) (cA : List (Int × Int)) (a_cB : Option Addr) (n_cB c_cB : Nat) (cB : List Int) (a_cC : Option Addr) (n_cC c_cC : Nat) (cC : List Int) (a_st : Option Addr) (n_st c_st : Nat) (st : List Bool) (a_inp : Option Addr) (n_inp c_inp : Nat) (inp : List Bool) (w_ci : IntKind.i64.wrap ci = ci) (h_cL : V EP H a_cL n_cL c_cL cL) (h_cA : V EP H a_cA n_cA c_cA cA) (h_cB : V (EI .i64) H a_cB n_cB c_cB cB) (h_cC : V (EI .i64) H a_cC n_cC c_cC cC) (h_st : V EB H a_st n_st c_st st) (h_inp : V EB H a_inp n_inp c_inp inp) : WF E0 226 [.agg #[.int .i64 ci, .slice a_cL n_cL c_cL, .slice a_cA n_cA c_cA, .slice a_cB n_cB c_cB, .slice a_cC n_cC c_cC], .slice a_st n_st c_st, .slice a_inp n_inp c_inp] H fun q => ∃ (a : Option Addr) (n : Nat) (e : Int) (xs : List Bool) (D : List Nat), q.1 = .tuple #[.slice a n n, .int .i64 e] ∧ Mem [] H q.2 [R.own EB a n n xs D] ∧ (n ≤ 2000) ∧ (e = 0 → CirOK ci cL cA cB cC ∧ (n : Int) = 1 + ci + n_cL + n_cA) ∧ (0 ≤ e ∧ e ≤ 100) := by
  obtain ⟨lo_ci, hi_ci⟩ := rangei64 w_ci
  obtain ⟨len_cL, cap_cL, max_cL, wf_cL⟩ := h_cL.len
  obtain ⟨len_cA, cap_cA, max_cA, wf_cA⟩ := h_cA.len
  obtain ⟨len_cB, cap_cB, max_cB, wf_cB⟩ := h_cB.len
  obtain ⟨len_cC, cap_cC, max_cC, wf_cC⟩ := h_cC.len
  obtain ⟨len_st, cap_st, max_st, wf_st⟩ := h_st.len
  obtain ⟨len_inp, cap_inp, max_inp, wf_inp⟩ := h_inp.len
  have m0 : Mem [] H H [] := Mem.start
  refine WF.kg Tryz.func226 rfl rfl ?_
  refine KC.seq ?_
  refine KC.region ?_
  refine KO.boxM m0 rfl rfl (show _ = [.int .i64 ci, .slice a_cL n_cL c_cL, .slice a_cA n_cA c_cA, .slice a_cB n_cB c_cB, .slice a_cC n_cC c_cC] from rfl) rfl rfl fun H1 m2 => ?_
  refine KO.pv (PV.assign rfl) rfl rfl ?_
  refine KO.pv (PV.assign rfl) rfl rfl ?_
  refine KO.nil ?_
  refine KC.seq ?_
  refine KC.region ?_
  refine KO.loadN ag26_B6 sz26_B6 rfl (m2.row (i := 0) rfl) (takeN_of (p := [.int .i64 ci, .slice a_cL n_cL c_cL, .slice a_cA n_cA c_cA, .slice a_cB n_cB c_cB, .slice a_cC n_cC c_cC]) rfl rfl) rfl rfl ?_
  refine KO.call rfl rfl rfl rfl (gates_Vars H1 ci a_cL n_cL c_cL _ a_cA n_cA c_cA _ a_cB n_cB c_cB _ a_cC n_cC c_cC _ (wrap64 (by omega) (by omega)) (V.mem m2 h_cL) (V.mem m2 h_cA) (V.mem m2 h_cB) (V.mem m2 h_cC)) fun v3 H3 q3 => ?_
  obtain ⟨n3, e3, hv3, mc3, p3_0, p3_1⟩ := q3
  dsimp only at hv3 mc3
  subst hv3
  have m4 := m2.seq mc3
  refine KO.pv (PV.move rfl) rfl rfl ?_
  refine KO.pv (PV.extract rfl rfl) rfl rfl ?_
  refine KO.pv (PV.extract rfl rfl) rfl rfl ?_
  refine KO.pv (PV.assign rfl) rfl rfl ?_
  refine KO.pv (PV.assign rfl) rfl rfl ?_
  refine KO.nil ?_
  refine KC.seq ?_
  refine KC.seq ?_
  refine KC.region ?_
  refine KO.pv (PV.move rfl) rfl rfl ?_
  refine KO.pv (PV.neqD rfl rfl rfl) rfl rfl ?_
  refine KO.nil ?_
  refine KC.condD rfl (fun h5 => ?_) (fun h5 => ?_)
  · refine KC.seq ?_
    refine KC.region ?_
    refine KO.pv (PV.move rfl) rfl rfl ?_
    refine KO.pv (PV.assign rfl) rfl rfl ?_
    refine KO.pv (PV.assign rfl) rfl rfl ?_
    refine KO.nil ?_
    have m6 := m4.ownNil (C := EB)
    exact KC.ret ⟨rfl, _, (.tmp rfl (.tmp rfl .nil)), none, 0, e3, [], [], rfl, m6.pick [0] (by decide) rfl, (by first | omega | (intro h; omega) | (simp only [List.length_nil, true_and, and_true, or_true, true_or] <;> omega)), (by first | omega | (intro h; omega) | (simp only [List.length_nil, true_and, and_true, or_true, true_or] <;> omega) | (exact fun h => absurd h (by omega)) | (exact fun _ => ⟨hok, by omega⟩)), (by first | omega | (intro h; omega) | (simp only [List.length_nil, true_and, and_true, or_true, true_or] <;> omega))⟩
  · have p3_0t := p3_0 (by omega)
    obtain ⟨p3_0s, p3_0u⟩ := id p3_0t
    obtain ⟨p3_0_i0, p3_0_al, p3_0_b, p3_0_c, p3_0_hb, p3_0_hc, p3_0_hl, p3_0_ha⟩ := id p3_0s
    obtain ⟨hok, hn⟩ := p3_0 (by omega)
    obtain ⟨k1, k2, k3, k4, k5, k6, k7, k8⟩ := id hok
    refine KC.skip ?_
    refine KC.seq ?_
    refine KC.seq ?_
    refine KC.region ?_
    refine KO.pv (PV.move rfl) rfl rfl ?_
    refine KO.pv (PV.len un89_B6 rfl) rfl rfl ?_
    refine KO.pv (PV.fieldAddr fo26_1_B6 rfl) rfl rfl ?_
    refine KO.load1 ag22_B6 rfl (m4.row (i := 0) rfl) rfl rfl rfl ?_
    refine KO.pv (PV.len un22_B6 rfl) rfl rfl ?_
    by_cases h7 : (n_st : Int) ≠ (n_cL : Int)
    · refine KO.pv (PV.neqD rfl rfl (decide_eq_true h7)) rfl rfl ?_
      refine KO.pv (PV.move rfl) rfl rfl ?_
      refine KO.no rfl rfl rfl ?_
      refine KO.no rfl rfl rfl ?_
      refine KO.no rfl rfl rfl ?_
      refine KO.no rfl rfl rfl ?_
      refine KO.no rfl rfl rfl ?_
      refine KO.pv (PV.pickT rfl rfl rfl) rfl rfl ?_
      refine KO.nil ?_
      refine KC.condT rfl ?_
      refine KC.seq ?_
      refine KC.region ?_
      refine KO.pv (PV.assign rfl) rfl rfl ?_
      refine KO.pv (PV.assign rfl) rfl rfl ?_
      refine KO.nil ?_
      have m8 := m4.ownNil (C := EB)
      exact KC.ret ⟨rfl, _, (.tmp rfl (.tmp rfl .nil)), none, 0, 2, [], [], rfl, m8.pick [0] (by decide) rfl, (by first | omega | (intro h; omega) | (simp only [List.length_nil, true_and, and_true, or_true, true_or] <;> omega)), (by first | omega | (intro h; omega) | (simp only [List.length_nil, true_and, and_true, or_true, true_or] <;> omega) | (exact fun h => absurd h (by omega)) | (exact fun _ => ⟨hok, by omega⟩)), (by first | omega | (intro h; omega) | (simp only [List.length_nil, true_and, and_true, or_true, true_or] <;> omega))⟩
    · refine KO.pv (PV.neqD rfl rfl (decide_eq_false h7)) rfl rfl ?_
      refine KO.pv (PV.move rfl) rfl rfl ?_
      refine KO.pv (PV.move rfl) rfl rfl ?_
      refine KO.pv (PV.len un89_B6 rfl) rfl rfl ?_
      refine KO.pv (PV.fieldAddr fo26_0_B6 rfl) rfl rfl ?_
      refine KO.load1 ag3_B6 rfl (m4.row (i := 0) rfl) rfl rfl rfl ?_
      refine KO.pv (PV.neqD rfl rfl rfl) rfl rfl ?_
      refine KO.pv (PV.pickF rfl rfl rfl) rfl rfl ?_
      refine KO.nil ?_
      refine KC.condD rfl (fun h9 => ?_) (fun h9 => ?_)
      · refine KC.seq ?_
        refine KC.region ?_
        refine KO.pv (PV.assign rfl) rfl rfl ?_
        refine KO.pv (PV.assign rfl) rfl rfl ?_
        refine KO.nil ?_
        have m10 := m4.ownNil (C := EB)
        exact KC.ret ⟨rfl, _, (.tmp rfl (.tmp rfl .nil)), none, 0, 2, [], [], rfl, m10.pick [0] (by decide) rfl, (by first | omega | (intro h; omega) | (simp only [List.length_nil, true_and, and_true, or_true, true_or] <;> omega)), (by first | omega | (intro h; omega) | (simp only [List.length_nil, true_and, and_true, or_true, true_or] <;> omega) | (exact fun h => absurd h (by omega)) | (exact fun _ => ⟨hok, by omega⟩)), (by first | omega | (intro h; omega) | (simp only [List.length_nil, true_and, and_true, or_true, true_or] <;> omega))⟩
      · refine KC.skip ?_
        refine KC.seq ?_
        refine KC.region ?_
        refine KO.pv (PV.move rfl) rfl rfl ?_
        refine KO.pv (PV.add rfl rfl (wrap64 (by omega) (by omega))) rfl rfl ?_
        refine KO.makeSliceM (C := EB) false m4 el89_B6 ez4_B6 sb4_B6 rfl rfl (by omega) (by omega) (by omega) rfl rfl fun H11 m12 => ?_
        refine KO.pv (PV.assign rfl) rfl rfl ?_
        refine KO.nil ?_
        refine KC.seq ?_
        refine KC.region ?_
        refine KO.pv (PV.move rfl) rfl rfl ?_
        refine KO.pv (PV.slice rfl (fun _ h => by cases h; exact ⟨_, rfl, rfl⟩) (fun h => by cases h) (fun _ h => by cases h) (fun _ => rfl) (fun _ h => by cases h) (fun _ => rfl) (sliceP un89_B6 sz4_B6 rfl rfl (boundA_int (by omega) (by omega)) rfl)) rfl rfl ?_
        refine KO.pv (PV.move rfl) rfl rfl ?_
        refine KO.copyP (C := EB) (l0 := 1) (m0 := (((n3 + 1)).toNat)) m12 (i := 0) rfl (V.mem m12 h_inp) el89_B6 sz4_B6 rfl rfl (by omega) (by first | omega | (simp only [splice, List.length_append, List.length_set, List.length_replicate, List.length_map, List.length_take, List.length_drop, List.length_cons, List.length_nil] <;> omega)) (by omega) rfl rfl fun H13 m14 => ?_
        refine KO.pv (PV.add rfl rfl (wrap64 (by omega) (by omega))) rfl rfl ?_
        refine KO.pv (PV.assign rfl) rfl rfl ?_
        refine KO.nil ?_
        refine KC.seq ?_
        refine KC.region ?_
        refine KO.pv (PV.move rfl) rfl rfl ?_
        refine KO.pv (PV.move rfl) rfl rfl ?_
        refine KO.pv (PV.move rfl) rfl rfl ?_
        refine KO.pv (PV.move rfl) rfl rfl ?_
        refine KO.pv (PV.len un89_B6 rfl) rfl rfl ?_
        refine KO.pv (PV.add rfl rfl (wrap64 (by omega) (by omega))) rfl rfl ?_
        refine KO.pv (PV.move rfl) rfl rfl ?_
        refine KO.pv (PV.move rfl) rfl rfl ?_
        refine KO.pv (PV.len un89_B6 rfl) rfl rfl ?_
        refine KO.pv (PV.add rfl rfl (wrap64 (by omega) (by omega))) rfl rfl ?_
        refine KO.pv (PV.slice rfl (fun _ h => by cases h; exact ⟨_, rfl, rfl⟩) (fun h => by cases h) (fun _ h => by cases h; exact ⟨_, rfl, rfl⟩) (fun h => by cases h) (fun _ h => by cases h; exact ⟨_, rfl, rfl⟩) (fun h => by cases h) (sliceP un89_B6 sz4_B6 (boundA_int (by omega) (by omega)) (boundA_int (by omega) (by omega)) (boundA_int (by omega) (by omega)) rfl)) rfl rfl ?_
        refine KO.pv (PV.move rfl) rfl rfl ?_
        refine KO.copyP (C := EB) (l0 := (((1 + (n_inp : Int))).toNat)) (m0 := ((((1 + (n_inp : Int)) + (n_st : Int))).toNat)) m14 (i := 0) rfl (V.mem m14 h_st) el89_B6 sz4_B6 rfl rfl (by omega) (by first | omega | (simp only [splice, List.length_append, List.length_set, List.length_replicate, List.length_map, List.length_take, List.length_drop, List.length_cons, List.length_nil] <;> omega)) (by omega) rfl rfl fun H15 m16 => ?_
        refine KO.nil ?_
        refine KC.seq ?_
        refine KC.region ?_
        refine KO.pv (PV.move rfl) rfl rfl ?_
        refine KO.pv (PV.move rfl) rfl rfl ?_
        refine KO.pv (PV.len un89_B6 rfl) rfl rfl ?_
        refine KO.pv (PV.add rfl rfl (wrap64 (by omega) (by omega))) rfl rfl ?_
        refine KO.pv (PV.assign rfl) rfl rfl ?_
        refine KO.nil ?_
        refine KC.seq ?_
        refine KC.seq ?_
        refine KC.region ?_
        refine KO.pv (PV.fieldAddr fo26_2_B6 rfl) rfl rfl ?_
        refine KO.load1 ag23_B6 rfl (m16.row (i := 1) rfl) rfl rfl rfl ?_
        refine KO.pv (PV.len un23_B6 rfl) rfl rfl ?_
        refine KO.pv (PV.move rfl) rfl rfl ?_
        refine KO.nil ?_
        refine KC.block ?_
        refine KC.sub (l' := [(3, .pointer (some ⟨H.next, 0, none⟩)), (6, .slice none 0 0), (7, .int .i64 0), (10, .slice (some ⟨H3.next, 0, none⟩) (((n3 + 1)).toNat) (((n3 + 1)).toNat)), (11, .int .i64 ((1 + (n_inp : Int)) + (n_st : Int))), (19, .bool (decide (e3 ≠ 0))), (33, .bool (decide ((n_inp : Int) ≠ ci))), (61, .int .i64 (n_cA : Int)), (62, .int .i64 0)]) (.cons rfl (.cons rfl (.cons rfl (.cons rfl (.cons rfl (.cons rfl (.cons rfl (.cons rfl (.cons rfl .nil))))))))) ?_
        refine KC.loopN (fun kq lq A => ∃ (i : Int) (xs : List Bool), kq = ((n_cA : Int) - i).toNat ∧ lq = [(3, .pointer (some ⟨H.next, 0, none⟩)), (6, .slice none 0 0), (7, .int .i64 0), (10, .slice (some ⟨H3.next, 0, none⟩) (((n3 + 1)).toNat) (((n3 + 1)).toNat)), (11, .int .i64 ((1 + (n_inp : Int)) + (n_st : Int))), (19, .bool (decide (e3 ≠ 0))), (33, .bool (decide ((n_inp : Int) ≠ ci))), (61, .int .i64 (n_cA : Int)), (62, .int .i64 i)] ∧ Mem [] H A [R.row H.next 26 true [.int .i64 ci, .slice a_cL n_cL c_cL, .slice a_cA n_cA c_cA, .slice a_cB n_cB c_cB, .slice a_cC n_cC c_cC], R.row H3.next 4 true (cells EB xs)] ∧ (0 ≤ i ∧ i ≤ n_cA) ∧ (xs.length = ((n3 + 1)).toNat)) ?_ (((n_cA : Int) - 0).toNat) ⟨0, (splice (splice (List.replicate (((n3 + 1)).toNat) false) 1 inp) (((1 + (n_inp : Int))).toNat) st), rfl, rfl, (m16.pick [1, 0] (by decide) rfl), (by omega), (by first | omega | (simp only [splice, List.length_append, List.length_set, List.length_replicate, List.length_map, List.length_take, List.length_drop, List.length_cons, List.length_nil] <;> omega))⟩
        rintro kq lq A17 ⟨i, xs, rfl, rfl, m18, hi, hxl⟩
        refine KC.seq ?_
        refine KC.region ?_
        refine KO.pv (PV.lssD rfl rfl rfl) rfl rfl ?_
        refine KO.nil ?_
        refine KC.seq ?_
        refine KC.condD rfl (fun h19 => ?_) (fun h19 => ?_)
        · refine KC.skip ?_
          refine KC.seq ?_
          refine KC.block ?_
          refine KC.seq ?_
          refine KC.region ?_
          refine KO.pv (PV.move rfl) rfl rfl ?_
          refine KO.pv (PV.assign rfl) rfl rfl ?_
          refine KO.nil ?_
          refine KC.region ?_
          refine KO.pv (PV.move rfl) rfl rfl ?_
          refine KO.pv (PV.move rfl) rfl rfl ?_
          refine KO.pv (PV.move rfl) rfl rfl ?_
          refine KO.pv (PV.add rfl rfl (wrap64 (by omega) (by omega))) rfl rfl ?_
          refine KO.pv (PV.move rfl) rfl rfl ?_
          refine KO.pv (PV.fieldAddr fo26_2_B6 rfl) rfl rfl ?_
          refine KO.load1 ag23_B6 rfl (m18.row (i := 0) rfl) rfl rfl rfl ?_
          refine KO.pv (PV.move rfl) rfl rfl ?_
          obtain ⟨b20, o20, p20, r20, e20, ha20, hb20, hr20, hx20, hw20, hc20, ht20⟩ := V.at_ h_cA (z := i) (by omega) (by omega)
          have hc20_0 : r20.cs[o20 + (i).toNat * 2 + 0]? = some (.int .i64 e20.1) := hc20 0 (by decide)
          have hc20_1 : r20.cs[o20 + (i).toNat * 2 + 1]? = some (.int .i64 e20.2) := hc20 1 (by decide)
          obtain ⟨hwa20, hwb20⟩ := hw20
          obtain ⟨loa20, hia20⟩ := rangei64 hwa20
          obtain ⟨lob20, hib20⟩ := rangei64 hwb20
          have gp3_0_ha_20 := p3_0_ha _ _ hx20
          refine KO.pv (PV.indexAddrZ un23_B6 sz145_B6 rfl ha20 rfl (by omega) (by omega)) rfl rfl ?_
          have hg20 := k8 _ _ hx20
          refine KO.pv (PV.fieldAddr fo145_0_B6 rfl) rfl rfl ?_
          refine KO.load1 ag3_B6 rfl (m18.row0 hb20 hr20) hc20_0 rfl rfl ?_
          refine KO.call rfl rfl rfl rfl (val_of A17 (some ⟨H3.next, 0, none⟩) (((n3 + 1)).toNat) (((n3 + 1)).toNat) _ e20.1 (m18.vrow (i := 1) rfl (fun _ _ => trivial) (by first | omega | (simp only [splice, List.length_append, List.length_set, List.length_replicate, List.length_map, List.length_take, List.length_drop, List.length_cons, List.length_nil] <;> omega)) (by omega) (by omega)) (wrap64 (by omega) (by omega)) (by first | omega | assumption) (by first | omega | assumption)) fun v21 H21 q21 => ?_
          obtain ⟨o21, hv21, mc21⟩ := q21
          dsimp only at hv21 mc21
          subst hv21
          have m22 := m18.seq mc21
          refine KO.pv (PV.move rfl) rfl rfl ?_
          rcases Bool.eq_false_or_eq_true o21 with h23 | h23
          · subst h23
            refine KO.pv (PV.move rfl) rfl rfl ?_
            refine KO.pv (PV.fieldAddr fo26_2_B6 rfl) rfl rfl ?_
            refine KO.load1 ag23_B6 rfl (m22.row (i := 0) rfl) rfl rfl rfl ?_
            refine KO.pv (PV.move rfl) rfl rfl ?_
            obtain ⟨b24, o24, p24, r24, e24, ha24, hb24, hr24, hx24, hw24, hc24, ht24⟩ := V.at_ h_cA (z := i) (by omega) (by omega)
            have hc24_0 : r24.cs[o24 + (i).toNat * 2 + 0]? = some (.int .i64 e24.1) := hc24 0 (by decide)
            have hc24_1 : r24.cs[o24 + (i).toNat * 2 + 1]? = some (.int .i64 e24.2) := hc24 1 (by decide)
            obtain ⟨hwa24, hwb24⟩ := hw24
            obtain ⟨loa24, hia24⟩ := rangei64 hwa24
            obtain ⟨lob24, hib24⟩ := rangei64 hwb24
            have gp3_0_ha_24 := p3_0_ha _ _ hx24
            have hq24 : e24 = e20 := Option.some.inj (hx24.symm.trans hx20)
            refine KO.pv (PV.indexAddrZ un23_B6 sz145_B6 rfl ha24 rfl (by omega) (by omega)) rfl rfl ?_
            have hg24 := k8 _ _ hx24
            refine KO.pv (PV.fieldAddr fo145_1_B6 rfl) rfl rfl ?_
            refine KO.load1 ag3_B6 rfl (m22.row0 hb24 hr24) hc24_1 rfl rfl ?_
            refine KO.call rfl rfl rfl rfl (val_of H21 (some ⟨H3.next, 0, none⟩) (((n3 + 1)).toNat) (((n3 + 1)).toNat) _ e24.2 (m22.vrow (i := 1) rfl (fun _ _ => trivial) (by first | omega | (simp only [splice, List.length_append, List.length_set, List.length_replicate, List.length_map, List.length_take, List.length_drop, List.length_cons, List.length_nil] <;> omega)) (by omega) (by omega)) (wrap64 (by omega) (by omega)) (by first | omega | assumption) (by first | omega | assumption)) fun v25 H25 q25 => ?_
            obtain ⟨o25, hv25, mc25⟩ := q25
            dsimp only at hv25 mc25
            subst hv25
            have m26 := m22.seq mc25
            refine KO.pv (PV.pickT rfl rfl rfl) rfl rfl ?_
            refine KO.pv (PV.indexAddrZ un89_B6 sz4_B6 rfl rfl rfl (by omega) (by omega)) rfl rfl ?_
            refine KO.storeM m26 (i := 1) rfl sz4_B6 rfl rfl rfl (cells_room (C := EB) (xs := xs) (i := ((((1 + (n_inp : Int)) + (n_st : Int)) + i)).toNat) (by first | omega | (simp only [splice, List.length_append, List.length_set, List.length_replicate, List.length_map, List.length_take, List.length_drop, List.length_cons, List.length_nil] <;> omega)) rfl) (cells_put0 (C := EB) (xs := xs) (i := ((((1 + (n_inp : Int)) + (n_st : Int)) + i)).toNat) o25 (by first | omega | (simp only [splice, List.length_append, List.length_set, List.length_replicate, List.length_map, List.length_take, List.length_drop, List.length_cons, List.length_nil] <;> omega))) rfl fun H28 m29 => ?_
            refine KO.nil ?_
            refine KC.region ?_
            refine KO.pv (PV.add rfl rfl (wrap64 (by omega) (by omega))) rfl rfl ?_
            refine KO.pv (PV.move rfl) rfl rfl ?_
            refine KO.nil ?_
            exact ⟨_, _, (by omega), (.cons rfl (.cons rfl (.cons rfl (.cons rfl (.cons rfl (.cons rfl (.cons rfl (.cons rfl (.cons rfl .nil))))))))), (i + 1), (xs.set (((((1 + (n_inp : Int)) + (n_st : Int)) + i)).toNat) o25), rfl, rfl, (m29.pick [0, 1] (by decide) rfl), (by omega), (by first | omega | (simp only [splice, List.length_append, List.length_set, List.length_replicate, List.length_map, List.length_take, List.length_drop, List.length_cons, List.length_nil] <;> omega))⟩
          · subst h23
            refine KO.no rfl rfl rfl ?_
            refine KO.no rfl rfl rfl ?_
            refine KO.no rfl rfl rfl ?_
            refine KO.no rfl rfl rfl ?_
            refine KO.no rfl rfl rfl ?_
            refine KO.no rfl rfl rfl ?_
            refine KO.no rfl rfl rfl ?_
            refine KO.no rfl rfl rfl ?_
            refine KO.pv (PV.pickF rfl rfl rfl) rfl rfl ?_
            refine KO.pv (PV.indexAddrZ un89_B6 sz4_B6 rfl rfl rfl (by omega) (by omega)) rfl rfl ?_
            refine KO.storeM m22 (i := 1) rfl sz4_B6 rfl rfl rfl (cells_room (C := EB) (xs := xs) (i := ((((1 + (n_inp : Int)) + (n_st : Int)) + i)).toNat) (by first | omega | (simp only [splice, List.length_append, List.length_set, List.length_replicate, List.length_map, List.length_take, List.length_drop, List.length_cons, List.length_nil] <;> omega)) rfl) (cells_put0 (C := EB) (xs := xs) (i := ((((1 + (n_inp : Int)) + (n_st : Int)) + i)).toNat) false (by first | omega | (simp only [splice, List.length_append, List.length_set, List.length_replicate, List.length_map, List.length_take, List.length_drop, List.length_cons, List.length_nil] <;> omega))) rfl fun H31 m32 => ?_
            refine KO.nil ?_
            refine KC.region ?_
            refine KO.pv (PV.add rfl rfl (wrap64 (by omega) (by omega))) rfl rfl ?_
            refine KO.pv (PV.move rfl) rfl rfl ?_
            refine KO.nil ?_
            exact ⟨_, _, (by omega), (.cons rfl (.cons rfl (.cons rfl (.cons rfl (.cons rfl (.cons rfl (.cons rfl (.cons rfl (.cons rfl .nil))))))))), (i + 1), (xs.set (((((1 + (n_inp : Int)) + (n_st : Int)) + i)).toNat) false), rfl, rfl, (m32.pick [0, 1] (by decide) rfl), (by omega), (by first | omega | (simp only [splice, List.length_append, List.length_set, List.length_replicate, List.length_map, List.length_take, List.length_drop, List.length_cons, List.length_nil] <;> omega))⟩
        · refine KC.exit ?_
          refine KC.seq ?_
          refine KC.region ?_
          refine KO.pv (PV.move rfl) rfl rfl ?_
          refine KO.pv (PV.assign rfl) rfl rfl ?_
          refine KO.pv (PV.assign rfl) rfl rfl ?_
          refine KO.nil ?_
          have m33 := m18.ownRow (C := EB) (i := 1) (sp := none) (n := (((n3 + 1)).toNat)) (c := (((n3 + 1)).toNat)) rfl (fun _ _ => trivial) (by first | omega | (simp only [splice, List.length_append, List.length_set, List.length_replicate, List.length_map, List.length_take, List.length_drop, List.length_cons, List.length_nil] <;> omega)) (by omega) (by omega)
          exact KC.ret ⟨rfl, _, (.tmp rfl (.tmp rfl .nil)), (some ⟨H3.next, 0, none⟩), (((n3 + 1)).toNat), 0, xs, [H3.next], rfl, m33.pick [1] (by decide) rfl, (by first | omega | (intro h; omega) | (simp only [List.length_nil, true_and, and_true, or_true, true_or] <;> omega)), (by first | omega | (intro h; omega) | (simp only [List.length_nil, true_and, and_true, or_true, true_or] <;> omega) | (exact fun h => absurd h (by omega)) | (exact fun _ => ⟨hok, by omega⟩)), (by first | omega | (intro h; omega) | (simp only [List.length_nil, true_and, and_true, or_true, true_or] <;> omega))⟩
theorem val_list (H : AHeap) (ci : Int) (a_cL : Option Addr) (n_cL c_cL : Nat) (cL : List (Int × Int)) (a_cA : Option Addr) (n_cA c_cA : Nat) (cA : List (Int × Int)) (a_cB : Option Addr) (n_cB c_cB : Nat) (cB : List Int) (a_cC : Option Addr) (n_cC c_cC : Nat) (cC : List Int) (a_st : Option Addr) (n_st c_st : Nat) (st : List Bool) (a_inp : Option Addr) (n_inp c_inp : Nat) (inp : List Bool) (n : Int) (g_f : FuncId) (cap_f : List Value) (w_ci : IntKind.i64.wrap ci = ci) (h_cL : V EP H a_cL n_cL c_cL cL) (h_cA : V EP H a_cA n_cA c_cA cA) (h_cB : V (EI .i64) H a_cB n_cB c_cB cB) (h_cC : V (EI .i64) H a_cC n_cC c_cC cC) (h_st : V EB H a_st n_st c_st st) (h_inp : V EB H a_inp n_inp c_inp inp) (w_n : IntKind.i64.wrap n = n) (x_f : E0.ext g_f = none) (h_f : ∀ A, Mem [] H A [] → ∀ i : Int, 0 ≤ i → i < n → WF E0 g_f ([.int .i64 i] ++ cap_f) A fun q => ∃ z : Int, q.1 = .int .i64 z ∧ Mem [] A q.2 [] ∧ IntKind.i64.wrap z = z ∧ (CirOK ci cL cA cB cC → 0 ≤ z ∧ z / 2 < 1 + ci + n_cL + n_cA)) (n0 : 0 ≤ n) (n1 : n ≤ 300000000) : WF E0 211 [.agg #[.int .i64 ci, .slice a_cL n_cL c_cL, .slice a_cA n_cA c_cA, .slice a_cB n_cB c_cB, .slice a_cC n_cC c_cC], .slice a_st n_st c_st, .slice a_inp n_inp c_inp, .int .i64 n, .func (.func g_f) #[] cap_f.toArray] H fun q => ∃ (a : Option Addr) (m : Nat) (e : Int) (xs : List Bool) (D : List Nat), q.1 = .tuple #[.slice a m m, .int .i64 e] ∧ Mem [] H q.2 [R.lst 4 1 a m (cells EB xs) D] ∧ ((m : Int) ≤ n) ∧ (e = 0 → CirOK ci cL cA cB cC) ∧ (0 ≤ e ∧ e ≤ 100) := by
  obtain ⟨lo_ci, hi_ci⟩ := rangei64 w_ci
  obtain ⟨len_cL, cap_cL, max_cL, wf_cL⟩ := h_cL.len
  obtain ⟨len_cA, cap_cA, max_cA, wf_cA⟩ := h_cA.len
  obtain ⟨len_cB, cap_cB, max_cB, wf_cB⟩ := h_cB.len
  obtain ⟨len_cC, cap_cC, max_cC, wf_cC⟩ := h_cC.len
  obtain ⟨len_st, cap_st, max_st, wf_st⟩ := h_st.len
  obtain ⟨len_inp, cap_inp, max_inp, wf_inp⟩ := h_inp.len
  obtain ⟨lo_n, hi_n⟩ := rangei64 w_n
  have m0 : Mem [] H H [] := Mem.start
  refine WF.kg Tryz.func211 rfl rfl ?_
  refine KC.seq ?_
  refine KC.region ?_
  refine KO.boxM m0 rfl rfl (show _ = [.int .i64 ci, .slice a_cL n_cL c_cL, .slice a_cA n_cA c_cA, .slice a_cB n_cB c_cB, .slice a_cC n_cC c_cC] from rfl) rfl rfl fun H1 m2 => ?_
  refine KO.pv (PV.assign rfl) rfl rfl ?_
  refine KO.pv (PV.assign rfl) rfl rfl ?_
  refine KO.nil ?_
  refine KC.seq ?_
  refine KC.region ?_
  refine KO.loadN ag26_B6 sz26_B6 rfl (m2.row (i := 0) rfl) (takeN_of (p := [.int .i64 ci, .slice a_cL n_cL c_cL, .slice a_cA n_cA c_cA, .slice a_cB n_cB c_cB, .slice a_cC n_cC c_cC]) rfl rfl) rfl rfl ?_
  refine KO.pv (PV.move rfl) rfl rfl ?_
  refine KO.pv (PV.move rfl) rfl rfl ?_
  refine KO.call rfl rfl rfl rfl (val_All H1 ci a_cL n_cL c_cL _ a_cA n_cA c_cA _ a_cB n_cB c_cB _ a_cC n_cC c_cC _ a_st n_st c_st _ a_inp n_inp c_inp _ (wrap64 (by omega) (by omega)) (V.mem m2 h_cL) (V.mem m2 h_cA) (V.mem m2 h_cB) (V.mem m2 h_cC) (V.mem m2 h_st) (V.mem m2 h_inp)) fun v3 H3 q3 => ?_
  obtain ⟨a3, n3, e3, xs3, D3, hv3, mc3, p3_0, p3_1, p3_2⟩ := q3
  dsimp only at hv3 mc3
  subst hv3
  have m4 := m2.seq mc3
  refine KO.pv (PV.move rfl) rfl rfl ?_
  refine KO.pv (PV.extract rfl rfl) rfl rfl ?_
  refine KO.pv (PV.extract rfl rfl) rfl rfl ?_
  refine KO.pv (PV.assign rfl) rfl rfl ?_
  refine KO.pv (PV.assign rfl) rfl rfl ?_
  refine KO.nil ?_
  refine KC.seq ?_
  refine KC.seq ?_
  refine KC.region ?_
  refine KO.pv (PV.move rfl) rfl rfl ?_
  refine KO.pv (PV.neqD rfl rfl rfl) rfl rfl ?_
  refine KO.nil ?_
  refine KC.condD rfl (fun h5 => ?_) (fun h5 => ?_)
  · refine KC.seq ?_
    refine KC.region ?_
    refine KO.pv (PV.move rfl) rfl rfl ?_
    refine KO.pv (PV.assign rfl) rfl rfl ?_
    refine KO.pv (PV.assign rfl) rfl rfl ?_
    refine KO.nil ?_
    have m6 := m4.lnilC EB (e := 4) none rfl
    exact KC.ret ⟨rfl, _, (.tmp rfl (.tmp rfl .nil)), none, 0, e3, [], [], rfl, m6.pick [0] (by decide) rfl, (by first | omega | (intro h; omega) | (simp only [List.length_nil, true_and, and_true, or_true, true_or] <;> omega)), (by first | omega | (intro h; omega) | (simp only [List.length_nil, true_and, and_true, or_true, true_or] <;> omega) | (exact fun h => absurd h (by omega)) | (exact fun _ => hok)), (by first | omega | (intro h; omega) | (simp only [List.length_nil, true_and, and_true, or_true, true_or] <;> omega))⟩
  · have p3_1t := p3_1 (by omega)
    obtain ⟨p3_1s, p3_1u⟩ := id p3_1t
    obtain ⟨p3_1_i0, p3_1_al, p3_1_b, p3_1_c, p3_1_hb, p3_1_hc, p3_1_hl, p3_1_ha⟩ := id p3_1s
    obtain ⟨hok, hn⟩ := p3_1 (by omega)
    refine KC.skip ?_
    refine KC.seq ?_
    refine KC.region ?_
    refine KO.pv (PV.assign rfl) rfl rfl ?_
    refine KO.nil ?_
    refine KC.seq ?_
    refine KC.seq ?_
    refine KC.region ?_
    refine KO.pv (PV.move rfl) rfl rfl ?_
    refine KO.pv (PV.move rfl) rfl rfl ?_
    refine KO.nil ?_
    refine KC.block ?_
    have mN := m4.lnil (e := 4) (sz := 1) none rfl
    refine KC.sub (l' := [(4, .func (.func g_f) #[] cap_f.toArray), (10, .slice none 0 0), (11, .int .i64 0), (12, .slice a3 n3 n3), (14, .slice none 0 0), (24, .bool (decide (e3 ≠ 0))), (26, .int .i64 n), (27, .int .i64 0)]) (.cons rfl (.cons rfl (.cons rfl (.cons rfl (.cons rfl (.cons rfl (.cons rfl (.cons rfl .nil)))))))) ?_
    have m7 := mN.lnilC EB (e := 4) none rfl
    refine KC.loopN (fun kq lq A => ∃ (i : Int) (a : Option Addr) (m : Nat) (xs : List Bool) (D : List Nat), kq = (n - i).toNat ∧ lq = [(4, .func (.func g_f) #[] cap_f.toArray), (10, .slice none 0 0), (11, .int .i64 0), (12, .slice a3 n3 n3), (14, .slice a m m), (24, .bool (decide (e3 ≠ 0))), (26, .int .i64 n), (27, .int .i64 i)] ∧ Mem [] H A [R.own EB a3 n3 n3 xs3 D3, R.lst 4 1 a m (cells EB xs) D] ∧ (0 ≤ i ∧ i ≤ n) ∧ ((m : Int) = i) ∧ (xs.length = m)) ?_ ((n - 0).toNat) ⟨0, none, 0, [], [], rfl, rfl, (m7.pick [2, 0] (by decide) rfl), (by omega), (by omega), rfl⟩
    rintro kq lq A8 ⟨i, a, m, xs, D, rfl, rfl, m9, hi, hm, hxl⟩
    refine KC.seq ?_
    refine KC.region ?_
    refine KO.pv (PV.lssD rfl rfl rfl) rfl rfl ?_
    refine KO.nil ?_
    refine KC.seq ?_
    refine KC.condD rfl (fun h10 => ?_) (fun h10 => ?_)
    · refine KC.skip ?_
      refine KC.seq ?_
      refine KC.block ?_
      refine KC.seq ?_
      refine KC.region ?_
      refine KO.pv (PV.move rfl) rfl rfl ?_
      refine KO.pv (PV.assign rfl) rfl rfl ?_
      refine KO.nil ?_
      refine KC.region ?_
      refine KO.pv (PV.move rfl) rfl rfl ?_
      refine KO.pv (PV.move rfl) rfl rfl ?_
      refine KO.pv (PV.move rfl) rfl rfl ?_
      refine KO.pv (PV.move rfl) rfl rfl ?_
      refine KO.callV rfl x_f rfl rfl rfl (h_f A8 (m9.pick [] (by decide) rfl) i (by omega) (by omega)) fun v11 H11 q11 => ?_
      obtain ⟨z11, hv11, mc11, pw11, pf11⟩ := q11
      dsimp only at hv11 mc11
      subst hv11
      have m12 := m9.seq mc11
      obtain ⟨zlo11, zhi11⟩ := rangei64 pw11
      have hz := pf11 hok
      refine KO.call rfl rfl rfl rfl (val_of H11 a3 n3 n3 _ z11 (m12.vown (i := 0) rfl) (wrap64 (by omega) (by omega)) (by first | omega | assumption) (by first | omega | assumption)) fun v13 H13 q13 => ?_
      obtain ⟨o13, hv13, mc13⟩ := q13
      dsimp only at hv13 mc13
      subst hv13
      have m14 := m12.seq mc13
      refine KO.buildSliceM m14 el89_B6 ez4_B6 rfl rfl (show _ = some [.bool o13] from rfl) rfl rfl fun H15 m16 => ?_
      refine KO.appendC (C := EB) m16 (i := 2) rfl el89_B6 ez4_B6 sb4_B6 un89_B6 rfl rfl (newElems_row1 (C := EB) (y := o13) (m16.row (i := 0) rfl) rfl) rfl (by first | omega | (simp only [splice, List.length_append, List.length_set, List.length_replicate, List.length_map, List.length_take, List.length_drop, List.length_cons, List.length_nil] <;> omega)) rfl rfl fun a18 D19 H17 m20 => ?_
      refine KO.pv (PV.assign rfl) rfl rfl ?_
      refine KO.nil ?_
      refine KC.region ?_
      refine KO.pv (PV.add rfl rfl (wrap64 (by omega) (by omega))) rfl rfl ?_
      refine KO.pv (PV.move rfl) rfl rfl ?_
      refine KO.nil ?_
      exact ⟨_, _, (by omega), (.cons rfl (.cons rfl (.cons rfl (.cons rfl (.cons rfl (.cons rfl (.cons rfl (.cons rfl .nil)))))))), (i + 1), a18, (m + 1), (xs ++ [o13]), D19, rfl, rfl, (m20.pick [1, 2] (by decide) rfl), (by omega), (by omega), (by first | omega | (simp only [splice, List.length_append, List.length_set, List.length_replicate, List.length_map, List.length_take, List.length_drop, List.length_cons, List.length_nil] <;> omega))⟩
    · refine KC.exit ?_
      refine KC.seq ?_
      refine KC.region ?_
      refine KO.pv (PV.move rfl) rfl rfl ?_
      refine KO.pv (PV.assign rfl) rfl rfl ?_
      refine KO.pv (PV.assign rfl) rfl rfl ?_
      refine KO.nil ?_
      exact KC.ret ⟨rfl, _, (.tmp rfl (.tmp rfl .nil)), a, m, 0, xs, D, rfl, m9.pick [1] (by decide) rfl, (by first | omega | (intro h; omega) | (simp only [List.length_nil, true_and, and_true, or_true, true_or] <;> omega)), (by first | omega | (intro h; omega) | (simp only [List.length_nil, true_and, and_true, or_true, true_or] <;> omega) | (exact fun h => absurd h (by omega)) | (exact fun _ => hok)), (by first | omega | (intro h; omega) | (simp only [List.length_nil, true_and, and_true, or_true, true_or] <;> omega))⟩
theorem val_next1 (H : AHeap) (i : Int) (b_p : Nat) (ci : Int) (a_cL : Option Addr) (n_cL c_cL : Nat) (a_cA : Option Addr) (n_cA c_cA : Nat) (a_cB : Option Addr) (n_cB c_cB : Nat) (a_cC : Option Addr) (n_cC c_cC : Nat) (cL : List (Int × Int)) (w_i : IntKind.i64.wrap i = i) (r_p : H.row b_p = some ⟨26, true, true, [.int .i64 ci, .slice a_cL n_cL c_cL, .slice a_cA n_cA c_cA, .slice a_cB n_cB c_cB, .slice a_cC n_cC c_cC]⟩) (l_p : b_p < H.next) (h_cL : V EP H a_cL n_cL c_cL cL) (h0 : 0 ≤ i) (h1 : i < n_cL) : WF E0 214 [.int .i64 i, .pointer (some ⟨b_p, 0, none⟩)] H fun q => ∃ (z : Int), q.1 = .int .i64 z ∧ Mem [] H q.2 [] ∧ (IntKind.i64.wrap z = z) ∧ (∃ u, cL[i.toNat]? = some u ∧ z = u.1) := by
  obtain ⟨lo_i, hi_i⟩ := rangei64 w_i
  obtain ⟨len_cL, cap_cL, max_cL, wf_cL⟩ := h_cL.len
  have m0 : Mem [] H H [] := Mem.start
  refine WF.kg Tryz.func214 rfl rfl ?_
  refine KC.seq ?_
  refine KC.region ?_
  refine KO.pv (PV.assign rfl) rfl rfl ?_
  refine KO.nil ?_
  refine KC.seq ?_
  refine KC.region ?_
  refine KO.pv (PV.fieldAddr fo26_1_B6 rfl) rfl rfl ?_
  refine KO.load1 ag22_B6 rfl (m0.row0 l_p r_p) rfl rfl rfl ?_
  refine KO.pv (PV.move rfl) rfl rfl ?_
  obtain ⟨b1, o1, p1, r1, e1, ha1, hb1, hr1, hx1, hw1, hc1, ht1⟩ := V.at_ h_cL (z := i) (by omega) (by omega)
  have hc1_0 : r1.cs[o1 + (i).toNat * 2 + 0]? = some (.int .i64 e1.1) := hc1 0 (by decide)
  have hc1_1 : r1.cs[o1 + (i).toNat * 2 + 1]? = some (.int .i64 e1.2) := hc1 1 (by decide)
  obtain ⟨hwa1, hwb1⟩ := hw1
  obtain ⟨loa1, hia1⟩ := rangei64 hwa1
  obtain ⟨lob1, hib1⟩ := rangei64 hwb1
  refine KO.pv (PV.indexAddrZ un22_B6 sz147_B6 rfl ha1 rfl (by omega) (by omega)) rfl rfl ?_
  refine KO.pv (PV.fieldAddr fo147_0_B6 rfl) rfl rfl ?_
  refine KO.load1 ag3_B6 rfl (m0.row0 hb1 hr1) hc1_0 rfl rfl ?_
  refine KO.pv (PV.assign rfl) rfl rfl ?_
  refine KO.nil ?_
  exact KC.ret ⟨rfl, _, (.tmp rfl .nil), e1.1, rfl, m0.pick [] (by decide) rfl, (by first | omega | (intro h; omega) | (simp only [List.length_nil, true_and, and_true, or_true, true_or] <;> omega) | (exact hwa1)), (by first | omega | (intro h; omega) | (simp only [List.length_nil, true_and, and_true, or_true, true_or] <;> omega) | (exact ⟨_, hx1, rfl⟩))⟩
theorem val_props1 (H : AHeap) (i : Int) (b_p : Nat) (ci : Int) (a_cL : Option Addr) (n_cL c_cL : Nat) (a_cA : Option Addr) (n_cA c_cA : Nat) (a_cB : Option Addr) (n_cB c_cB : Nat) (a_cC : Option Addr) (n_cC c_cC : Nat) (cB : List Int) (w_i : IntKind.i64.wrap i = i) (r_p : H.row b_p = some ⟨26, true, true, [.int .i64 ci, .slice a_cL n_cL c_cL, .slice a_cA n_cA c_cA, .slice a_cB n_cB c_cB, .slice a_cC n_cC c_cC]⟩) (l_p : b_p < H.next) (h_cB : V (EI .i64) H a_cB n_cB c_cB cB) (h0 : 0 ≤ i) (h1 : i < n_cB) : WF E0 212 [.int .i64 i, .pointer (some ⟨b_p, 0, none⟩)] H fun q => ∃ (z : Int), q.1 = .int .i64 z ∧ Mem [] H q.2 [] ∧ (IntKind.i64.wrap z = z) ∧ (∃ u, cB[i.toNat]? = some u ∧ z = u) := by
  obtain ⟨lo_i, hi_i⟩ := rangei64 w_i
  obtain ⟨len_cB, cap_cB, max_cB, wf_cB⟩ := h_cB.len
  have m0 : Mem [] H H [] := Mem.start
  refine WF.kg Tryz.func212 rfl rfl ?_
  refine KC.seq ?_
  refine KC.region ?_
  refine KO.pv (PV.assign rfl) rfl rfl ?_
  refine KO.nil ?_
  refine KC.seq ?_
  refine KC.region ?_
  refine KO.pv (PV.fieldAddr fo26_3_B6 rfl) rfl rfl ?_
  refine KO.load1 ag24_B6 rfl (m0.row0 l_p r_p) rfl rfl rfl ?_
  refine KO.pv (PV.move rfl) rfl rfl ?_
  obtain ⟨b1, o1, p1, r1, e1, ha1, hb1, hr1, hx1, hw1, hc1, ht1⟩ := V.at_ h_cB (z := i) (by omega) (by omega)
  have hc1_0 : r1.cs[o1 + (i).toNat * 1 + 0]? = some (.int .i64 e1) := hc1 0 (by decide)
  have hw1 : IntKind.i64.wrap e1 = e1 := hw1
  obtain ⟨lo1, hi1⟩ := rangei64 hw1
  refine KO.pv (PV.indexAddrZ un24_B6 sz3_B6 rfl ha1 rfl (by omega) (by omega)) rfl rfl ?_
  refine KO.load1 ag3_B6 rfl (m0.row0 hb1 hr1) hc1_0 rfl rfl ?_
  refine KO.pv (PV.assign rfl) rfl rfl ?_
  refine KO.nil ?_
  exact KC.ret ⟨rfl, _, (.tmp rfl .nil), e1, rfl, m0.pick [] (by decide) rfl, (by first | omega | (intro h; omega) | (simp only [List.length_nil, true_and, and_true, or_true, true_or] <;> omega) | (exact hw1)), (by first | omega | (intro h; omega) | (simp only [List.length_nil, true_and, and_true, or_true, true_or] <;> omega) | (exact ⟨_, hx1, rfl⟩))⟩
theorem val_props2 (H : AHeap) (i : Int) (b_p : Nat) (ci : Int) (a_cL : Option Addr) (n_cL c_cL : Nat) (a_cA : Option Addr) (n_cA c_cA : Nat) (a_cB : Option Addr) (n_cB c_cB : Nat) (a_cC : Option Addr) (n_cC c_cC : Nat) (cC : List Int) (w_i : IntKind.i64.wrap i = i) (r_p : H.row b_p = some ⟨26, true, true, [.int .i64 ci, .slice a_cL n_cL c_cL, .slice a_cA n_cA c_cA, .slice a_cB n_cB c_cB, .slice a_cC n_cC c_cC]⟩) (l_p : b_p < H.next) (h_cC : V (EI .i64) H a_cC n_cC c_cC cC) (h0 : 0 ≤ i) (h1 : i < n_cC) : WF E0 213 [.int .i64 i, .pointer (some ⟨b_p, 0, none⟩)] H fun q => ∃ (z : Int), q.1 = .int .i64 z ∧ Mem [] H q.2 [] ∧ (IntKind.i64.wrap z = z) ∧ (∃ u, cC[i.toNat]? = some u ∧ z = u) := by
  obtain ⟨lo_i, hi_i⟩ := rangei64 w_i
  obtain ⟨len_cC, cap_cC, max_cC, wf_cC⟩ := h_cC.len
  have m0 : Mem [] H H [] := Mem.start
  refine WF.kg Tryz.func213 rfl rfl ?_
  refine KC.seq ?_
  refine KC.region ?_
  refine KO.pv (PV.assign rfl) rfl rfl ?_
  refine KO.nil ?_
  refine KC.seq ?_
  refine KC.region ?_
  refine KO.pv (PV.fieldAddr fo26_4_B6 rfl) rfl rfl ?_
  refine KO.load1 ag24_B6 rfl (m0.row0 l_p r_p) rfl rfl rfl ?_
  refine KO.pv (PV.move rfl) rfl rfl ?_
  obtain ⟨b1, o1, p1, r1, e1, ha1, hb1, hr1, hx1, hw1, hc1, ht1⟩ := V.at_ h_cC (z := i) (by omega) (by omega)
  have hc1_0 : r1.cs[o1 + (i).toNat * 1 + 0]? = some (.int .i64 e1) := hc1 0 (by decide)
  have hw1 : IntKind.i64.wrap e1 = e1 := hw1
  obtain ⟨lo1, hi1⟩ := rangei64 hw1
  refine KO.pv (PV.indexAddrZ un24_B6 sz3_B6 rfl ha1 rfl (by omega) (by omega)) rfl rfl ?_
  refine KO.load1 ag3_B6 rfl (m0.row0 hb1 hr1) hc1_0 rfl rfl ?_
  refine KO.pv (PV.assign rfl) rfl rfl ?_
  refine KO.nil ?_
  exact KC.ret ⟨rfl, _, (.tmp rfl .nil), e1, rfl, m0.pick [] (by decide) rfl, (by first | omega | (intro h; omega) | (simp only [List.length_nil, true_and, and_true, or_true, true_or] <;> omega) | (exact hw1)), (by first | omega | (intro h; omega) | (simp only [List.length_nil, true_and, and_true, or_true, true_or] <;> omega) | (exact ⟨_, hx1, rfl⟩))⟩
theorem val_Next (H : AHeap) (ci : Int) (a_cL : Option Addr) (n_cL c_cL : Nat) (cL : List (Int × Int)) (a_cA : Option Addr) (n_cA c_cA : Nat) (cA : List (Int × Int)) (a_cB : Option Addr) (n_cB c_cB : Nat) (cB : List Int) (a_cC : Option Addr) (n_cC c_cC : Nat) (cC : List Int) (a_st : Option Addr) (n_st c_st : Nat) (st : List Bool) (a_inp : Option Addr) (n_inp c_inp : Nat) (inp : List Bool) (w_ci : IntKind.i64.wrap ci = ci) (h_cL : V EP H a_cL n_cL c_cL cL) (h_cA : V EP H a_cA n_cA c_cA cA) (h_cB : V (EI .i64) H a_cB n_cB c_cB cB) (h_cC : V (EI .i64) H a_cC n_cC c_cC cC) (h_st : V EB H a_st n_st c_st st) (h_inp : V EB H a_inp n_inp c_inp inp) (bl : n_cL ≤ 300000000) : WF E0 197 [.agg #[.int .i64 ci, .slice a_cL n_cL c_cL, .slice a_cA n_cA c_cA, .slice a_cB n_cB c_cB, .slice a_cC n_cC c_cC], .slice a_st n_st c_st, .slice a_inp n_inp c_inp] H fun q => ∃ (a : Option Addr) (n : Nat) (e : Int) (xs : List Bool) (D : List Nat), q.1 = .tuple #[.slice a n n, .int .i64 e] ∧ Mem [] H q.2 [R.lst 4 1 a n (cells EB xs) D] ∧ (n ≤ n_cL) ∧ (e = 0 → CirOK ci cL cA cB cC) ∧ (0 ≤ e ∧ e ≤ 100) := by
  obtain ⟨lo_ci, hi_ci⟩ := rangei64 w_ci
  obtain ⟨len_cL, cap_cL, max_cL, wf_cL⟩ := h_cL.len
  obtain ⟨len_cA, cap_cA, max_cA, wf_cA⟩ := h_cA.len
  obtain ⟨len_cB, cap_cB, max_cB, wf_cB⟩ := h_cB.len
  obtain ⟨len_cC, cap_cC, max_cC, wf_cC⟩ := h_cC.len
  obtain ⟨len_st, cap_st, max_st, wf_st⟩ := h_st.len
  obtain ⟨len_inp, cap_inp, max_inp, wf_inp⟩ := h_inp.len
  have m0 : Mem [] H H [] := Mem.start
  refine WF.kg Tryz.func197 rfl rfl ?_
  refine KC.seq ?_
  refine KC.region ?_
  refine KO.boxM m0 rfl rfl (show _ = [.int .i64 ci, .slice a_cL n_cL c_cL, .slice a_cA n_cA c_cA, .slice a_cB n_cB c_cB, .slice a_cC n_cC c_cC] from rfl) rfl rfl fun H1 m2 => ?_
  refine KO.pv (PV.assign rfl) rfl rfl ?_
  refine KO.pv (PV.assign rfl) rfl rfl ?_
  refine KO.nil ?_
  refine KC.seq ?_
  refine KC.region ?_
  refine KO.loadN ag26_B6 sz26_B6 rfl (m2.row (i := 0) rfl) (takeN_of (p := [.int .i64 ci, .slice a_cL n_cL c_cL, .slice a_cA n_cA c_cA, .slice a_cB n_cB c_cB, .slice a_cC n_cC c_cC]) rfl rfl) rfl rfl ?_
  refine KO.pv (PV.move rfl) rfl rfl ?_
  refine KO.pv (PV.move rfl) rfl rfl ?_
  refine KO.pv (PV.fieldAddr fo26_1_B6 rfl) rfl rfl ?_
  refine KO.load1 ag22_B6 rfl (m2.row (i := 0) rfl) rfl rfl rfl ?_
  refine KO.pv (PV.len un22_B6 rfl) rfl rfl ?_
  refine KO.pv (PV.makeFunc rfl rfl) rfl rfl ?_
  refine KO.call rfl rfl rfl rfl (val_list H1 ci a_cL n_cL c_cL _ a_cA n_cA c_cA _ a_cB n_cB c_cB _ a_cC n_cC c_cC _ a_st n_st c_st _ a_inp n_inp c_inp _ (n_cL : Int) 214 [.pointer (some ⟨H.next, 0, none⟩)] (wrap64 (by omega) (by omega)) (V.mem m2 h_cL) (V.mem m2 h_cA) (V.mem m2 h_cB) (V.mem m2 h_cC) (V.mem m2 h_st) (V.mem m2 h_inp) (wrap64 (by omega) (by omega)) rfl (fun A mA i h0 h1 => (val_next1 A i H.next _ _ _ _ _ _ _ _ _ _ _ _ _ cL (wrap64 (by omega) (by omega)) (mA.row0 (m2.blt (i := 0) rfl) (m2.row (i := 0) rfl)) (Nat.lt_of_lt_of_le (m2.blt (i := 0) rfl) mA.next) (V.mem mA (V.mem m2 h_cL)) h0 (by omega)).mono fun q hq => by obtain ⟨z, h1, h2, h3, u, h4, h5⟩ := hq; exact ⟨z, h1, h2, h3, fun hok => by rw [h5]; have := hok.hl _ (List.mem_of_getElem? h4); omega⟩) (by first | omega | assumption) (by first | omega | assumption)) fun v3 H3 q3 => ?_
  obtain ⟨a3, m3, e3, xs3, D3, hv3, mc3, p3_0, p3_1, p3_2⟩ := q3
  dsimp only at hv3 mc3
  subst hv3
  have m4 := m2.seq mc3
  have ll3_0 : xs3.length = m3 := m4.lstLen (E := EB) (i := 0) rfl
  refine KO.pv (PV.extract rfl rfl) rfl rfl ?_
  refine KO.pv (PV.extract rfl rfl) rfl rfl ?_
  refine KO.pv (PV.assign rfl) rfl rfl ?_
  refine KO.pv (PV.assign rfl) rfl rfl ?_
  refine KO.nil ?_
  exact KC.ret ⟨rfl, _, (.tmp rfl (.tmp rfl .nil)), a3, m3, e3, xs3, D3, rfl, m4.pick [0] (by decide) rfl, (by first | omega | (intro h; omega) | (simp only [List.length_nil, true_and, and_true, or_true, true_or] <;> omega)), (by first | omega | (intro h; omega) | (simp only [List.length_nil, true_and, and_true, or_true, true_or] <;> omega) | assumption), (by first | omega | (intro h; omega) | (simp only [List.length_nil, true_and, and_true, or_true, true_or] <;> omega))⟩
theorem Index_bool (H : AHeap) (a_s : Option Addr) (n_s c_s : Nat) (s : List Bool) (v : Bool) (h_s : V EB H a_s n_s c_s s) : WF E0 158 [.slice a_s n_s c_s, .bool v] H fun q => ∃ (z : Int), q.1 = .int .i64 z ∧ Mem [] H q.2 [] ∧ (-1 ≤ z ∧ z < n_s) := by
  obtain ⟨len_s, cap_s, max_s, wf_s⟩ := h_s.len
  have m0 : Mem [] H H [] := Mem.start
  refine WF.kg Tryz.func158 rfl rfl ?_
  refine KC.seq ?_
  refine KC.region ?_
  refine KO.pv (PV.assign rfl) rfl rfl ?_
  refine KO.nil ?_
  refine KC.seq ?_
  refine KC.seq ?_
  refine KC.region ?_
  refine KO.pv (PV.move rfl) rfl rfl ?_
  refine KO.pv (PV.len un89_B6 rfl) rfl rfl ?_
  refine KO.pv (PV.move rfl) rfl rfl ?_
  refine KO.nil ?_
  refine KC.block ?_
  refine KC.sub (l' := [(0, .slice a_s n_s c_s), (1, .bool v), (4, .int .i64 0), (7, .int .i64 (n_s : Int)), (8, .int .i64 0)]) (.cons rfl (.cons rfl (.cons rfl (.cons rfl (.cons rfl .nil))))) ?_
  refine KC.loopN (fun kq lq A => ∃ (i : Int), kq = ((n_s : Int) - i).toNat ∧ lq = [(0, .slice a_s n_s c_s), (1, .bool v), (4, .int .i64 0), (7, .int .i64 (n_s : Int)), (8, .int .i64 i)] ∧ Mem [] H A [] ∧ (0 ≤ i ∧ i ≤ n_s)) ?_ (((n_s : Int) - 0).toNat) ⟨0, rfl, rfl, (m0.pick [] (by decide) rfl), (by omega)⟩
  rintro kq lq A1 ⟨i, rfl, rfl, m2, hi⟩
  refine KC.seq ?_
  refine KC.region ?_
  refine KO.pv (PV.lssD rfl rfl rfl) rfl rfl ?_
  refine KO.nil ?_
  refine KC.seq ?_
  refine KC.condD rfl (fun h3 => ?_) (fun h3 => ?_)
  · refine KC.skip ?_
    refine KC.seq ?_
    refine KC.block ?_
    refine KC.seq ?_
    refine KC.region ?_
    refine KO.pv (PV.move rfl) rfl rfl ?_
    refine KO.pv (PV.assign rfl) rfl rfl ?_
    refine KO.nil ?_
    refine KC.seq ?_
    refine KC.region ?_
    refine KO.pv (PV.move rfl) rfl rfl ?_
    refine KO.pv (PV.move rfl) rfl rfl ?_
    refine KO.pv (PV.move rfl) rfl rfl ?_
    obtain ⟨b4, o4, p4, r4, e4, ha4, hb4, hr4, hx4, hw4, hc4, ht4⟩ := V.at_ h_s (z := i) (by omega) (by omega)
    have hc4_0 : r4.cs[o4 + (i).toNat * 1 + 0]? = some (.bool e4) := hc4 0 (by decide)
    refine KO.pv (PV.indexAddrZ un89_B6 sz4_B6 rfl ha4 rfl (by omega) (by omega)) rfl rfl ?_
    refine KO.load1 ag4_B6 rfl (m2.row0 hb4 hr4) hc4_0 rfl rfl ?_
    obtain ⟨b5, qb5⟩ : ∃ b : Bool, (v == e4) = b := ⟨_, rfl⟩
    refine KO.pv (PV.beqB un4_B6 rfl rfl qb5) rfl rfl ?_
    refine KO.nil ?_
    refine KC.cond rfl (fun h6 => ?_) (fun h6 => ?_)
    · subst h6
      refine KC.seq ?_
      refine KC.region ?_
      refine KO.pv (PV.move rfl) rfl rfl ?_
      refine KO.pv (PV.assign rfl) rfl rfl ?_
      refine KO.nil ?_
      exact KC.ret ⟨rfl, _, (.tmp rfl .nil), i, rfl, m2.pick [] (by decide) rfl, (by first | omega | (intro h; omega) | (simp only [List.length_nil, true_and, and_true, or_true, true_or] <;> omega))⟩
    · subst h6
      refine KC.skip ?_
      refine KC.region ?_
      refine KO.pv (PV.add rfl rfl (wrap64 (by omega) (by omega))) rfl rfl ?_
      refine KO.pv (PV.move rfl) rfl rfl ?_
      refine KO.nil ?_
      exact ⟨_, _, (by omega), (.cons rfl (.cons rfl (.cons rfl (.cons rfl (.cons rfl .nil))))), (i + 1), rfl, rfl, (m2.pick [] (by decide) rfl), (by omega)⟩
  · refine KC.exit ?_
    refine KC.seq ?_
    refine KC.region ?_
    refine KO.pv (PV.assign rfl) rfl rfl ?_
    refine KO.nil ?_
    exact KC.ret ⟨rfl, _, (.tmp rfl .nil), (-1), rfl, m2.pick [] (by decide) rfl, (by first | omega | (intro h; omega) | (simp only [List.length_nil, true_and, and_true, or_true, true_or] <;> omega))⟩
theorem Contains_bool (H : AHeap) (a_s : Option Addr) (n_s c_s : Nat) (s : List Bool) (v : Bool) (h_s : V EB H a_s n_s c_s s) : WF E0 160 [.slice a_s n_s c_s, .bool v] H fun q => ∃ (o : Bool), q.1 = .bool o ∧ Mem [] H q.2 [] := by
  obtain ⟨len_s, cap_s, max_s, wf_s⟩ := h_s.len
  have m0 : Mem [] H H [] := Mem.start
  refine WF.kg Tryz.func160 rfl rfl ?_
  refine KC.seq ?_
  refine KC.region ?_
  refine KO.pv (PV.assign rfl) rfl rfl ?_
  refine KO.nil ?_
  refine KC.seq ?_
  refine KC.region ?_
  refine KO.pv (PV.move rfl) rfl rfl ?_
  refine KO.pv (PV.move rfl) rfl rfl ?_
  refine KO.call rfl rfl rfl rfl (Index_bool H a_s n_s c_s _ v (V.mem m0 h_s)) fun v1 H1 q1 => ?_
  obtain ⟨z1, hv1, mc1, p1_0⟩ := q1
  dsimp only at hv1 mc1
  subst hv1
  have m2 := m0.seq mc1
  refine KO.pv (PV.geqD rfl rfl rfl) rfl rfl ?_
  refine KO.pv (PV.assign rfl) rfl rfl ?_
  refine KO.nil ?_
  exact KC.ret ⟨rfl, _, (.tmp rfl .nil), (decide (0 ≤ z1)), rfl, m2.pick [] (by decide) rfl⟩
theorem val_Props (H : AHeap) (ci : Int) (a_cL : Option Addr) (n_cL c_cL : Nat) (cL : List (Int × Int)) (a_cA : Option Addr) (n_cA c_cA : Nat) (cA : List (Int × Int)) (a_cB : Option Addr) (n_cB c_cB : Nat) (cB : List Int) (a_cC : Option Addr) (n_cC c_cC : Nat) (cC : List Int) (a_st : Option Addr) (n_st c_st : Nat) (st : List Bool) (a_inp : Option Addr) (n_inp c_inp : Nat) (inp : List Bool) (w_ci : IntKind.i64.wrap ci = ci) (h_cL : V EP H a_cL n_cL c_cL cL) (h_cA : V EP H a_cA n_cA c_cA cA) (h_cB : V (EI .i64) H a_cB n_cB c_cB cB) (h_cC : V (EI .i64) H a_cC n_cC c_cC cC) (h_st : V EB H a_st n_st c_st st) (h_inp : V EB H a_inp n_inp c_inp inp) (bb : n_cB ≤ 300000000) (bc : n_cC ≤ 300000000) : WF E0 196 [.agg #[.int .i64 ci, .slice a_cL n_cL c_cL, .slice a_cA n_cA c_cA, .slice a_cB n_cB c_cB, .slice a_cC n_cC c_cC], .slice a_st n_st c_st, .slice a_inp n_inp c_inp] H fun q => ∃ (o : Bool) (a : Option Addr) (n : Nat) (e : Int) (xs : List Bool) (D : List Nat), q.1 = .tuple #[.bool o, .slice a n n, .int .i64 e] ∧ Mem [] H q.2 [R.lst 4 1 a n (cells EB xs) D] ∧ (n ≤ 300000000) ∧ (0 ≤ e ∧ e ≤ 100) := by
  obtain ⟨lo_ci, hi_ci⟩ := rangei64 w_ci
  obtain ⟨len_cL, cap_cL, max_cL, wf_cL⟩ := h_cL.len
  obtain ⟨len_cA, cap_cA, max_cA, wf_cA⟩ := h_cA.len
  obtain ⟨len_cB, cap_cB, max_cB, wf_cB⟩ := h_cB.len
  obtain ⟨len_cC, cap_cC, max_cC, wf_cC⟩ := h_cC.len
  obtain ⟨len_st, cap_st, max_st, wf_st⟩ := h_st.len
  obtain ⟨len_inp, cap_inp, max_inp, wf_inp⟩ := h_inp.len
  have m0 : Mem [] H H [] := Mem.start
  refine WF.kg Tryz.func196 rfl rfl ?_
  refine KC.seq ?_
  refine KC.region ?_
  refine KO.boxM m0 rfl rfl (show _ = [.int .i64 ci, .slice a_cL n_cL c_cL, .slice a_cA n_cA c_cA, .slice a_cB n_cB c_cB, .slice a_cC n_cC c_cC] from rfl) rfl rfl fun H1 m2 => ?_
  refine KO.pv (PV.assign rfl) rfl rfl ?_
  refine KO.pv (PV.assign rfl) rfl rfl ?_
  refine KO.pv (PV.assign rfl) rfl rfl ?_
  refine KO.nil ?_
  refine KC.seq ?_
  refine KC.region ?_
  refine KO.loadN ag26_B6 sz26_B6 rfl (m2.row (i := 0) rfl) (takeN_of (p := [.int .i64 ci, .slice a_cL n_cL c_cL, .slice a_cA n_cA c_cA, .slice a_cB n_cB c_cB, .slice a_cC n_cC c_cC]) rfl rfl) rfl rfl ?_
  refine KO.pv (PV.move rfl) rfl rfl ?_
  refine KO.pv (PV.move rfl) rfl rfl ?_
  refine KO.pv (PV.fieldAddr fo26_3_B6 rfl) rfl rfl ?_
  refine KO.load1 ag24_B6 rfl (m2.row (i := 0) rfl) rfl rfl rfl ?_
  refine KO.pv (PV.len un24_B6 rfl) rfl rfl ?_
  refine KO.pv (PV.makeFunc rfl rfl) rfl rfl ?_
  refine KO.call rfl rfl rfl rfl (val_list H1 ci a_cL n_cL c_cL _ a_cA n_cA c_cA _ a_cB n_cB c_cB _ a_cC n_cC c_cC _ a_st n_st c_st _ a_inp n_inp c_inp _ (n_cB : Int) 212 [.pointer (some ⟨H.next, 0, none⟩)] (wrap64 (by omega) (by omega)) (V.mem m2 h_cL) (V.mem m2 h_cA) (V.mem m2 h_cB) (V.mem m2 h_cC) (V.mem m2 h_st) (V.mem m2 h_inp) (wrap64 (by omega) (by omega)) rfl (fun A mA i h0 h1 => (val_props1 A i H.next _ _ _ _ _ _ _ _ _ _ _ _ _ cB (wrap64 (by omega) (by omega)) (mA.row0 (m2.blt (i := 0) rfl) (m2.row (i := 0) rfl)) (Nat.lt_of_lt_of_le (m2.blt (i := 0) rfl) mA.next) (V.mem mA (V.mem m2 h_cB)) h0 (by omega)).mono fun q hq => by obtain ⟨z, h1, h2, h3, u, h4, h5⟩ := hq; exact ⟨z, h1, h2, h3, fun hok => by rw [h5]; have := hok.hb _ (List.mem_of_getElem? h4); omega⟩) (by first | omega | assumption) (by first | omega | assumption)) fun v3 H3 q3 => ?_
  obtain ⟨a3, m3, e3, xs3, D3, hv3, mc3, p3_0, p3_1, p3_2⟩ := q3
  dsimp only at hv3 mc3
  subst hv3
  have m4 := m2.seq mc3
  have ll3_0 : xs3.length = m3 := m4.lstLen (E := EB) (i := 0) rfl
  refine KO.pv (PV.move rfl) rfl rfl ?_
  refine KO.pv (PV.extract rfl rfl) rfl rfl ?_
  refine KO.pv (PV.extract rfl rfl) rfl rfl ?_
  refine KO.pv (PV.assign rfl) rfl rfl ?_
  refine KO.pv (PV.assign rfl) rfl rfl ?_
  refine KO.nil ?_
  refine KC.seq ?_
  refine KC.seq ?_
  refine KC.region ?_
  refine KO.pv (PV.move rfl) rfl rfl ?_
  refine KO.pv (PV.neqD rfl rfl rfl) rfl rfl ?_
  refine KO.nil ?_
  refine KC.condD rfl (fun h5 => ?_) (fun h5 => ?_)
  · refine KC.seq ?_
    refine KC.region ?_
    refine KO.pv (PV.move rfl) rfl rfl ?_
    refine KO.pv (PV.assign rfl) rfl rfl ?_
    refine KO.pv (PV.assign rfl) rfl rfl ?_
    refine KO.pv (PV.assign rfl) rfl rfl ?_
    refine KO.nil ?_
    have m6 := m4.lnilC EB (e := 4) none rfl
    exact KC.ret ⟨rfl, _, (.tmp rfl (.tmp rfl (.tmp rfl .nil))), false, none, 0, e3, [], [], rfl, m6.pick [0] (by decide) rfl, (by first | omega | (intro h; omega) | (simp only [List.length_nil, true_and, and_true, or_true, true_or] <;> omega)), (by first | omega | (intro h; omega) | (simp only [List.length_nil, true_and, and_true, or_true, true_or] <;> omega))⟩
  · have p3_1t := p3_1 (by omega)
    obtain ⟨p3_1_i0, p3_1_al, p3_1_b, p3_1_c, p3_1_hb, p3_1_hc, p3_1_hl, p3_1_ha⟩ := id p3_1t
    refine KC.skip ?_
    refine KC.seq ?_
    refine KC.region ?_
    refine KO.loadN ag26_B6 sz26_B6 rfl (m4.row (i := 1) rfl) (takeN_of (p := [.int .i64 ci, .slice a_cL n_cL c_cL, .slice a_cA n_cA c_cA, .slice a_cB n_cB c_cB, .slice a_cC n_cC c_cC]) rfl rfl) rfl rfl ?_
    refine KO.pv (PV.move rfl) rfl rfl ?_
    refine KO.pv (PV.move rfl) rfl rfl ?_
    refine KO.pv (PV.fieldAddr fo26_4_B6 rfl) rfl rfl ?_
    refine KO.load1 ag24_B6 rfl (m4.row (i := 1) rfl) rfl rfl rfl ?_
    refine KO.pv (PV.len un24_B6 rfl) rfl rfl ?_
    refine KO.pv (PV.makeFunc rfl rfl) rfl rfl ?_
    refine KO.call rfl rfl rfl rfl (val_list H3 ci a_cL n_cL c_cL _ a_cA n_cA c_cA _ a_cB n_cB c_cB _ a_cC n_cC c_cC _ a_st n_st c_st _ a_inp n_inp c_inp _ (n_cC : Int) 213 [.pointer (some ⟨H.next, 0, none⟩)] (wrap64 (by omega) (by omega)) (V.mem m4 h_cL) (V.mem m4 h_cA) (V.mem m4 h_cB) (V.mem m4 h_cC) (V.mem m4 h_st) (V.mem m4 h_inp) (wrap64 (by omega) (by omega)) rfl (fun A mA i h0 h1 => (val_props2 A i H.next _ _ _ _ _ _ _ _ _ _ _ _ _ cC (wrap64 (by omega) (by omega)) (mA.row0 (m4.blt (i := 1) rfl) (m4.row (i := 1) rfl)) (Nat.lt_of_lt_of_le (m4.blt (i := 1) rfl) mA.next) (V.mem mA (V.mem m4 h_cC)) h0 (by omega)).mono fun q hq => by obtain ⟨z, h1, h2, h3, u, h4, h5⟩ := hq; exact ⟨z, h1, h2, h3, fun hok => by rw [h5]; have := hok.hc _ (List.mem_of_getElem? h4); omega⟩) (by first | omega | assumption) (by first | omega | assumption)) fun v7 H7 q7 => ?_
    obtain ⟨a7, m7, e7, xs7, D7, hv7, mc7, p7_0, p7_1, p7_2⟩ := q7
    dsimp only at hv7 mc7
    subst hv7
    have m8 := m4.seq mc7
    have ll7_0 : xs7.length = m7 := m8.lstLen (E := EB) (i := 0) rfl
    refine KO.pv (PV.move rfl) rfl rfl ?_
    refine KO.pv (PV.extract rfl rfl) rfl rfl ?_
    refine KO.pv (PV.extract rfl rfl) rfl rfl ?_
    refine KO.pv (PV.assign rfl) rfl rfl ?_
    refine KO.pv (PV.assign rfl) rfl rfl ?_
    refine KO.nil ?_
    refine KC.seq ?_
    refine KC.region ?_
    refine KO.pv (PV.move rfl) rfl rfl ?_
    refine KO.call rfl rfl rfl rfl (Contains_bool H7 a7 m7 m7 _ false (m8.vlst (i := 0) rfl (fun _ _ => trivial) (by first | omega | (simp only [splice, List.length_append, List.length_set, List.length_replicate, List.length_map, List.length_take, List.length_drop, List.length_cons, List.length_nil] <;> omega)))) fun v9 H9 q9 => ?_
    obtain ⟨o9, hv9, mc9⟩ := q9
    dsimp only at hv9 mc9
    subst hv9
    have m10 := m8.seq mc9
    rcases Bool.eq_false_or_eq_true o9 with h11 | h11
    · subst h11
      refine KO.pv (PV.notB rfl rfl) rfl rfl ?_
      refine KO.pv (PV.move rfl) rfl rfl ?_
      refine KO.pv (PV.move rfl) rfl rfl ?_
      refine KO.pv (PV.assign rfl) rfl rfl ?_
      refine KO.pv (PV.assign rfl) rfl rfl ?_
      refine KO.pv (PV.assign rfl) rfl rfl ?_
      refine KO.nil ?_
      exact KC.ret ⟨rfl, _, (.tmp rfl (.tmp rfl (.tmp rfl .nil))), false, a3, m3, e7, xs3, D3, rfl, m10.pick [1] (by decide) rfl, (by first | omega | (intro h; omega) | (simp only [List.length_nil, true_and, and_true, or_true, true_or] <;> omega)), (by first | omega | (intro h; omega) | (simp only [List.length_nil, true_and, and_true, or_true, true_or] <;> omega))⟩
    · subst h11
      refine KO.pv (PV.notB rfl rfl) rfl rfl ?_
      refine KO.pv (PV.move rfl) rfl rfl ?_
      refine KO.pv (PV.move rfl) rfl rfl ?_
      refine KO.pv (PV.assign rfl) rfl rfl ?_
      refine KO.pv (PV.assign rfl) rfl rfl ?_
      refine KO.pv (PV.assign rfl) rfl rfl ?_
      refine KO.nil ?_
      exact KC.ret ⟨rfl, _, (.tmp rfl (.tmp rfl (.tmp rfl .nil))), true, a3, m3, e7, xs3, D3, rfl, m10.pick [1] (by decide) rfl, (by first | omega | (intro h; omega) | (simp only [List.length_nil, true_and, and_true, or_true, true_or] <;> omega)), (by first | omega | (intro h; omega) | (simp only [List.length_nil, true_and, and_true, or_true, true_or] <;> omega))⟩
end Go.Eng
