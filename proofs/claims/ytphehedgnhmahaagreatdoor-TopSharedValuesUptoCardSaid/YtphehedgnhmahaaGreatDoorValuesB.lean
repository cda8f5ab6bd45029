/- TopSharedValues answers true on the interpreter. Conditions: none beyond each theorem's own. -/
import Derived.Test.YtphehedgnhmahaaGreatDoorGates
import Derived.Test.YtphehedgnhmahaaGreatDoorValuesA
import Derived.KernelRfl
namespace Go.Eng
open Go Go.Proofs
theorem val_of (H : AHeap) (a_v : Option Addr) (n_v c_v : Nat) (v : List Bool) (l : Int) (h_v : V EB H a_v n_v c_v v) (w_l : IntKind.i64.wrap l = l) (h0 : 0 ≤ l) (h1 : l / 2 < n_v) : WF E0 119 [.slice a_v n_v c_v, .int .i64 l] H fun q => ∃ (o : Bool), q.1 = .bool o ∧ Mem [] H q.2 [] := by
  obtain ⟨len_v, cap_v, max_v, wf_v⟩ := h_v.len
  obtain ⟨lo_l, hi_l⟩ := rangei64 w_l
  have m0 : Mem [] H H [] := Mem.start
  refine WF.kg Tryz.func119 rfl rfl ?_
  refine KC.seq ?_
  refine KC.region ?_
  refine KO.pv (PV.assign rfl) rfl rfl ?_
  refine KO.nil ?_
  refine KC.seq ?_
  refine KC.region ?_
  refine KO.pv (PV.move rfl) rfl rfl ?_
  refine KO.pv (PV.move rfl) rfl rfl ?_
  refine KO.pv (PV.shr1 rfl rfl rfl) rfl rfl ?_
  obtain ⟨b1, o1, p1, r1, e1, ha1, hb1, hr1, hx1, hw1, hc1, ht1⟩ := V.at_ h_v (z := (l / 2)) (by omega) (by omega)
  have hc1_0 : r1.cs[o1 + ((l / 2)).toNat * 1 + 0]? = some (.bool e1) := hc1 0 (by decide)
  refine KO.pv (PV.indexAddrZ un50 sz4 rfl ha1 rfl (by omega) (by omega)) rfl rfl ?_
  refine KO.load1 ag4 rfl (m0.row0 hb1 hr1) hc1_0 rfl rfl ?_
  refine KO.pv (PV.move rfl) rfl rfl ?_
  refine KO.pv (PV.and1 rfl rfl (by omega) (by omega)) rfl rfl ?_
  refine KO.pv (PV.eqlD rfl rfl rfl) rfl rfl ?_
  obtain ⟨b2, qb2⟩ : ∃ b : Bool, (e1 != (decide ((l % 2) = 1))) = b := ⟨_, rfl⟩
  refine KO.pv (PV.bneqB un4 rfl rfl qb2) rfl rfl ?_
  refine KO.pv (PV.assign rfl) rfl rfl ?_
  refine KO.nil ?_
  exact KC.ret ⟨rfl, _, (.tmp rfl .nil), b2, rfl, m0.pick [] (by decide) rfl⟩
theorem val_Of (H : AHeap) (a_v : Option Addr) (n_v c_v : Nat) (v : List Bool) (l : Int) (h_v : V EB H a_v n_v c_v v) (w_l : IntKind.i64.wrap l = l) : WF E0 33 [.slice a_v n_v c_v, .int .i64 l] H fun q => ∃ (o : Bool) (e : Int), q.1 = .tuple #[.bool o, .int .i64 e] ∧ Mem [] H q.2 [] := by
  obtain ⟨len_v, cap_v, max_v, wf_v⟩ := h_v.len
  obtain ⟨lo_l, hi_l⟩ := rangei64 w_l
  have m0 : Mem [] H H [] := Mem.start
  refine WF.kg Tryz.func33 rfl rfl ?_
  refine KC.seq ?_
  refine KC.region ?_
  refine KO.pv (PV.assign rfl) rfl rfl ?_
  refine KO.pv (PV.assign rfl) rfl rfl ?_
  refine KO.nil ?_
  refine KC.seq ?_
  refine KC.seq ?_
  refine KC.region ?_
  refine KO.pv (PV.move rfl) rfl rfl ?_
  by_cases h1 : l < 0
  · refine KO.pv (PV.lssD rfl rfl (decide_eq_true h1)) rfl rfl ?_
    refine KO.pv (PV.move rfl) rfl rfl ?_
    refine KO.no rfl rfl rfl ?_
    refine KO.no rfl rfl rfl ?_
    refine KO.no rfl rfl rfl ?_
    refine KO.no rfl rfl rfl ?_
    refine KO.no rfl rfl rfl ?_
    refine KO.pv (PV.pickT rfl rfl rfl) rfl rfl ?_
    refine KO.nil ?_
    refine KC.condT rfl ?_
    refine KC.seq ?_
    refine KC.region ?_
    refine KO.pv (PV.assign rfl) rfl rfl ?_
    refine KO.pv (PV.assign rfl) rfl rfl ?_
    refine KO.nil ?_
    exact KC.ret ⟨rfl, _, (.tmp rfl (.tmp rfl .nil)), false, 2, rfl, m0.pick [] (by decide) rfl⟩
  · refine KO.pv (PV.lssD rfl rfl (decide_eq_false h1)) rfl rfl ?_
    refine KO.pv (PV.move rfl) rfl rfl ?_
    refine KO.pv (PV.move rfl) rfl rfl ?_
    refine KO.pv (PV.shr1 rfl rfl rfl) rfl rfl ?_
    refine KO.pv (PV.move rfl) rfl rfl ?_
    refine KO.pv (PV.len un50 rfl) rfl rfl ?_
    refine KO.pv (PV.geqD rfl rfl rfl) rfl rfl ?_
    refine KO.pv (PV.pickF rfl rfl rfl) rfl rfl ?_
    refine KO.nil ?_
    refine KC.condD rfl (fun h2 => ?_) (fun h2 => ?_)
    · refine KC.seq ?_
      refine KC.region ?_
      refine KO.pv (PV.assign rfl) rfl rfl ?_
      refine KO.pv (PV.assign rfl) rfl rfl ?_
      refine KO.nil ?_
      exact KC.ret ⟨rfl, _, (.tmp rfl (.tmp rfl .nil)), false, 2, rfl, m0.pick [] (by decide) rfl⟩
    · refine KC.skip ?_
      refine KC.seq ?_
      refine KC.region ?_
      refine KO.pv (PV.move rfl) rfl rfl ?_
      refine KO.pv (PV.move rfl) rfl rfl ?_
      refine KO.call rfl rfl rfl rfl (val_of H a_v n_v c_v _ l (V.mem m0 h_v) (wrap64 (by omega) (by omega)) (by first | omega | assumption) (by first | omega | assumption)) fun v3 H3 q3 => ?_
      obtain ⟨o3, hv3, mc3⟩ := q3
      dsimp only at hv3 mc3
      subst hv3
      have m4 := m0.seq mc3
      refine KO.pv (PV.assign rfl) rfl rfl ?_
      refine KO.pv (PV.assign rfl) rfl rfl ?_
      refine KO.nil ?_
      exact KC.ret ⟨rfl, _, (.tmp rfl (.tmp rfl .nil)), o3, 0, rfl, m4.pick [] (by decide) rfl⟩
theorem val_All (H : AHeap) (ci : Int) (a_cL : Option Addr) (n_cL c_cL : Nat) (cL : List (Int × Int)) (a_cA : Option Addr) (n_cA c_cA : Nat) (cA : List (Int × Int)) (a_cB : Option Addr) (n_cB c_cB : Nat) (cB : List Int) (a_cC : Option Addr) (n_cC c_cC : Nat) (cC : List Int) (a_st : Option Addr) (n_st c_st : Nat) (st : List Bool) (a_inp : Option Addr) (n_inp c_inp : Nat) (inp : List Bool) (w_ci : IntKind.i64.wrap ci = ci) (h_cL : V EP H a_cL n_cL c_cL cL) (h_cA : V EP H a_cA n_cA c_cA cA) (h_cB : V (EI .i64) H a_cB n_cB c_cB cB) (h_cC : V (EI .i64) H a_cC n_cC c_cC cC) (h_st : V EB H a_st n_st c_st st) (h_inp : V EB H a_inp n_inp c_inp inp) : WF E0 23 [.agg #[.int .i64 ci, .slice a_cL n_cL c_cL, .slice a_cA n_cA c_cA, .slice a_cB n_cB c_cB, .slice a_cC n_cC c_cC], .slice a_st n_st c_st, .slice a_inp n_inp c_inp] H fun q => ∃ (a : Option Addr) (n : Nat) (e : Int) (xs : List Bool) (D : List Nat), q.1 = .tuple #[.slice a n n, .int .i64 e] ∧ Mem [] H q.2 [R.own EB a n n xs D] ∧ (n ≤ 2000) ∧ (e = 0 → CirOK ci cL cA cB cC ∧ (n : Int) = 1 + ci + n_cL + n_cA) ∧ (0 ≤ e ∧ e ≤ 100) := by
  obtain ⟨lo_ci, hi_ci⟩ := rangei64 w_ci
  obtain ⟨len_cL, cap_cL, max_cL, wf_cL⟩ := h_cL.len
  obtain ⟨len_cA, cap_cA, max_cA, wf_cA⟩ := h_cA.len
  obtain ⟨len_cB, cap_cB, max_cB, wf_cB⟩ := h_cB.len
  obtain ⟨len_cC, cap_cC, max_cC, wf_cC⟩ := h_cC.len
  obtain ⟨len_st, cap_st, max_st, wf_st⟩ := h_st.len
  obtain ⟨len_inp, cap_inp, max_inp, wf_inp⟩ := h_inp.len
  have m0 : Mem [] H H [] := Mem.start
  refine WF.kg Tryz.func23 rfl rfl ?_
  refine KC.seq ?_
  refine KC.region ?_
  refine KO.boxM m0 rfl rfl (show _ = [.int .i64 ci, .slice a_cL n_cL c_cL, .slice a_cA n_cA c_cA, .slice a_cB n_cB c_cB, .slice a_cC n_cC c_cC] from rfl) rfl rfl fun H1 m2 => ?_
  refine KO.pv (PV.assign rfl) rfl rfl ?_
  refine KO.pv (PV.assign rfl) rfl rfl ?_
  refine KO.nil ?_
  refine KC.seq ?_
  refine KC.region ?_
  refine KO.loadN ag49 sz49 rfl (m2.row (i := 0) rfl) (takeN_of (p := [.int .i64 ci, .slice a_cL n_cL c_cL, .slice a_cA n_cA c_cA, .slice a_cB n_cB c_cB, .slice a_cC n_cC c_cC]) rfl rfl) rfl rfl ?_
  refine KO.call rfl rfl rfl rfl (gates_Vars H1 ci a_cL n_cL c_cL _ a_cA n_cA c_cA _ a_cB n_cB c_cB _ a_cC n_cC c_cC _ (wrap64 (by omega) (by omega)) (V.mem m2 h_cL) (V.mem m2 h_cA) (V.mem m2 h_cB) (V.mem m2 h_cC)) fun v3 H3 q3 => ?_
  obtain ⟨n3, e3, hv3, mc3, p3_0, p3_1⟩ := q3
  dsimp only at hv3 mc3
  subst hv3
  have m4 := m2.seq mc3
  refine KO.pv (PV.move rfl) rfl rfl ?_
  refine KO.pv (PV.extract rfl rfl) rfl rfl ?_
  refine KO.pv (PV.extract rfl rfl) rfl rfl ?_
  refine KO.pv (PV.assign rfl) rfl rfl ?_
  refine KO.pv (PV.assign rfl) rfl rfl ?_
  refine KO.nil ?_
  refine KC.seq ?_
  refine KC.seq ?_
  refine KC.region ?_
  refine KO.pv (PV.move rfl) rfl rfl ?_
  refine KO.pv (PV.neqD rfl rfl rfl) rfl rfl ?_
  refine KO.nil ?_
  refine KC.condD rfl (fun h5 => ?_) (fun h5 => ?_)
  · refine KC.seq ?_
    refine KC.region ?_
    refine KO.pv (PV.move rfl) rfl rfl ?_
    refine KO.pv (PV.assign rfl) rfl rfl ?_
    refine KO.pv (PV.assign rfl) rfl rfl ?_
    refine KO.nil ?_
    have m6 := m4.ownNil (C := EB)
    exact KC.ret ⟨rfl, _, (.tmp rfl (.tmp rfl .nil)), none, 0, e3, [], [], rfl, m6.pick [0] (by decide) rfl, (by first | omega | (intro h; omega)), (by first | omega | (intro h; omega) | (exact fun h => absurd h (by omega)) | (exact fun _ => ⟨hok, by omega⟩)), (by first | omega | (intro h; omega))⟩
  · obtain ⟨hok, hn⟩ := p3_0 (by omega)
    obtain ⟨k1, k2, k3, k4, k5, k6, k7, k8⟩ := id hok
    refine KC.skip ?_
    refine KC.seq ?_
    refine KC.seq ?_
    refine KC.region ?_
    refine KO.pv (PV.move rfl) rfl rfl ?_
    refine KO.pv (PV.len un50 rfl) rfl rfl ?_
    refine KO.pv (PV.fieldAddr fo49_1 rfl) rfl rfl ?_
    refine KO.load1 ag46 rfl (m4.row (i := 0) rfl) rfl rfl rfl ?_
    refine KO.pv (PV.len un46 rfl) rfl rfl ?_
    by_cases h7 : (n_st : Int) ≠ (n_cL : Int)
    · refine KO.pv (PV.neqD rfl rfl (decide_eq_true h7)) rfl rfl ?_
      refine KO.pv (PV.move rfl) rfl rfl ?_
      refine KO.no rfl rfl rfl ?_
      refine KO.no rfl rfl rfl ?_
      refine KO.no rfl rfl rfl ?_
      refine KO.no rfl rfl rfl ?_
      refine KO.no rfl rfl rfl ?_
      refine KO.pv (PV.pickT rfl rfl rfl) rfl rfl ?_
      refine KO.nil ?_
      refine KC.condT rfl ?_
      refine KC.seq ?_
      refine KC.region ?_
      refine KO.pv (PV.assign rfl) rfl rfl ?_
      refine KO.pv (PV.assign rfl) rfl rfl ?_
      refine KO.nil ?_
      have m8 := m4.ownNil (C := EB)
      exact KC.ret ⟨rfl, _, (.tmp rfl (.tmp rfl .nil)), none, 0, 2, [], [], rfl, m8.pick [0] (by decide) rfl, (by first | omega | (intro h; omega)), (by first | omega | (intro h; omega) | (exact fun h => absurd h (by omega)) | (exact fun _ => ⟨hok, by omega⟩)), (by first | omega | (intro h; omega))⟩
    · refine KO.pv (PV.neqD rfl rfl (decide_eq_false h7)) rfl rfl ?_
      refine KO.pv (PV.move rfl) rfl rfl ?_
      refine KO.pv (PV.move rfl) rfl rfl ?_
      refine KO.pv (PV.len un50 rfl) rfl rfl ?_
      refine KO.pv (PV.fieldAddr fo49_0 rfl) rfl rfl ?_
      refine KO.load1 ag3 rfl (m4.row (i := 0) rfl) rfl rfl rfl ?_
      refine KO.pv (PV.neqD rfl rfl rfl) rfl rfl ?_
      refine KO.pv (PV.pickF rfl rfl rfl) rfl rfl ?_
      refine KO.nil ?_
      refine KC.condD rfl (fun h9 => ?_) (fun h9 => ?_)
      · refine KC.seq ?_
        refine KC.region ?_
        refine KO.pv (PV.assign rfl) rfl rfl ?_
        refine KO.pv (PV.assign rfl) rfl rfl ?_
        refine KO.nil ?_
        have m10 := m4.ownNil (C := EB)
        exact KC.ret ⟨rfl, _, (.tmp rfl (.tmp rfl .nil)), none, 0, 2, [], [], rfl, m10.pick [0] (by decide) rfl, (by first | omega | (intro h; omega)), (by first | omega | (intro h; omega) | (exact fun h => absurd h (by omega)) | (exact fun _ => ⟨hok, by omega⟩)), (by first | omega | (intro h; omega))⟩
      · refine KC.skip ?_
        refine KC.seq ?_
        refine KC.region ?_
        refine KO.pv (PV.move rfl) rfl rfl ?_
        refine KO.pv (PV.add rfl rfl (wrap64 (by omega) (by omega))) rfl rfl ?_
        refine KO.makeSliceM (C := EB) false m4 el50 ez4 sb4 rfl rfl (by omega) (by omega) (by omega) rfl rfl fun H11 m12 => ?_
        refine KO.pv (PV.assign rfl) rfl rfl ?_
        refine KO.nil ?_
        refine KC.seq ?_
        refine KC.region ?_
        refine KO.pv (PV.move rfl) rfl rfl ?_
        refine KO.pv (PV.slice rfl (fun _ h => by cases h; exact ⟨_, rfl, rfl⟩) (fun h => by cases h) (fun _ h => by cases h) (fun _ => rfl) (fun _ h => by cases h) (fun _ => rfl) (sliceP un50 sz4 rfl rfl (boundA_int (by omega) (by omega)) rfl)) rfl rfl ?_
        refine KO.pv (PV.move rfl) rfl rfl ?_
        refine KO.copyP (C := EB) (l0 := 1) (m0 := (((n3 + 1)).toNat)) m12 (i := 0) rfl (V.mem m12 h_inp) el50 sz4 rfl rfl (by omega) (by first | omega | (simp only [splice, List.length_append, List.length_set, List.length_replicate, List.length_map, List.length_take, List.length_drop, List.length_cons, List.length_nil]; omega)) (by omega) rfl rfl fun H13 m14 => ?_
        refine KO.pv (PV.add rfl rfl (wrap64 (by omega) (by omega))) rfl rfl ?_
        refine KO.pv (PV.assign rfl) rfl rfl ?_
        refine KO.nil ?_
        refine KC.seq ?_
        refine KC.region ?_
        refine KO.pv (PV.move rfl) rfl rfl ?_
        refine KO.pv (PV.move rfl) rfl rfl ?_
        refine KO.pv (PV.move rfl) rfl rfl ?_
        refine KO.pv (PV.move rfl) rfl rfl ?_
        refine KO.pv (PV.len un50 rfl) rfl rfl ?_
        refine KO.pv (PV.add rfl rfl (wrap64 (by omega) (by omega))) rfl rfl ?_
        refine KO.pv (PV.move rfl) rfl rfl ?_
        refine KO.pv (PV.move rfl) rfl rfl ?_
        refine KO.pv (PV.len un50 rfl) rfl rfl ?_
        refine KO.pv (PV.add rfl rfl (wrap64 (by omega) (by omega))) rfl rfl ?_
        refine KO.pv (PV.slice rfl (fun _ h => by cases h; exact ⟨_, rfl, rfl⟩) (fun h => by cases h) (fun _ h => by cases h; exact ⟨_, rfl, rfl⟩) (fun h => by cases h) (fun _ h => by cases h; exact ⟨_, rfl, rfl⟩) (fun h => by cases h) (sliceP un50 sz4 (boundA_int (by omega) (by omega)) (boundA_int (by omega) (by omega)) (boundA_int (by omega) (by omega)) rfl)) rfl rfl ?_
        refine KO.pv (PV.move rfl) rfl rfl ?_
        refine KO.copyP (C := EB) (l0 := (((1 + (n_inp : Int))).toNat)) (m0 := ((((1 + (n_inp : Int)) + (n_st : Int))).toNat)) m14 (i := 0) rfl (V.mem m14 h_st) el50 sz4 rfl rfl (by omega) (by first | omega | (simp only [splice, List.length_append, List.length_set, List.length_replicate, List.length_map, List.length_take, List.length_drop, List.length_cons, List.length_nil]; omega)) (by omega) rfl rfl fun H15 m16 => ?_
        refine KO.nil ?_
        refine KC.seq ?_
        refine KC.region ?_
        refine KO.pv (PV.move rfl) rfl rfl ?_
        refine KO.pv (PV.move rfl) rfl rfl ?_
        refine KO.pv (PV.len un50 rfl) rfl rfl ?_
        refine KO.pv (PV.add rfl rfl (wrap64 (by omega) (by omega))) rfl rfl ?_
        refine KO.pv (PV.assign rfl) rfl rfl ?_
        refine KO.nil ?_
        refine KC.seq ?_
        refine KC.seq ?_
        refine KC.region ?_
        refine KO.pv (PV.fieldAddr fo49_2 rfl) rfl rfl ?_
        refine KO.load1 ag47 rfl (m16.row (i := 1) rfl) rfl rfl rfl ?_
        refine KO.pv (PV.len un47 rfl) rfl rfl ?_
        refine KO.pv (PV.move rfl) rfl rfl ?_
        refine KO.nil ?_
        refine KC.block ?_
        refine KC.sub (l' := [(3, .pointer (some ⟨H.next, 0, none⟩)), (6, .slice none 0 0), (7, .int .i64 0), (10, .slice (some ⟨H3.next, 0, none⟩) (((n3 + 1)).toNat) (((n3 + 1)).toNat)), (11, .int .i64 ((1 + (n_inp : Int)) + (n_st : Int))), (19, .bool (decide (e3 ≠ 0))), (33, .bool (decide ((n_inp : Int) ≠ ci))), (61, .int .i64 (n_cA : Int)), (62, .int .i64 0)]) (.cons rfl (.cons rfl (.cons rfl (.cons rfl (.cons rfl (.cons rfl (.cons rfl (.cons rfl (.cons rfl .nil))))))))) ?_
        refine KC.loopN (fun k l A => ∃ (i : Int) (xs : List Bool), k = ((n_cA : Int) - i).toNat ∧ l = [(3, .pointer (some ⟨H.next, 0, none⟩)), (6, .slice none 0 0), (7, .int .i64 0), (10, .slice (some ⟨H3.next, 0, none⟩) (((n3 + 1)).toNat) (((n3 + 1)).toNat)), (11, .int .i64 ((1 + (n_inp : Int)) + (n_st : Int))), (19, .bool (decide (e3 ≠ 0))), (33, .bool (decide ((n_inp : Int) ≠ ci))), (61, .int .i64 (n_cA : Int)), (62, .int .i64 i)] ∧ Mem [] H A [R.row H.next 49 true [.int .i64 ci, .slice a_cL n_cL c_cL, .slice a_cA n_cA c_cA, .slice a_cB n_cB c_cB, .slice a_cC n_cC c_cC], R.row H3.next 4 true (cells EB xs)] ∧ (0 ≤ i ∧ i ≤ n_cA) ∧ (xs.length = ((n3 + 1)).toNat)) ?_ (((n_cA : Int) - 0).toNat) ⟨0, (splice (splice (List.replicate (((n3 + 1)).toNat) false) 1 inp) (((1 + (n_inp : Int))).toNat) st), rfl, rfl, (m16.pick [1, 0] (by decide) rfl), (by omega), (by first | omega | (simp only [splice, List.length_append, List.length_set, List.length_replicate, List.length_map, List.length_take, List.length_drop, List.length_cons, List.length_nil]; omega))⟩
        rintro k l A17 ⟨i, xs, rfl, rfl, m18, hi, hxl⟩
        refine KC.seq ?_
        refine KC.region ?_
        refine KO.pv (PV.lssD rfl rfl rfl) rfl rfl ?_
        refine KO.nil ?_
        refine KC.seq ?_
        refine KC.condD rfl (fun h19 => ?_) (fun h19 => ?_)
        · refine KC.skip ?_
          refine KC.seq ?_
          refine KC.block ?_
          refine KC.seq ?_
          refine KC.region ?_
          refine KO.pv (PV.move rfl) rfl rfl ?_
          refine KO.pv (PV.assign rfl) rfl rfl ?_
          refine KO.nil ?_
          refine KC.region ?_
          refine KO.pv (PV.move rfl) rfl rfl ?_
          refine KO.pv (PV.move rfl) rfl rfl ?_
          refine KO.pv (PV.move rfl) rfl rfl ?_
          refine KO.pv (PV.add rfl rfl (wrap64 (by omega) (by omega))) rfl rfl ?_
          refine KO.pv (PV.move rfl) rfl rfl ?_
          refine KO.pv (PV.fieldAddr fo49_2 rfl) rfl rfl ?_
          refine KO.load1 ag47 rfl (m18.row (i := 0) rfl) rfl rfl rfl ?_
          refine KO.pv (PV.move rfl) rfl rfl ?_
          obtain ⟨b20, o20, p20, r20, e20, ha20, hb20, hr20, hx20, hw20, hc20, ht20⟩ := V.at_ h_cA (z := i) (by omega) (by omega)
          have hc20_0 : r20.cs[o20 + (i).toNat * 2 + 0]? = some (.int .i64 e20.1) := hc20 0 (by decide)
          have hc20_1 : r20.cs[o20 + (i).toNat * 2 + 1]? = some (.int .i64 e20.2) := hc20 1 (by decide)
          obtain ⟨hwa20, hwb20⟩ := hw20
          obtain ⟨loa20, hia20⟩ := rangei64 hwa20
          obtain ⟨lob20, hib20⟩ := rangei64 hwb20
          refine KO.pv (PV.indexAddrZ un47 sz164 rfl ha20 rfl (by omega) (by omega)) rfl rfl ?_
          have hg20 := k8 _ _ hx20
          refine KO.pv (PV.fieldAddr fo164_0 rfl) rfl rfl ?_
          refine KO.load1 ag3 rfl (m18.row0 hb20 hr20) hc20_0 rfl rfl ?_
          refine KO.call rfl rfl rfl rfl (val_of A17 (some ⟨H3.next, 0, none⟩) (((n3 + 1)).toNat) (((n3 + 1)).toNat) _ e20.1 (m18.vrow (i := 1) rfl (fun _ _ => trivial) (by first | omega | (simp only [splice, List.length_append, List.length_set, List.length_replicate, List.length_map, List.length_take, List.length_drop, List.length_cons, List.length_nil]; omega)) (by omega) (by omega)) (wrap64 (by omega) (by omega)) (by first | omega | assumption) (by first | omega | assumption)) fun v21 H21 q21 => ?_
          obtain ⟨o21, hv21, mc21⟩ := q21
          dsimp only at hv21 mc21
          subst hv21
          have m22 := m18.seq mc21
          refine KO.pv (PV.move rfl) rfl rfl ?_
          rcases Bool.eq_false_or_eq_true o21 with h23 | h23
          · subst h23
            refine KO.pv (PV.move rfl) rfl rfl ?_
            refine KO.pv (PV.fieldAddr fo49_2 rfl) rfl rfl ?_
            refine KO.load1 ag47 rfl (m22.row (i := 0) rfl) rfl rfl rfl ?_
            refine KO.pv (PV.move rfl) rfl rfl ?_
            obtain ⟨b24, o24, p24, r24, e24, ha24, hb24, hr24, hx24, hw24, hc24, ht24⟩ := V.at_ h_cA (z := i) (by omega) (by omega)
            have hc24_0 : r24.cs[o24 + (i).toNat * 2 + 0]? = some (.int .i64 e24.1) := hc24 0 (by decide)
            have hc24_1 : r24.cs[o24 + (i).toNat * 2 + 1]? = some (.int .i64 e24.2) := hc24 1 (by decide)
            obtain ⟨hwa24, hwb24⟩ := hw24
            obtain ⟨loa24, hia24⟩ := rangei64 hwa24
            obtain ⟨lob24, hib24⟩ := rangei64 hwb24
            refine KO.pv (PV.indexAddrZ un47 sz164 rfl ha24 rfl (by omega) (by omega)) rfl rfl ?_
            have hg24 := k8 _ _ hx24
            refine KO.pv (PV.fieldAddr fo164_1 rfl) rfl rfl ?_
            refine KO.load1 ag3 rfl (m22.row0 hb24 hr24) hc24_1 rfl rfl ?_
            refine KO.call rfl rfl rfl rfl (val_of H21 (some ⟨H3.next, 0, none⟩) (((n3 + 1)).toNat) (((n3 + 1)).toNat) _ e24.2 (m22.vrow (i := 1) rfl (fun _ _ => trivial) (by first | omega | (simp only [splice, List.length_append, List.length_set, List.length_replicate, List.length_map, List.length_take, List.length_drop, List.length_cons, List.length_nil]; omega)) (by omega) (by omega)) (wrap64 (by omega) (by omega)) (by first | omega | assumption) (by first | omega | assumption)) fun v25 H25 q25 => ?_
            obtain ⟨o25, hv25, mc25⟩ := q25
            dsimp only at hv25 mc25
            subst hv25
            have m26 := m22.seq mc25
            refine KO.pv (PV.pickT rfl rfl rfl) rfl rfl ?_
            refine KO.pv (PV.indexAddrZ un50 sz4 rfl rfl rfl (by omega) (by omega)) rfl rfl ?_
            refine KO.storeM m26 (i := 1) rfl sz4 rfl rfl rfl (cells_room (C := EB) (xs := xs) (i := ((((1 + (n_inp : Int)) + (n_st : Int)) + i)).toNat) (by first | omega | (simp only [splice, List.length_append, List.length_set, List.length_replicate, List.length_map, List.length_take, List.length_drop, List.length_cons, List.length_nil]; omega)) rfl) (cells_put0 (C := EB) (xs := xs) (i := ((((1 + (n_inp : Int)) + (n_st : Int)) + i)).toNat) o25 (by first | omega | (simp only [splice, List.length_append, List.length_set, List.length_replicate, List.length_map, List.length_take, List.length_drop, List.length_cons, List.length_nil]; omega))) rfl fun H28 m29 => ?_
            refine KO.nil ?_
            refine KC.region ?_
            refine KO.pv (PV.add rfl rfl (wrap64 (by omega) (by omega))) rfl rfl ?_
            refine KO.pv (PV.move rfl) rfl rfl ?_
            refine KO.nil ?_
            exact ⟨_, _, (by omega), (.cons rfl (.cons rfl (.cons rfl (.cons rfl (.cons rfl (.cons rfl (.cons rfl (.cons rfl (.cons rfl .nil))))))))), (i + 1), (xs.set (((((1 + (n_inp : Int)) + (n_st : Int)) + i)).toNat) o25), rfl, rfl, (m29.pick [0, 1] (by decide) rfl), (by omega), (by first | omega | (simp only [splice, List.length_append, List.length_set, List.length_replicate, List.length_map, List.length_take, List.length_drop, List.length_cons, List.length_nil]; omega))⟩
          · subst h23
            refine KO.no rfl rfl rfl ?_
            refine KO.no rfl rfl rfl ?_
            refine KO.no rfl rfl rfl ?_
            refine KO.no rfl rfl rfl ?_
            refine KO.no rfl rfl rfl ?_
            refine KO.no rfl rfl rfl ?_
            refine KO.no rfl rfl rfl ?_
            refine KO.no rfl rfl rfl ?_
            refine KO.pv (PV.pickF rfl rfl rfl) rfl rfl ?_
            refine KO.pv (PV.indexAddrZ un50 sz4 rfl rfl rfl (by omega) (by omega)) rfl rfl ?_
            refine KO.storeM m22 (i := 1) rfl sz4 rfl rfl rfl (cells_room (C := EB) (xs := xs) (i := ((((1 + (n_inp : Int)) + (n_st : Int)) + i)).toNat) (by first | omega | (simp only [splice, List.length_append, List.length_set, List.length_replicate, List.length_map, List.length_take, List.length_drop, List.length_cons, List.length_nil]; omega)) rfl) (cells_put0 (C := EB) (xs := xs) (i := ((((1 + (n_inp : Int)) + (n_st : Int)) + i)).toNat) false (by first | omega | (simp only [splice, List.length_append, List.length_set, List.length_replicate, List.length_map, List.length_take, List.length_drop, List.length_cons, List.length_nil]; omega))) rfl fun H31 m32 => ?_
            refine KO.nil ?_
            refine KC.region ?_
            refine KO.pv (PV.add rfl rfl (wrap64 (by omega) (by omega))) rfl rfl ?_
            refine KO.pv (PV.move rfl) rfl rfl ?_
            refine KO.nil ?_
            exact ⟨_, _, (by omega), (.cons rfl (.cons rfl (.cons rfl (.cons rfl (.cons rfl (.cons rfl (.cons rfl (.cons rfl (.cons rfl .nil))))))))), (i + 1), (xs.set (((((1 + (n_inp : Int)) + (n_st : Int)) + i)).toNat) false), rfl, rfl, (m32.pick [0, 1] (by decide) rfl), (by omega), (by first | omega | (simp only [splice, List.length_append, List.length_set, List.length_replicate, List.length_map, List.length_take, List.length_drop, List.length_cons, List.length_nil]; omega))⟩
        · refine KC.exit ?_
          refine KC.seq ?_
          refine KC.region ?_
          refine KO.pv (PV.move rfl) rfl rfl ?_
          refine KO.pv (PV.assign rfl) rfl rfl ?_
          refine KO.pv (PV.assign rfl) rfl rfl ?_
          refine KO.nil ?_
          have m33 := m18.ownRow (C := EB) (i := 1) (sp := none) (n := (((n3 + 1)).toNat)) (c := (((n3 + 1)).toNat)) rfl (fun _ _ => trivial) (by first | omega | (simp only [splice, List.length_append, List.length_set, List.length_replicate, List.length_map, List.length_take, List.length_drop, List.length_cons, List.length_nil]; omega)) (by omega) (by omega)
          exact KC.ret ⟨rfl, _, (.tmp rfl (.tmp rfl .nil)), (some ⟨H3.next, 0, none⟩), (((n3 + 1)).toNat), 0, xs, [H3.next], rfl, m33.pick [1] (by decide) rfl, (by first | omega | (intro h; omega)), (by first | omega | (intro h; omega) | (exact fun h => absurd h (by omega)) | (exact fun _ => ⟨hok, by omega⟩)), (by first | omega | (intro h; omega))⟩
theorem val_list (H : AHeap) (ci : Int) (a_cL : Option Addr) (n_cL c_cL : Nat) (cL : List (Int × Int)) (a_cA : Option Addr) (n_cA c_cA : Nat) (cA : List (Int × Int)) (a_cB : Option Addr) (n_cB c_cB : Nat) (cB : List Int) (a_cC : Option Addr) (n_cC c_cC : Nat) (cC : List Int) (a_st : Option Addr) (n_st c_st : Nat) (st : List Bool) (a_inp : Option Addr) (n_inp c_inp : Nat) (inp : List Bool) (n : Int) (g_f : FuncId) (cap_f : List Value) (w_ci : IntKind.i64.wrap ci = ci) (h_cL : V EP H a_cL n_cL c_cL cL) (h_cA : V EP H a_cA n_cA c_cA cA) (h_cB : V (EI .i64) H a_cB n_cB c_cB cB) (h_cC : V (EI .i64) H a_cC n_cC c_cC cC) (h_st : V EB H a_st n_st c_st st) (h_inp : V EB H a_inp n_inp c_inp inp) (w_n : IntKind.i64.wrap n = n) (x_f : E0.ext g_f = none) (h_f : ∀ A, Mem [] H A [] → ∀ i : Int, 0 ≤ i → i < n → WF E0 g_f ([.int .i64 i] ++ cap_f) A fun q => ∃ z : Int, q.1 = .int .i64 z ∧ Mem [] A q.2 [] ∧ IntKind.i64.wrap z = z ∧ (CirOK ci cL cA cB cC → 0 ≤ z ∧ z / 2 < 1 + ci + n_cL + n_cA)) (n0 : 0 ≤ n) (n1 : n ≤ 300000000) : WF E0 122 [.agg #[.int .i64 ci, .slice a_cL n_cL c_cL, .slice a_cA n_cA c_cA, .slice a_cB n_cB c_cB, .slice a_cC n_cC c_cC], .slice a_st n_st c_st, .slice a_inp n_inp c_inp, .int .i64 n, .func (.func g_f) #[] cap_f.toArray] H fun q => ∃ (a : Option Addr) (m : Nat) (e : Int) (xs : List Bool) (D : List Nat), q.1 = .tuple #[.slice a m m, .int .i64 e] ∧ Mem [] H q.2 [R.lst 4 1 a m (cells EB xs) D] ∧ ((m : Int) ≤ n) ∧ (e = 0 → CirOK ci cL cA cB cC) ∧ (0 ≤ e ∧ e ≤ 100) := by
  obtain ⟨lo_ci, hi_ci⟩ := rangei64 w_ci
  obtain ⟨len_cL, cap_cL, max_cL, wf_cL⟩ := h_cL.len
  obtain ⟨len_cA, cap_cA, max_cA, wf_cA⟩ := h_cA.len
  obtain ⟨len_cB, cap_cB, max_cB, wf_cB⟩ := h_cB.len
  obtain ⟨len_cC, cap_cC, max_cC, wf_cC⟩ := h_cC.len
  obtain ⟨len_st, cap_st, max_st, wf_st⟩ := h_st.len
  obtain ⟨len_inp, cap_inp, max_inp, wf_inp⟩ := h_inp.len
  obtain ⟨lo_n, hi_n⟩ := rangei64 w_n
  have m0 : Mem [] H H [] := Mem.start
  refine WF.kg Tryz.func122 rfl rfl ?_
  refine KC.seq ?_
  refine KC.region ?_
  refine KO.boxM m0 rfl rfl (show _ = [.int .i64 ci, .slice a_cL n_cL c_cL, .slice a_cA n_cA c_cA, .slice a_cB n_cB c_cB, .slice a_cC n_cC c_cC] from rfl) rfl rfl fun H1 m2 => ?_
  refine KO.pv (PV.assign rfl) rfl rfl ?_
  refine KO.pv (PV.assign rfl) rfl rfl ?_
  refine KO.nil ?_
  refine KC.seq ?_
  refine KC.region ?_
  refine KO.loadN ag49 sz49 rfl (m2.row (i := 0) rfl) (takeN_of (p := [.int .i64 ci, .slice a_cL n_cL c_cL, .slice a_cA n_cA c_cA, .slice a_cB n_cB c_cB, .slice a_cC n_cC c_cC]) rfl rfl) rfl rfl ?_
  refine KO.pv (PV.move rfl) rfl rfl ?_
  refine KO.pv (PV.move rfl) rfl rfl ?_
  refine KO.call rfl rfl rfl rfl (val_All H1 ci a_cL n_cL c_cL _ a_cA n_cA c_cA _ a_cB n_cB c_cB _ a_cC n_cC c_cC _ a_st n_st c_st _ a_inp n_inp c_inp _ (wrap64 (by omega) (by omega)) (V.mem m2 h_cL) (V.mem m2 h_cA) (V.mem m2 h_cB) (V.mem m2 h_cC) (V.mem m2 h_st) (V.mem m2 h_inp)) fun v3 H3 q3 => ?_
  obtain ⟨a3, n3, e3, xs3, D3, hv3, mc3, p3_0, p3_1, p3_2⟩ := q3
  dsimp only at hv3 mc3
  subst hv3
  have m4 := m2.seq mc3
  refine KO.pv (PV.move rfl) rfl rfl ?_
  refine KO.pv (PV.extract rfl rfl) rfl rfl ?_
  refine KO.pv (PV.extract rfl rfl) rfl rfl ?_
  refine KO.pv (PV.assign rfl) rfl rfl ?_
  refine KO.pv (PV.assign rfl) rfl rfl ?_
  refine KO.nil ?_
  refine KC.seq ?_
  refine KC.seq ?_
  refine KC.region ?_
  refine KO.pv (PV.move rfl) rfl rfl ?_
  refine KO.pv (PV.neqD rfl rfl rfl) rfl rfl ?_
  refine KO.nil ?_
  refine KC.condD rfl (fun h5 => ?_) (fun h5 => ?_)
  · refine KC.seq ?_
    refine KC.region ?_
    refine KO.pv (PV.move rfl) rfl rfl ?_
    refine KO.pv (PV.assign rfl) rfl rfl ?_
    refine KO.pv (PV.assign rfl) rfl rfl ?_
    refine KO.nil ?_
    have m6 := m4.lnil (e := 4) (sz := 1) none rfl
    exact KC.ret ⟨rfl, _, (.tmp rfl (.tmp rfl .nil)), none, 0, e3, [], [], rfl, m6.pick [0] (by decide) rfl, (by first | omega | (intro h; omega)), (by first | omega | (intro h; omega) | (exact fun h => absurd h (by omega)) | (exact fun _ => hok)), (by first | omega | (intro h; omega))⟩
  · obtain ⟨hok, hn⟩ := p3_1 (by omega)
    refine KC.skip ?_
    refine KC.seq ?_
    refine KC.region ?_
    refine KO.pv (PV.assign rfl) rfl rfl ?_
    refine KO.nil ?_
    refine KC.seq ?_
    refine KC.seq ?_
    refine KC.region ?_
    refine KO.pv (PV.move rfl) rfl rfl ?_
    refine KO.pv (PV.move rfl) rfl rfl ?_
    refine KO.nil ?_
    refine KC.block ?_
    have mN := m4.lnil (e := 4) (sz := 1) none rfl
    refine KC.sub (l' := [(4, .func (.func g_f) #[] cap_f.toArray), (10, .slice none 0 0), (11, .int .i64 0), (12, .slice a3 n3 n3), (14, .slice none 0 0), (24, .bool (decide (e3 ≠ 0))), (26, .int .i64 n), (27, .int .i64 0)]) (.cons rfl (.cons rfl (.cons rfl (.cons rfl (.cons rfl (.cons rfl (.cons rfl (.cons rfl .nil)))))))) ?_
    refine KC.loopN (fun k l A => ∃ (i : Int) (a : Option Addr) (m : Nat) (xs : List Bool) (D : List Nat), k = (n - i).toNat ∧ l = [(4, .func (.func g_f) #[] cap_f.toArray), (10, .slice none 0 0), (11, .int .i64 0), (12, .slice a3 n3 n3), (14, .slice a m m), (24, .bool (decide (e3 ≠ 0))), (26, .int .i64 n), (27, .int .i64 i)] ∧ Mem [] H A [R.own EB a3 n3 n3 xs3 D3, R.lst 4 1 a m (cells EB xs) D] ∧ (0 ≤ i ∧ i ≤ n) ∧ ((m : Int) = i) ∧ (xs.length = m)) ?_ ((n - 0).toNat) ⟨0, none, 0, [], [], rfl, rfl, (mN.pick [1, 0] (by decide) rfl), (by omega), (by omega), rfl⟩
    rintro k l A7 ⟨i, a, m, xs, D, rfl, rfl, m8, hi, hm, hxl⟩
    refine KC.seq ?_
    refine KC.region ?_
    refine KO.pv (PV.lssD rfl rfl rfl) rfl rfl ?_
    refine KO.nil ?_
    refine KC.seq ?_
    refine KC.condD rfl (fun h9 => ?_) (fun h9 => ?_)
    · refine KC.skip ?_
      refine KC.seq ?_
      refine KC.block ?_
      refine KC.seq ?_
      refine KC.region ?_
      refine KO.pv (PV.move rfl) rfl rfl ?_
      refine KO.pv (PV.assign rfl) rfl rfl ?_
      refine KO.nil ?_
      refine KC.region ?_
      refine KO.pv (PV.move rfl) rfl rfl ?_
      refine KO.pv (PV.move rfl) rfl rfl ?_
      refine KO.pv (PV.move rfl) rfl rfl ?_
      refine KO.pv (PV.move rfl) rfl rfl ?_
      refine KO.callV rfl x_f rfl rfl rfl (h_f A7 (m8.pick [] (by decide) rfl) i (by omega) (by omega)) fun v10 H10 q10 => ?_
      obtain ⟨z10, hv10, mc10, pw10, pf10⟩ := q10
      dsimp only at hv10 mc10
      subst hv10
      have m11 := m8.seq mc10
      obtain ⟨zlo10, zhi10⟩ := rangei64 pw10
      have hz := pf10 hok
      refine KO.call rfl rfl rfl rfl (val_of H10 a3 n3 n3 _ z10 (m11.vown (i := 0) rfl) (wrap64 (by omega) (by omega)) (by first | omega | assumption) (by first | omega | assumption)) fun v12 H12 q12 => ?_
      obtain ⟨o12, hv12, mc12⟩ := q12
      dsimp only at hv12 mc12
      subst hv12
      have m13 := m11.seq mc12
      refine KO.buildSliceM m13 el50 ez4 rfl rfl (show _ = some [.bool o12] from rfl) rfl rfl fun H14 m15 => ?_
      refine KO.appendC (C := EB) m15 (i := 2) rfl el50 ez4 sb4 un50 rfl rfl (newElems_row1 (C := EB) (y := o12) (m15.row (i := 0) rfl) rfl) rfl (by first | omega | (simp only [splice, List.length_append, List.length_set, List.length_replicate, List.length_map, List.length_take, List.length_drop, List.length_cons, List.length_nil]; omega)) rfl rfl fun a17 D18 H16 m19 => ?_
      refine KO.pv (PV.assign rfl) rfl rfl ?_
      refine KO.nil ?_
      refine KC.region ?_
      refine KO.pv (PV.add rfl rfl (wrap64 (by omega) (by omega))) rfl rfl ?_
      refine KO.pv (PV.move rfl) rfl rfl ?_
      refine KO.nil ?_
      exact ⟨_, _, (by omega), (.cons rfl (.cons rfl (.cons rfl (.cons rfl (.cons rfl (.cons rfl (.cons rfl (.cons rfl .nil)))))))), (i + 1), a17, (m + 1), (xs ++ [o12]), D18, rfl, rfl, (m19.pick [1, 2] (by decide) rfl), (by omega), (by omega), (by first | omega | (simp only [splice, List.length_append, List.length_set, List.length_replicate, List.length_map, List.length_take, List.length_drop, List.length_cons, List.length_nil]; omega))⟩
    · refine KC.exit ?_
      refine KC.seq ?_
      refine KC.region ?_
      refine KO.pv (PV.move rfl) rfl rfl ?_
      refine KO.pv (PV.assign rfl) rfl rfl ?_
      refine KO.pv (PV.assign rfl) rfl rfl ?_
      refine KO.nil ?_
      exact KC.ret ⟨rfl, _, (.tmp rfl (.tmp rfl .nil)), a, m, 0, xs, D, rfl, m8.pick [1] (by decide) rfl, (by first | omega | (intro h; omega)), (by first | omega | (intro h; omega) | (exact fun h => absurd h (by omega)) | (exact fun _ => hok)), (by first | omega | (intro h; omega))⟩
theorem val_next1 (H : AHeap) (i : Int) (b_p : Nat) (ci : Int) (a_cL : Option Addr) (n_cL c_cL : Nat) (a_cA : Option Addr) (n_cA c_cA : Nat) (a_cB : Option Addr) (n_cB c_cB : Nat) (a_cC : Option Addr) (n_cC c_cC : Nat) (cL : List (Int × Int)) (w_i : IntKind.i64.wrap i = i) (r_p : H.row b_p = some ⟨49, true, true, [.int .i64 ci, .slice a_cL n_cL c_cL, .slice a_cA n_cA c_cA, .slice a_cB n_cB c_cB, .slice a_cC n_cC c_cC]⟩) (l_p : b_p < H.next) (h_cL : V EP H a_cL n_cL c_cL cL) (h0 : 0 ≤ i) (h1 : i < n_cL) : WF E0 123 [.int .i64 i, .pointer (some ⟨b_p, 0, none⟩)] H fun q => ∃ (z : Int), q.1 = .int .i64 z ∧ Mem [] H q.2 [] ∧ (IntKind.i64.wrap z = z) ∧ (∃ u, cL[i.toNat]? = some u ∧ z = u.1) := by
  obtain ⟨lo_i, hi_i⟩ := rangei64 w_i
  obtain ⟨len_cL, cap_cL, max_cL, wf_cL⟩ := h_cL.len
  have m0 : Mem [] H H [] := Mem.start
  refine WF.kg Tryz.func123 rfl rfl ?_
  refine KC.seq ?_
  refine KC.region ?_
  refine KO.pv (PV.assign rfl) rfl rfl ?_
  refine KO.nil ?_
  refine KC.seq ?_
  refine KC.region ?_
  refine KO.pv (PV.fieldAddr fo49_1 rfl) rfl rfl ?_
  refine KO.load1 ag46 rfl (m0.row0 l_p r_p) rfl rfl rfl ?_
  refine KO.pv (PV.move rfl) rfl rfl ?_
  obtain ⟨b1, o1, p1, r1, e1, ha1, hb1, hr1, hx1, hw1, hc1, ht1⟩ := V.at_ h_cL (z := i) (by omega) (by omega)
  have hc1_0 : r1.cs[o1 + (i).toNat * 2 + 0]? = some (.int .i64 e1.1) := hc1 0 (by decide)
  have hc1_1 : r1.cs[o1 + (i).toNat * 2 + 1]? = some (.int .i64 e1.2) := hc1 1 (by decide)
  obtain ⟨hwa1, hwb1⟩ := hw1
  obtain ⟨loa1, hia1⟩ := rangei64 hwa1
  obtain ⟨lob1, hib1⟩ := rangei64 hwb1
  refine KO.pv (PV.indexAddrZ un46 sz169 rfl ha1 rfl (by omega) (by omega)) rfl rfl ?_
  refine KO.pv (PV.fieldAddr fo169_0 rfl) rfl rfl ?_
  refine KO.load1 ag3 rfl (m0.row0 hb1 hr1) hc1_0 rfl rfl ?_
  refine KO.pv (PV.assign rfl) rfl rfl ?_
  refine KO.nil ?_
  exact KC.ret ⟨rfl, _, (.tmp rfl .nil), e1.1, rfl, m0.pick [] (by decide) rfl, (by first | omega | (intro h; omega) | (exact hwa1)), (by first | omega | (intro h; omega) | (exact ⟨_, hx1, rfl⟩))⟩
theorem val_props1 (H : AHeap) (i : Int) (b_p : Nat) (ci : Int) (a_cL : Option Addr) (n_cL c_cL : Nat) (a_cA : Option Addr) (n_cA c_cA : Nat) (a_cB : Option Addr) (n_cB c_cB : Nat) (a_cC : Option Addr) (n_cC c_cC : Nat) (cB : List Int) (w_i : IntKind.i64.wrap i = i) (r_p : H.row b_p = some ⟨49, true, true, [.int .i64 ci, .slice a_cL n_cL c_cL, .slice a_cA n_cA c_cA, .slice a_cB n_cB c_cB, .slice a_cC n_cC c_cC]⟩) (l_p : b_p < H.next) (h_cB : V (EI .i64) H a_cB n_cB c_cB cB) (h0 : 0 ≤ i) (h1 : i < n_cB) : WF E0 124 [.int .i64 i, .pointer (some ⟨b_p, 0, none⟩)] H fun q => ∃ (z : Int), q.1 = .int .i64 z ∧ Mem [] H q.2 [] ∧ (IntKind.i64.wrap z = z) ∧ (∃ u, cB[i.toNat]? = some u ∧ z = u) := by
  obtain ⟨lo_i, hi_i⟩ := rangei64 w_i
  obtain ⟨len_cB, cap_cB, max_cB, wf_cB⟩ := h_cB.len
  have m0 : Mem [] H H [] := Mem.start
  refine WF.kg Tryz.func124 rfl rfl ?_
  refine KC.seq ?_
  refine KC.region ?_
  refine KO.pv (PV.assign rfl) rfl rfl ?_
  refine KO.nil ?_
  refine KC.seq ?_
  refine KC.region ?_
  refine KO.pv (PV.fieldAddr fo49_3 rfl) rfl rfl ?_
  refine KO.load1 ag22 rfl (m0.row0 l_p r_p) rfl rfl rfl ?_
  refine KO.pv (PV.move rfl) rfl rfl ?_
  obtain ⟨b1, o1, p1, r1, e1, ha1, hb1, hr1, hx1, hw1, hc1, ht1⟩ := V.at_ h_cB (z := i) (by omega) (by omega)
  have hc1_0 : r1.cs[o1 + (i).toNat * 1 + 0]? = some (.int .i64 e1) := hc1 0 (by decide)
  have hw1 : IntKind.i64.wrap e1 = e1 := hw1
  obtain ⟨lo1, hi1⟩ := rangei64 hw1
  refine KO.pv (PV.indexAddrZ un22 sz3 rfl ha1 rfl (by omega) (by omega)) rfl rfl ?_
  refine KO.load1 ag3 rfl (m0.row0 hb1 hr1) hc1_0 rfl rfl ?_
  refine KO.pv (PV.assign rfl) rfl rfl ?_
  refine KO.nil ?_
  exact KC.ret ⟨rfl, _, (.tmp rfl .nil), e1, rfl, m0.pick [] (by decide) rfl, (by first | omega | (intro h; omega) | (exact hw1)), (by first | omega | (intro h; omega) | (exact ⟨_, hx1, rfl⟩))⟩
theorem val_props2 (H : AHeap) (i : Int) (b_p : Nat) (ci : Int) (a_cL : Option Addr) (n_cL c_cL : Nat) (a_cA : Option Addr) (n_cA c_cA : Nat) (a_cB : Option Addr) (n_cB c_cB : Nat) (a_cC : Option Addr) (n_cC c_cC : Nat) (cC : List Int) (w_i : IntKind.i64.wrap i = i) (r_p : H.row b_p = some ⟨49, true, true, [.int .i64 ci, .slice a_cL n_cL c_cL, .slice a_cA n_cA c_cA, .slice a_cB n_cB c_cB, .slice a_cC n_cC c_cC]⟩) (l_p : b_p < H.next) (h_cC : V (EI .i64) H a_cC n_cC c_cC cC) (h0 : 0 ≤ i) (h1 : i < n_cC) : WF E0 125 [.int .i64 i, .pointer (some ⟨b_p, 0, none⟩)] H fun q => ∃ (z : Int), q.1 = .int .i64 z ∧ Mem [] H q.2 [] ∧ (IntKind.i64.wrap z = z) ∧ (∃ u, cC[i.toNat]? = some u ∧ z = u) := by
  obtain ⟨lo_i, hi_i⟩ := rangei64 w_i
  obtain ⟨len_cC, cap_cC, max_cC, wf_cC⟩ := h_cC.len
  have m0 : Mem [] H H [] := Mem.start
  refine WF.kg Tryz.func125 rfl rfl ?_
  refine KC.seq ?_
  refine KC.region ?_
  refine KO.pv (PV.assign rfl) rfl rfl ?_
  refine KO.nil ?_
  refine KC.seq ?_
  refine KC.region ?_
  refine KO.pv (PV.fieldAddr fo49_4 rfl) rfl rfl ?_
  refine KO.load1 ag22 rfl (m0.row0 l_p r_p) rfl rfl rfl ?_
  refine KO.pv (PV.move rfl) rfl rfl ?_
  obtain ⟨b1, o1, p1, r1, e1, ha1, hb1, hr1, hx1, hw1, hc1, ht1⟩ := V.at_ h_cC (z := i) (by omega) (by omega)
  have hc1_0 : r1.cs[o1 + (i).toNat * 1 + 0]? = some (.int .i64 e1) := hc1 0 (by decide)
  have hw1 : IntKind.i64.wrap e1 = e1 := hw1
  obtain ⟨lo1, hi1⟩ := rangei64 hw1
  refine KO.pv (PV.indexAddrZ un22 sz3 rfl ha1 rfl (by omega) (by omega)) rfl rfl ?_
  refine KO.load1 ag3 rfl (m0.row0 hb1 hr1) hc1_0 rfl rfl ?_
  refine KO.pv (PV.assign rfl) rfl rfl ?_
  refine KO.nil ?_
  exact KC.ret ⟨rfl, _, (.tmp rfl .nil), e1, rfl, m0.pick [] (by decide) rfl, (by first | omega | (intro h; omega) | (exact hw1)), (by first | omega | (intro h; omega) | (exact ⟨_, hx1, rfl⟩))⟩
theorem val_Next (H : AHeap) (ci : Int) (a_cL : Option Addr) (n_cL c_cL : Nat) (cL : List (Int × Int)) (a_cA : Option Addr) (n_cA c_cA : Nat) (cA : List (Int × Int)) (a_cB : Option Addr) (n_cB c_cB : Nat) (cB : List Int) (a_cC : Option Addr) (n_cC c_cC : Nat) (cC : List Int) (a_st : Option Addr) (n_st c_st : Nat) (st : List Bool) (a_inp : Option Addr) (n_inp c_inp : Nat) (inp : List Bool) (w_ci : IntKind.i64.wrap ci = ci) (h_cL : V EP H a_cL n_cL c_cL cL) (h_cA : V EP H a_cA n_cA c_cA cA) (h_cB : V (EI .i64) H a_cB n_cB c_cB cB) (h_cC : V (EI .i64) H a_cC n_cC c_cC cC) (h_st : V EB H a_st n_st c_st st) (h_inp : V EB H a_inp n_inp c_inp inp) (bl : n_cL ≤ 300000000) : WF E0 27 [.agg #[.int .i64 ci, .slice a_cL n_cL c_cL, .slice a_cA n_cA c_cA, .slice a_cB n_cB c_cB, .slice a_cC n_cC c_cC], .slice a_st n_st c_st, .slice a_inp n_inp c_inp] H fun q => ∃ (a : Option Addr) (n : Nat) (e : Int) (xs : List Bool) (D : List Nat), q.1 = .tuple #[.slice a n n, .int .i64 e] ∧ Mem [] H q.2 [R.lst 4 1 a n (cells EB xs) D] ∧ (n ≤ 300000000) := by
  obtain ⟨lo_ci, hi_ci⟩ := rangei64 w_ci
  obtain ⟨len_cL, cap_cL, max_cL, wf_cL⟩ := h_cL.len
  obtain ⟨len_cA, cap_cA, max_cA, wf_cA⟩ := h_cA.len
  obtain ⟨len_cB, cap_cB, max_cB, wf_cB⟩ := h_cB.len
  obtain ⟨len_cC, cap_cC, max_cC, wf_cC⟩ := h_cC.len
  obtain ⟨len_st, cap_st, max_st, wf_st⟩ := h_st.len
  obtain ⟨len_inp, cap_inp, max_inp, wf_inp⟩ := h_inp.len
  have m0 : Mem [] H H [] := Mem.start
  refine WF.kg Tryz.func27 rfl rfl ?_
  refine KC.seq ?_
  refine KC.region ?_
  refine KO.boxM m0 rfl rfl (show _ = [.int .i64 ci, .slice a_cL n_cL c_cL, .slice a_cA n_cA c_cA, .slice a_cB n_cB c_cB, .slice a_cC n_cC c_cC] from rfl) rfl rfl fun H1 m2 => ?_
  refine KO.pv (PV.assign rfl) rfl rfl ?_
  refine KO.pv (PV.assign rfl) rfl rfl ?_
  refine KO.nil ?_
  refine KC.seq ?_
  refine KC.region ?_
  refine KO.loadN ag49 sz49 rfl (m2.row (i := 0) rfl) (takeN_of (p := [.int .i64 ci, .slice a_cL n_cL c_cL, .slice a_cA n_cA c_cA, .slice a_cB n_cB c_cB, .slice a_cC n_cC c_cC]) rfl rfl) rfl rfl ?_
  refine KO.pv (PV.move rfl) rfl rfl ?_
  refine KO.pv (PV.move rfl) rfl rfl ?_
  refine KO.pv (PV.fieldAddr fo49_1 rfl) rfl rfl ?_
  refine KO.load1 ag46 rfl (m2.row (i := 0) rfl) rfl rfl rfl ?_
  refine KO.pv (PV.len un46 rfl) rfl rfl ?_
  refine KO.pv (PV.makeFunc rfl rfl) rfl rfl ?_
  refine KO.call rfl rfl rfl rfl (val_list H1 ci a_cL n_cL c_cL _ a_cA n_cA c_cA _ a_cB n_cB c_cB _ a_cC n_cC c_cC _ a_st n_st c_st _ a_inp n_inp c_inp _ (n_cL : Int) 123 [.pointer (some ⟨H.next, 0, none⟩)] (wrap64 (by omega) (by omega)) (V.mem m2 h_cL) (V.mem m2 h_cA) (V.mem m2 h_cB) (V.mem m2 h_cC) (V.mem m2 h_st) (V.mem m2 h_inp) (wrap64 (by omega) (by omega)) rfl (fun A mA i h0 h1 => (val_next1 A i H.next _ _ _ _ _ _ _ _ _ _ _ _ _ cL (wrap64 (by omega) (by omega)) (mA.row0 (m2.blt (i := 0) rfl) (m2.row (i := 0) rfl)) (Nat.lt_of_lt_of_le (m2.blt (i := 0) rfl) mA.next) (V.mem mA (V.mem m2 h_cL)) h0 (by omega)).mono fun q hq => by obtain ⟨z, h1, h2, h3, u, h4, h5⟩ := hq; exact ⟨z, h1, h2, h3, fun hok => by rw [h5]; have := hok.hl _ (List.mem_of_getElem? h4); omega⟩) (by first | omega | assumption) (by first | omega | assumption)) fun v3 H3 q3 => ?_
  obtain ⟨a3, m3, e3, xs3, D3, hv3, mc3, p3_0, p3_1, p3_2⟩ := q3
  dsimp only at hv3 mc3
  subst hv3
  have m4 := m2.seq mc3
  refine KO.pv (PV.extract rfl rfl) rfl rfl ?_
  refine KO.pv (PV.extract rfl rfl) rfl rfl ?_
  refine KO.pv (PV.assign rfl) rfl rfl ?_
  refine KO.pv (PV.assign rfl) rfl rfl ?_
  refine KO.nil ?_
  exact KC.ret ⟨rfl, _, (.tmp rfl (.tmp rfl .nil)), a3, m3, e3, xs3, D3, rfl, m4.pick [0] (by decide) rfl, (by first | omega | (intro h; omega))⟩
theorem Index_bool (H : AHeap) (a_s : Option Addr) (n_s c_s : Nat) (s : List Bool) (v : Bool) (h_s : V EB H a_s n_s c_s s) : WF E0 158 [.slice a_s n_s c_s, .bool v] H fun q => ∃ (z : Int), q.1 = .int .i64 z ∧ Mem [] H q.2 [] ∧ (-1 ≤ z ∧ z < n_s) := by
  obtain ⟨len_s, cap_s, max_s, wf_s⟩ := h_s.len
  have m0 : Mem [] H H [] := Mem.start
  refine WF.kg Tryz.func158 rfl rfl ?_
  refine KC.seq ?_
  refine KC.region ?_
  refine KO.pv (PV.assign rfl) rfl rfl ?_
  refine KO.nil ?_
  refine KC.seq ?_
  refine KC.seq ?_
  refine KC.region ?_
  refine KO.pv (PV.move rfl) rfl rfl ?_
  refine KO.pv (PV.len un50 rfl) rfl rfl ?_
  refine KO.pv (PV.move rfl) rfl rfl ?_
  refine KO.nil ?_
  refine KC.block ?_
  refine KC.sub (l' := [(0, .slice a_s n_s c_s), (1, .bool v), (4, .int .i64 0), (7, .int .i64 (n_s : Int)), (8, .int .i64 0)]) (.cons rfl (.cons rfl (.cons rfl (.cons rfl (.cons rfl .nil))))) ?_
  refine KC.loopN (fun k l A => ∃ (i : Int), k = ((n_s : Int) - i).toNat ∧ l = [(0, .slice a_s n_s c_s), (1, .bool v), (4, .int .i64 0), (7, .int .i64 (n_s : Int)), (8, .int .i64 i)] ∧ Mem [] H A [] ∧ (0 ≤ i ∧ i ≤ n_s)) ?_ (((n_s : Int) - 0).toNat) ⟨0, rfl, rfl, (m0.pick [] (by decide) rfl), (by omega)⟩
  rintro k l A1 ⟨i, rfl, rfl, m2, hi⟩
  refine KC.seq ?_
  refine KC.region ?_
  refine KO.pv (PV.lssD rfl rfl rfl) rfl rfl ?_
  refine KO.nil ?_
  refine KC.seq ?_
  refine KC.condD rfl (fun h3 => ?_) (fun h3 => ?_)
  · refine KC.skip ?_
    refine KC.seq ?_
    refine KC.block ?_
    refine KC.seq ?_
    refine KC.region ?_
    refine KO.pv (PV.move rfl) rfl rfl ?_
    refine KO.pv (PV.assign rfl) rfl rfl ?_
    refine KO.nil ?_
    refine KC.seq ?_
    refine KC.region ?_
    refine KO.pv (PV.move rfl) rfl rfl ?_
    refine KO.pv (PV.move rfl) rfl rfl ?_
    refine KO.pv (PV.move rfl) rfl rfl ?_
    obtain ⟨b4, o4, p4, r4, e4, ha4, hb4, hr4, hx4, hw4, hc4, ht4⟩ := V.at_ h_s (z := i) (by omega) (by omega)
    have hc4_0 : r4.cs[o4 + (i).toNat * 1 + 0]? = some (.bool e4) := hc4 0 (by decide)
    refine KO.pv (PV.indexAddrZ un50 sz4 rfl ha4 rfl (by omega) (by omega)) rfl rfl ?_
    refine KO.load1 ag4 rfl (m2.row0 hb4 hr4) hc4_0 rfl rfl ?_
    obtain ⟨b5, qb5⟩ : ∃ b : Bool, (v == e4) = b := ⟨_, rfl⟩
    refine KO.pv (PV.beqB un4 rfl rfl qb5) rfl rfl ?_
    refine KO.nil ?_
    refine KC.cond rfl (fun h6 => ?_) (fun h6 => ?_)
    · refine KC.seq ?_
      refine KC.region ?_
      refine KO.pv (PV.move rfl) rfl rfl ?_
      refine KO.pv (PV.assign rfl) rfl rfl ?_
      refine KO.nil ?_
      exact KC.ret ⟨rfl, _, (.tmp rfl .nil), i, rfl, m2.pick [] (by decide) rfl, (by first | omega | (intro h; omega))⟩
    · refine KC.skip ?_
      refine KC.region ?_
      refine KO.pv (PV.add rfl rfl (wrap64 (by omega) (by omega))) rfl rfl ?_
      refine KO.pv (PV.move rfl) rfl rfl ?_
      refine KO.nil ?_
      exact ⟨_, _, (by omega), (.cons rfl (.cons rfl (.cons rfl (.cons rfl (.cons rfl .nil))))), (i + 1), rfl, rfl, (m2.pick [] (by decide) rfl), (by omega)⟩
  · refine KC.exit ?_
    refine KC.seq ?_
    refine KC.region ?_
    refine KO.pv (PV.assign rfl) rfl rfl ?_
    refine KO.nil ?_
    exact KC.ret ⟨rfl, _, (.tmp rfl .nil), (-1), rfl, m2.pick [] (by decide) rfl, (by first | omega | (intro h; omega))⟩
theorem Contains_bool (H : AHeap) (a_s : Option Addr) (n_s c_s : Nat) (s : List Bool) (v : Bool) (h_s : V EB H a_s n_s c_s s) : WF E0 126 [.slice a_s n_s c_s, .bool v] H fun q => ∃ (o : Bool), q.1 = .bool o ∧ Mem [] H q.2 [] := by
  obtain ⟨len_s, cap_s, max_s, wf_s⟩ := h_s.len
  have m0 : Mem [] H H [] := Mem.start
  refine WF.kg Tryz.func126 rfl rfl ?_
  refine KC.seq ?_
  refine KC.region ?_
  refine KO.pv (PV.assign rfl) rfl rfl ?_
  refine KO.nil ?_
  refine KC.seq ?_
  refine KC.region ?_
  refine KO.pv (PV.move rfl) rfl rfl ?_
  refine KO.pv (PV.move rfl) rfl rfl ?_
  refine KO.call rfl rfl rfl rfl (Index_bool H a_s n_s c_s _ v (V.mem m0 h_s)) fun v1 H1 q1 => ?_
  obtain ⟨z1, hv1, mc1, p1_0⟩ := q1
  dsimp only at hv1 mc1
  subst hv1
  have m2 := m0.seq mc1
  refine KO.pv (PV.geqD rfl rfl rfl) rfl rfl ?_
  refine KO.pv (PV.assign rfl) rfl rfl ?_
  refine KO.nil ?_
  exact KC.ret ⟨rfl, _, (.tmp rfl .nil), (decide (0 ≤ z1)), rfl, m2.pick [] (by decide) rfl⟩
theorem val_Props (H : AHeap) (ci : Int) (a_cL : Option Addr) (n_cL c_cL : Nat) (cL : List (Int × Int)) (a_cA : Option Addr) (n_cA c_cA : Nat) (cA : List (Int × Int)) (a_cB : Option Addr) (n_cB c_cB : Nat) (cB : List Int) (a_cC : Option Addr) (n_cC c_cC : Nat) (cC : List Int) (a_st : Option Addr) (n_st c_st : Nat) (st : List Bool) (a_inp : Option Addr) (n_inp c_inp : Nat) (inp : List Bool) (w_ci : IntKind.i64.wrap ci = ci) (h_cL : V EP H a_cL n_cL c_cL cL) (h_cA : V EP H a_cA n_cA c_cA cA) (h_cB : V (EI .i64) H a_cB n_cB c_cB cB) (h_cC : V (EI .i64) H a_cC n_cC c_cC cC) (h_st : V EB H a_st n_st c_st st) (h_inp : V EB H a_inp n_inp c_inp inp) (bb : n_cB ≤ 300000000) (bc : n_cC ≤ 300000000) : WF E0 30 [.agg #[.int .i64 ci, .slice a_cL n_cL c_cL, .slice a_cA n_cA c_cA, .slice a_cB n_cB c_cB, .slice a_cC n_cC c_cC], .slice a_st n_st c_st, .slice a_inp n_inp c_inp] H fun q => ∃ (o : Bool) (a : Option Addr) (n : Nat) (e : Int) (xs : List Bool) (D : List Nat), q.1 = .tuple #[.bool o, .slice a n n, .int .i64 e] ∧ Mem [] H q.2 [R.lst 4 1 a n (cells EB xs) D] ∧ (n ≤ 300000000) := by
  obtain ⟨lo_ci, hi_ci⟩ := rangei64 w_ci
  obtain ⟨len_cL, cap_cL, max_cL, wf_cL⟩ := h_cL.len
  obtain ⟨len_cA, cap_cA, max_cA, wf_cA⟩ := h_cA.len
  obtain ⟨len_cB, cap_cB, max_cB, wf_cB⟩ := h_cB.len
  obtain ⟨len_cC, cap_cC, max_cC, wf_cC⟩ := h_cC.len
  obtain ⟨len_st, cap_st, max_st, wf_st⟩ := h_st.len
  obtain ⟨len_inp, cap_inp, max_inp, wf_inp⟩ := h_inp.len
  have m0 : Mem [] H H [] := Mem.start
  refine WF.kg Tryz.func30 rfl rfl ?_
  refine KC.seq ?_
  refine KC.region ?_
  refine KO.boxM m0 rfl rfl (show _ = [.int .i64 ci, .slice a_cL n_cL c_cL, .slice a_cA n_cA c_cA, .slice a_cB n_cB c_cB, .slice a_cC n_cC c_cC] from rfl) rfl rfl fun H1 m2 => ?_
  refine KO.pv (PV.assign rfl) rfl rfl ?_
  refine KO.pv (PV.assign rfl) rfl rfl ?_
  refine KO.pv (PV.assign rfl) rfl rfl ?_
  refine KO.nil ?_
  refine KC.seq ?_
  refine KC.region ?_
  refine KO.loadN ag49 sz49 rfl (m2.row (i := 0) rfl) (takeN_of (p := [.int .i64 ci, .slice a_cL n_cL c_cL, .slice a_cA n_cA c_cA, .slice a_cB n_cB c_cB, .slice a_cC n_cC c_cC]) rfl rfl) rfl rfl ?_
  refine KO.pv (PV.move rfl) rfl rfl ?_
  refine KO.pv (PV.move rfl) rfl rfl ?_
  refine KO.pv (PV.fieldAddr fo49_3 rfl) rfl rfl ?_
  refine KO.load1 ag22 rfl (m2.row (i := 0) rfl) rfl rfl rfl ?_
  refine KO.pv (PV.len un22 rfl) rfl rfl ?_
  refine KO.pv (PV.makeFunc rfl rfl) rfl rfl ?_
  refine KO.call rfl rfl rfl rfl (val_list H1 ci a_cL n_cL c_cL _ a_cA n_cA c_cA _ a_cB n_cB c_cB _ a_cC n_cC c_cC _ a_st n_st c_st _ a_inp n_inp c_inp _ (n_cB : Int) 124 [.pointer (some ⟨H.next, 0, none⟩)] (wrap64 (by omega) (by omega)) (V.mem m2 h_cL) (V.mem m2 h_cA) (V.mem m2 h_cB) (V.mem m2 h_cC) (V.mem m2 h_st) (V.mem m2 h_inp) (wrap64 (by omega) (by omega)) rfl (fun A mA i h0 h1 => (val_props1 A i H.next _ _ _ _ _ _ _ _ _ _ _ _ _ cB (wrap64 (by omega) (by omega)) (mA.row0 (m2.blt (i := 0) rfl) (m2.row (i := 0) rfl)) (Nat.lt_of_lt_of_le (m2.blt (i := 0) rfl) mA.next) (V.mem mA (V.mem m2 h_cB)) h0 (by omega)).mono fun q hq => by obtain ⟨z, h1, h2, h3, u, h4, h5⟩ := hq; exact ⟨z, h1, h2, h3, fun hok => by rw [h5]; have := hok.hb _ (List.mem_of_getElem? h4); omega⟩) (by first | omega | assumption) (by first | omega | assumption)) fun v3 H3 q3 => ?_
  obtain ⟨a3, m3, e3, xs3, D3, hv3, mc3, p3_0, p3_1, p3_2⟩ := q3
  dsimp only at hv3 mc3
  subst hv3
  have m4 := m2.seq mc3
  refine KO.pv (PV.move rfl) rfl rfl ?_
  refine KO.pv (PV.extract rfl rfl) rfl rfl ?_
  refine KO.pv (PV.extract rfl rfl) rfl rfl ?_
  refine KO.pv (PV.assign rfl) rfl rfl ?_
  refine KO.pv (PV.assign rfl) rfl rfl ?_
  refine KO.nil ?_
  refine KC.seq ?_
  refine KC.seq ?_
  refine KC.region ?_
  refine KO.pv (PV.move rfl) rfl rfl ?_
  refine KO.pv (PV.neqD rfl rfl rfl) rfl rfl ?_
  refine KO.nil ?_
  refine KC.condD rfl (fun h5 => ?_) (fun h5 => ?_)
  · refine KC.seq ?_
    refine KC.region ?_
    refine KO.pv (PV.move rfl) rfl rfl ?_
    refine KO.pv (PV.assign rfl) rfl rfl ?_
    refine KO.pv (PV.assign rfl) rfl rfl ?_
    refine KO.pv (PV.assign rfl) rfl rfl ?_
    refine KO.nil ?_
    have m6 := m4.lnil (e := 4) (sz := 1) none rfl
    exact KC.ret ⟨rfl, _, (.tmp rfl (.tmp rfl (.tmp rfl .nil))), false, none, 0, e3, [], [], rfl, m6.pick [0] (by decide) rfl, (by first | omega | (intro h; omega))⟩
  · refine KC.skip ?_
    refine KC.seq ?_
    refine KC.region ?_
    refine KO.loadN ag49 sz49 rfl (m4.row (i := 1) rfl) (takeN_of (p := [.int .i64 ci, .slice a_cL n_cL c_cL, .slice a_cA n_cA c_cA, .slice a_cB n_cB c_cB, .slice a_cC n_cC c_cC]) rfl rfl) rfl rfl ?_
    refine KO.pv (PV.move rfl) rfl rfl ?_
    refine KO.pv (PV.move rfl) rfl rfl ?_
    refine KO.pv (PV.fieldAddr fo49_4 rfl) rfl rfl ?_
    refine KO.load1 ag22 rfl (m4.row (i := 1) rfl) rfl rfl rfl ?_
    refine KO.pv (PV.len un22 rfl) rfl rfl ?_
    refine KO.pv (PV.makeFunc rfl rfl) rfl rfl ?_
    refine KO.call rfl rfl rfl rfl (val_list H3 ci a_cL n_cL c_cL _ a_cA n_cA c_cA _ a_cB n_cB c_cB _ a_cC n_cC c_cC _ a_st n_st c_st _ a_inp n_inp c_inp _ (n_cC : Int) 125 [.pointer (some ⟨H.next, 0, none⟩)] (wrap64 (by omega) (by omega)) (V.mem m4 h_cL) (V.mem m4 h_cA) (V.mem m4 h_cB) (V.mem m4 h_cC) (V.mem m4 h_st) (V.mem m4 h_inp) (wrap64 (by omega) (by omega)) rfl (fun A mA i h0 h1 => (val_props2 A i H.next _ _ _ _ _ _ _ _ _ _ _ _ _ cC (wrap64 (by omega) (by omega)) (mA.row0 (m4.blt (i := 1) rfl) (m4.row (i := 1) rfl)) (Nat.lt_of_lt_of_le (m4.blt (i := 1) rfl) mA.next) (V.mem mA (V.mem m4 h_cC)) h0 (by omega)).mono fun q hq => by obtain ⟨z, h1, h2, h3, u, h4, h5⟩ := hq; exact ⟨z, h1, h2, h3, fun hok => by rw [h5]; have := hok.hc _ (List.mem_of_getElem? h4); omega⟩) (by first | omega | assumption) (by first | omega | assumption)) fun v7 H7 q7 => ?_
    obtain ⟨a7, m7, e7, xs7, D7, hv7, mc7, p7_0, p7_1, p7_2⟩ := q7
    dsimp only at hv7 mc7
    subst hv7
    have m8 := m4.seq mc7
    refine KO.pv (PV.move rfl) rfl rfl ?_
    refine KO.pv (PV.extract rfl rfl) rfl rfl ?_
    refine KO.pv (PV.extract rfl rfl) rfl rfl ?_
    refine KO.pv (PV.assign rfl) rfl rfl ?_
    refine KO.pv (PV.assign rfl) rfl rfl ?_
    refine KO.nil ?_
    refine KC.seq ?_
    refine KC.region ?_
    refine KO.pv (PV.move rfl) rfl rfl ?_
    refine KO.call rfl rfl rfl rfl (Contains_bool H7 a7 m7 m7 _ false (m8.vlst (i := 0) rfl (fun _ _ => trivial) (by first | omega | (simp only [splice, List.length_append, List.length_set, List.length_replicate, List.length_map, List.length_take, List.length_drop, List.length_cons, List.length_nil]; omega)))) fun v9 H9 q9 => ?_
    obtain ⟨o9, hv9, mc9⟩ := q9
    dsimp only at hv9 mc9
    subst hv9
    have m10 := m8.seq mc9
    rcases Bool.eq_false_or_eq_true o9 with h11 | h11
    · subst h11
      refine KO.pv (PV.notB rfl rfl) rfl rfl ?_
      refine KO.pv (PV.move rfl) rfl rfl ?_
      refine KO.pv (PV.move rfl) rfl rfl ?_
      refine KO.pv (PV.assign rfl) rfl rfl ?_
      refine KO.pv (PV.assign rfl) rfl rfl ?_
      refine KO.pv (PV.assign rfl) rfl rfl ?_
      refine KO.nil ?_
      exact KC.ret ⟨rfl, _, (.tmp rfl (.tmp rfl (.tmp rfl .nil))), false, a3, m3, e7, xs3, D3, rfl, m10.pick [1] (by decide) rfl, (by first | omega | (intro h; omega))⟩
    · subst h11
      refine KO.pv (PV.notB rfl rfl) rfl rfl ?_
      refine KO.pv (PV.move rfl) rfl rfl ?_
      refine KO.pv (PV.move rfl) rfl rfl ?_
      refine KO.pv (PV.assign rfl) rfl rfl ?_
      refine KO.pv (PV.assign rfl) rfl rfl ?_
      refine KO.pv (PV.assign rfl) rfl rfl ?_
      refine KO.nil ?_
      exact KC.ret ⟨rfl, _, (.tmp rfl (.tmp rfl (.tmp rfl .nil))), true, a3, m3, e7, xs3, D3, rfl, m10.pick [1] (by decide) rfl, (by first | omega | (intro h; omega))⟩
abbrev ShValues : Sh := .fld 0 (.fld 0 (.num .i64) (.fld 1 (.list 2 (.fld 0 (.num .i64) (.fld 1 (.num .i64) .nil))) (.fld 2 (.list 2 (.fld 0 (.num .i64) (.fld 1 (.num .i64) .nil))) (.fld 3 (.list 1 (.num .i64)) (.fld 4 (.list 1 (.num .i64)) .nil))))) (.fld 5 (.list 1 .bool) (.fld 6 (.list 1 .bool) (.fld 7 (.list 1 .bool) (.fld 8 (.num .i64) .nil))))
theorem arg_Values {H : AHeap} {bx : Nat} {ns : List Int} {ss : List ByteArray} {D : List Nat} (h : Own H ⟨true, true, false⟩ ShValues bx ns ss D) (hl : ns.length ≤ 300000000) :
    ∃ (r : Row) (yu0 : Int) (ya1 : Option Addr) (yn1 yc1 : Nat) (yl1 : List (Int × Int)) (ya2 : Option Addr) (yn2 yc2 : Nat) (yl2 : List (Int × Int)) (ya3 : Option Addr) (yn3 yc3 : Nat) (yl3 : List Int) (ya4 : Option Addr) (yn4 yc4 : Nat) (yl4 : List Int) (ya5 : Option Addr) (yn5 yc5 : Nat) (yl5 : List Bool) (ya6 : Option Addr) (yn6 yc6 : Nat) (yl6 : List Bool) (ya7 : Option Addr) (yn7 yc7 : Nat) (yl7 : List Bool) (yu8 : Int), H.row bx = some r ∧ r.cs[0]? = some (.int .i64 yu0) ∧ IntKind.i64.wrap yu0 = yu0 ∧ r.cs[1]? = some (.slice ya1 yn1 yc1) ∧ V EP H ya1 yn1 yc1 yl1 ∧ exactBase ya1 = true ∧ yn1 ≤ 300000000 ∧ r.cs[2]? = some (.slice ya2 yn2 yc2) ∧ V EP H ya2 yn2 yc2 yl2 ∧ exactBase ya2 = true ∧ yn2 ≤ 300000000 ∧ r.cs[3]? = some (.slice ya3 yn3 yc3) ∧ V (EI .i64) H ya3 yn3 yc3 yl3 ∧ exactBase ya3 = true ∧ yn3 ≤ 300000000 ∧ r.cs[4]? = some (.slice ya4 yn4 yc4) ∧ V (EI .i64) H ya4 yn4 yc4 yl4 ∧ exactBase ya4 = true ∧ yn4 ≤ 300000000 ∧ r.cs[5]? = some (.slice ya5 yn5 yc5) ∧ V EB H ya5 yn5 yc5 yl5 ∧ exactBase ya5 = true ∧ yn5 ≤ 300000000 ∧ r.cs[6]? = some (.slice ya6 yn6 yc6) ∧ V EB H ya6 yn6 yc6 yl6 ∧ exactBase ya6 = true ∧ yn6 ≤ 300000000 ∧ r.cs[7]? = some (.slice ya7 yn7 yc7) ∧ V EB H ya7 yn7 yc7 yl7 ∧ exactBase ya7 = true ∧ yn7 ≤ 300000000 ∧ r.cs[8]? = some (.int .i64 yu8) ∧ IntKind.i64.wrap yu8 = yu8 := by
  obtain ⟨r, hr, hw, hR⟩ := h.ex
  have hD := h.lD
  obtain ⟨n0, s0, D0, m0, t0, B0, r0, w0, rfl, rfl, rfl⟩ := hR
  obtain ⟨n1, s1, D1, m1, t1, B1, r1, w1, rfl, rfl, rfl⟩ := w0
  obtain ⟨n2, s2, D2, m2, t2, B2, r2, w2, rfl, rfl, rfl⟩ := w1
  obtain ⟨n3, s3, D3, m3, t3, B3, r3, w3, rfl, rfl, rfl⟩ := w2
  obtain ⟨n4, s4, D4, m4, t4, B4, r4, w4, rfl, rfl, rfl⟩ := w3
  obtain ⟨rfl, rfl, rfl⟩ := w4
  obtain ⟨n5, s5, D5, m5, t5, B5, r5, w5, rfl, rfl, rfl⟩ := r0
  obtain ⟨n6, s6, D6, m6, t6, B6, r6, w6, rfl, rfl, rfl⟩ := w5
  obtain ⟨n7, s7, D7, m7, t7, B7, r7, w7, rfl, rfl, rfl⟩ := w6
  obtain ⟨n8, s8, D8, m8, t8, B8, r8, w8, rfl, rfl, rfl⟩ := w7
  obtain ⟨n9, s9, D9, m9, t9, B9, r9, w9, rfl, rfl, rfl⟩ := w8
  obtain ⟨rfl, rfl, rfl⟩ := w9
  obtain ⟨yu0, k5, z5, -⟩ := r5
  obtain ⟨ya1, yn1, yc1, yl1, k6, v6, e6, g6⟩ := rd_list rdP r6 (fun j hj => hD j (by simp only [List.mem_append, hj, true_or, or_true]))
  obtain ⟨ya2, yn2, yc2, yl2, k7, v7, e7, g7⟩ := rd_list rdP r7 (fun j hj => hD j (by simp only [List.mem_append, hj, true_or, or_true]))
  obtain ⟨ya3, yn3, yc3, yl3, k8, v8, e8, g8⟩ := rd_list (rdI .i64) r8 (fun j hj => hD j (by simp only [List.mem_append, hj, true_or, or_true]))
  obtain ⟨ya4, yn4, yc4, yl4, k9, v9, e9, g9⟩ := rd_list (rdI .i64) r9 (fun j hj => hD j (by simp only [List.mem_append, hj, true_or, or_true]))
  obtain ⟨ya5, yn5, yc5, yl5, k1, v1, e1, g1⟩ := rd_list rdB r1 (fun j hj => hD j (by simp only [List.mem_append, hj, true_or, or_true]))
  obtain ⟨ya6, yn6, yc6, yl6, k2, v2, e2, g2⟩ := rd_list rdB r2 (fun j hj => hD j (by simp only [List.mem_append, hj, true_or, or_true]))
  obtain ⟨ya7, yn7, yc7, yl7, k3, v3, e3, g3⟩ := rd_list rdB r3 (fun j hj => hD j (by simp only [List.mem_append, hj, true_or, or_true]))
  obtain ⟨yu8, k4, z4, -⟩ := r4
  exact ⟨r, yu0, ya1, yn1, yc1, yl1, ya2, yn2, yc2, yl2, ya3, yn3, yc3, yl3, ya4, yn4, yc4, yl4, ya5, yn5, yc5, yl5, ya6, yn6, yc6, yl6, ya7, yn7, yc7, yl7, yu8, hr, k5, z5, k6, v6, e6, (by simp only [List.length_append] at hl; omega), k7, v7, e7, (by simp only [List.length_append] at hl; omega), k8, v8, e8, (by simp only [List.length_append] at hl; omega), k9, v9, e9, (by simp only [List.length_append] at hl; omega), k1, v1, e1, (by simp only [List.length_append] at hl; omega), k2, v2, e2, (by simp only [List.length_append] at hl; omega), k3, v3, e3, (by simp only [List.length_append] at hl; omega), k4, z4⟩
theorem call_22 : CallOK' E0 3 9 42 22 ShValues := by
  intro H bx ns ss D hO hl1 _
  obtain ⟨r, yu0, ya1, yn1, yc1, yl1, ya2, yn2, yc2, yl2, ya3, yn3, yc3, yl3, ya4, yn4, yc4, yl4, ya5, yn5, yc5, yl5, ya6, yn6, yc6, yl6, ya7, yn7, yc7, yl7, yu8, hr, x0, w_u0, x1, h_l1, ex_l1, b_l1, x2, h_l2, ex_l2, b_l2, x3, h_l3, ex_l3, b_l3, x4, h_l4, ex_l4, b_l4, x5, h_l5, ex_l5, b_l5, x6, h_l6, ex_l6, b_l6, x7, h_l7, ex_l7, b_l7, x8, w_u8⟩ := arg_Values hO hl1
  obtain ⟨lo_u0, hi_u0⟩ := rangei64 w_u0
  obtain ⟨len_l1, cap_l1, max_l1, wf_l1⟩ := h_l1.len
  obtain ⟨len_l2, cap_l2, max_l2, wf_l2⟩ := h_l2.len
  obtain ⟨len_l3, cap_l3, max_l3, wf_l3⟩ := h_l3.len
  obtain ⟨len_l4, cap_l4, max_l4, wf_l4⟩ := h_l4.len
  obtain ⟨len_l5, cap_l5, max_l5, wf_l5⟩ := h_l5.len
  obtain ⟨len_l6, cap_l6, max_l6, wf_l6⟩ := h_l6.len
  obtain ⟨len_l7, cap_l7, max_l7, wf_l7⟩ := h_l7.len
  obtain ⟨lo_u8, hi_u8⟩ := rangei64 w_u8
  have m0 : Mem [] H H [] := Mem.start
  refine WF.kg Tryz.func22 rfl rfl ?_
  refine KC.seq ?_
  refine KC.region ?_
  refine KO.pv (PV.assign rfl) rfl rfl ?_
  refine KO.nil ?_
  refine KC.seq ?_
  refine KC.drawG (n := 19) (anc := [0, 1, 3, 7, 0, 16, 48, 112, 0, 256, 768, 1792, 4095, 8191, 16383, 16383, 0, 98303, 262143]) (hv := [12, 17]) (ord := [0, 1, 2, 3, 4, 5, 6, 7, 8, 9, 10, 11, 12, 13, 14, 16, 17, 15, 18]) (by kernel_rfl) (by kernel_rfl) (by kernel_rfl) (by kernel_rfl) (by kernel_rfl) fun H1 n2 g3 => ?_
  have m4 := m0.room n2 g3 [16] (by decide) (by decide)
  refine KD.pv 1 (PV.move rfl) rfl rfl rfl (by kernel_rfl) rfl rfl rfl ?_
  refine KD.pv 3 (PV.nilCheck rfl) rfl rfl rfl (by kernel_rfl) rfl rfl rfl ?_
  refine KD.pv 7 (PV.fieldAddr fo52_0 rfl) rfl rfl rfl (by kernel_rfl) rfl rfl rfl ?_
  refine KD.load 15 rfl (m4.row0 hO.lb hr) (readN ag49 sz49 (takeN_cons x0 (takeN_cons x1 (takeN_cons x2 (takeN_cons x3 (takeN_cons x4 takeN_nil)))))) (pastGo (k := 1) (l := [H1]) (by kernel_rfl) rfl (pastCons ⟨_, (m4.row0 hO.lb hr), (readN ag49 sz49 (takeN_cons x0 (takeN_cons x1 (takeN_cons x2 (takeN_cons x3 (takeN_cons x4 takeN_nil))))))⟩ pastNil)) (veq_agg (veqCons veqI (veqCons veqS (veqCons veqS (veqCons veqS (veqCons veqS veqNil)))))) rfl (by kernel_rfl) rfl rfl rfl ?_
  refine KD.pv 31 (PV.move rfl) rfl rfl rfl (by kernel_rfl) rfl rfl rfl ?_
  refine KD.pv 63 (PV.nilCheck rfl) rfl rfl rfl (by kernel_rfl) rfl rfl rfl ?_
  refine KD.pv 127 (PV.fieldAddr fo52_1 rfl) rfl rfl rfl (by kernel_rfl) rfl rfl rfl ?_
  refine KD.load 255 rfl (m4.row0 hO.lb hr) (by rw [read1 ag50]; exact x5) (pastGo (k := 1) (l := [H1]) (by kernel_rfl) rfl (pastCons ⟨_, (m4.row0 hO.lb hr), (by rw [read1 ag50]; exact x5)⟩ pastNil)) veq_sl rfl (by kernel_rfl) rfl rfl rfl ?_
  refine KD.pv 511 (PV.move rfl) rfl rfl rfl (by kernel_rfl) rfl rfl rfl ?_
  refine KD.pv 1023 (PV.nilCheck rfl) rfl rfl rfl (by kernel_rfl) rfl rfl rfl ?_
  refine KD.pv 2047 (PV.fieldAddr fo52_2 rfl) rfl rfl rfl (by kernel_rfl) rfl rfl rfl ?_
  refine KD.load 4095 rfl (m4.row0 hO.lb hr) (by rw [read1 ag50]; exact x6) (pastGo (k := 1) (l := [H1]) (by kernel_rfl) rfl (pastCons ⟨_, (m4.row0 hO.lb hr), (by rw [read1 ag50]; exact x6)⟩ pastNil)) veq_sl rfl (by kernel_rfl) rfl rfl rfl ?_
  refine KD.call 8191 rfl rfl rfl (by kernel_rfl) rfl rfl rfl (val_All H1 yu0 ya1 yn1 yc1 _ ya2 yn2 yc2 _ ya3 yn3 yc3 _ ya4 yn4 yc4 _ ya5 yn5 yc5 _ ya6 yn6 yc6 _ (wrap64 (by omega) (by omega)) (V.mem m4 h_l1) (V.mem m4 h_l2) (V.mem m4 h_l3) (V.mem m4 h_l4) (V.mem m4 h_l5) (V.mem m4 h_l6)) fun v5 H5 q5 => ?_
  obtain ⟨a5, n5, e5, xs5, D5, hv5, mc5, p5_0, p5_1, p5_2⟩ := q5
  dsimp only at hv5 mc5
  subst hv5
  have m6 := m4.seq mc5
  refine KD.pv 16383 (PV.move rfl) rfl rfl rfl (by kernel_rfl) rfl rfl rfl ?_
  refine KD.pv 32767 (PV.extract rfl rfl) rfl rfl rfl (by kernel_rfl) rfl rfl rfl ?_
  refine KD.allocM 98303 m6 (j := 1) rfl zt50 rfl (by kernel_rfl) rfl rfl rfl fun H7 m8 => ?_
  refine KD.storeM 229375 m8 (j := 1) rfl sz50 rfl rfl rfl (show 0 + 1 ≤ 1 by decide) (show _ = [.slice a5 n5 n5] from rfl) rfl (by kernel_rfl) rfl rfl fun H9 m10 => ?_
  refine KD.pv 262143 (PV.extract rfl rfl) rfl rfl rfl (by kernel_rfl) rfl rfl rfl ?_
  refine KD.pv 524287 (PV.assign rfl) rfl rfl rfl (by kernel_rfl) rfl rfl rfl ?_
  refine KD.nil ⟨rfl, ?_⟩
  refine KC.seq ?_
  refine KC.region ?_
  refine KO.pv (PV.makeFunc rfl rfl) rfl rfl ?_
  refine KO.buildSliceM m10 el32 ez42 rfl rfl (show _ = some [.func (.func 24) #[] #[.pointer (some ⟨(H.next + 16), 0, none⟩)]] from rfl) rfl rfl fun H11 m12 => ?_
  refine KO.pv (PV.assign rfl) rfl rfl ?_
  refine KO.nil ?_
  obtain ⟨nr13, rd13, ln13⟩ := OwnV.rd rdB (m12.res (i := 1) rfl) (cs := [.slice a5 n5 n5]) (o := 0) rfl
  exact KC.ret ⟨rfl, _, (.tmp rfl .nil), call_one (m12.pick [0, 2, 1] (by decide) rfl) rfl (see_24 9) rd13 (by simp [R.own, pickL]) (by omega) (by simp)⟩
theorem call_26 : CallOK' E0 3 9 42 26 ShValues := by
  intro H bx ns ss D hO hl1 _
  obtain ⟨r, yu0, ya1, yn1, yc1, yl1, ya2, yn2, yc2, yl2, ya3, yn3, yc3, yl3, ya4, yn4, yc4, yl4, ya5, yn5, yc5, yl5, ya6, yn6, yc6, yl6, ya7, yn7, yc7, yl7, yu8, hr, x0, w_u0, x1, h_l1, ex_l1, b_l1, x2, h_l2, ex_l2, b_l2, x3, h_l3, ex_l3, b_l3, x4, h_l4, ex_l4, b_l4, x5, h_l5, ex_l5, b_l5, x6, h_l6, ex_l6, b_l6, x7, h_l7, ex_l7, b_l7, x8, w_u8⟩ := arg_Values hO hl1
  obtain ⟨lo_u0, hi_u0⟩ := rangei64 w_u0
  obtain ⟨len_l1, cap_l1, max_l1, wf_l1⟩ := h_l1.len
  obtain ⟨len_l2, cap_l2, max_l2, wf_l2⟩ := h_l2.len
  obtain ⟨len_l3, cap_l3, max_l3, wf_l3⟩ := h_l3.len
  obtain ⟨len_l4, cap_l4, max_l4, wf_l4⟩ := h_l4.len
  obtain ⟨len_l5, cap_l5, max_l5, wf_l5⟩ := h_l5.len
  obtain ⟨len_l6, cap_l6, max_l6, wf_l6⟩ := h_l6.len
  obtain ⟨len_l7, cap_l7, max_l7, wf_l7⟩ := h_l7.len
  obtain ⟨lo_u8, hi_u8⟩ := rangei64 w_u8
  have m0 : Mem [] H H [] := Mem.start
  refine WF.kg Tryz.func26 rfl rfl ?_
  refine KC.seq ?_
  refine KC.region ?_
  refine KO.pv (PV.assign rfl) rfl rfl ?_
  refine KO.nil ?_
  refine KC.seq ?_
  refine KC.drawG (n := 19) (anc := [0, 1, 3, 7, 0, 16, 48, 112, 0, 256, 768, 1792, 4095, 8191, 16383, 16383, 0, 98303, 262143]) (hv := [12, 17]) (ord := [0, 1, 2, 3, 4, 5, 6, 7, 8, 9, 10, 11, 12, 13, 14, 16, 17, 15, 18]) (by kernel_rfl) (by kernel_rfl) (by kernel_rfl) (by kernel_rfl) (by kernel_rfl) fun H1 n2 g3 => ?_
  have m4 := m0.room n2 g3 [16] (by decide) (by decide)
  refine KD.pv 1 (PV.move rfl) rfl rfl rfl (by kernel_rfl) rfl rfl rfl ?_
  refine KD.pv 3 (PV.nilCheck rfl) rfl rfl rfl (by kernel_rfl) rfl rfl rfl ?_
  refine KD.pv 7 (PV.fieldAddr fo52_0 rfl) rfl rfl rfl (by kernel_rfl) rfl rfl rfl ?_
  refine KD.load 15 rfl (m4.row0 hO.lb hr) (readN ag49 sz49 (takeN_cons x0 (takeN_cons x1 (takeN_cons x2 (takeN_cons x3 (takeN_cons x4 takeN_nil)))))) (pastGo (k := 1) (l := [H1]) (by kernel_rfl) rfl (pastCons ⟨_, (m4.row0 hO.lb hr), (readN ag49 sz49 (takeN_cons x0 (takeN_cons x1 (takeN_cons x2 (takeN_cons x3 (takeN_cons x4 takeN_nil))))))⟩ pastNil)) (veq_agg (veqCons veqI (veqCons veqS (veqCons veqS (veqCons veqS (veqCons veqS veqNil)))))) rfl (by kernel_rfl) rfl rfl rfl ?_
  refine KD.pv 31 (PV.move rfl) rfl rfl rfl (by kernel_rfl) rfl rfl rfl ?_
  refine KD.pv 63 (PV.nilCheck rfl) rfl rfl rfl (by kernel_rfl) rfl rfl rfl ?_
  refine KD.pv 127 (PV.fieldAddr fo52_1 rfl) rfl rfl rfl (by kernel_rfl) rfl rfl rfl ?_
  refine KD.load 255 rfl (m4.row0 hO.lb hr) (by rw [read1 ag50]; exact x5) (pastGo (k := 1) (l := [H1]) (by kernel_rfl) rfl (pastCons ⟨_, (m4.row0 hO.lb hr), (by rw [read1 ag50]; exact x5)⟩ pastNil)) veq_sl rfl (by kernel_rfl) rfl rfl rfl ?_
  refine KD.pv 511 (PV.move rfl) rfl rfl rfl (by kernel_rfl) rfl rfl rfl ?_
  refine KD.pv 1023 (PV.nilCheck rfl) rfl rfl rfl (by kernel_rfl) rfl rfl rfl ?_
  refine KD.pv 2047 (PV.fieldAddr fo52_2 rfl) rfl rfl rfl (by kernel_rfl) rfl rfl rfl ?_
  refine KD.load 4095 rfl (m4.row0 hO.lb hr) (by rw [read1 ag50]; exact x6) (pastGo (k := 1) (l := [H1]) (by kernel_rfl) rfl (pastCons ⟨_, (m4.row0 hO.lb hr), (by rw [read1 ag50]; exact x6)⟩ pastNil)) veq_sl rfl (by kernel_rfl) rfl rfl rfl ?_
  refine KD.call 8191 rfl rfl rfl (by kernel_rfl) rfl rfl rfl (val_Next H1 yu0 ya1 yn1 yc1 _ ya2 yn2 yc2 _ ya3 yn3 yc3 _ ya4 yn4 yc4 _ ya5 yn5 yc5 _ ya6 yn6 yc6 _ (wrap64 (by omega) (by omega)) (V.mem m4 h_l1) (V.mem m4 h_l2) (V.mem m4 h_l3) (V.mem m4 h_l4) (V.mem m4 h_l5) (V.mem m4 h_l6) (by first | omega | assumption)) fun v5 H5 q5 => ?_
  obtain ⟨a5, n5, e5, xs5, D5, hv5, mc5, p5_0⟩ := q5
  dsimp only at hv5 mc5
  subst hv5
  have m6 := m4.seq mc5
  refine KD.pv 16383 (PV.move rfl) rfl rfl rfl (by kernel_rfl) rfl rfl rfl ?_
  refine KD.pv 32767 (PV.extract rfl rfl) rfl rfl rfl (by kernel_rfl) rfl rfl rfl ?_
  refine KD.allocM 98303 m6 (j := 1) rfl zt50 rfl (by kernel_rfl) rfl rfl rfl fun H7 m8 => ?_
  refine KD.storeM 229375 m8 (j := 1) rfl sz50 rfl rfl rfl (show 0 + 1 ≤ 1 by decide) (show _ = [.slice a5 n5 n5] from rfl) rfl (by kernel_rfl) rfl rfl fun H9 m10 => ?_
  refine KD.pv 262143 (PV.extract rfl rfl) rfl rfl rfl (by kernel_rfl) rfl rfl rfl ?_
  refine KD.pv 524287 (PV.assign rfl) rfl rfl rfl (by kernel_rfl) rfl rfl rfl ?_
  refine KD.nil ⟨rfl, ?_⟩
  refine KC.seq ?_
  refine KC.region ?_
  refine KO.pv (PV.makeFunc rfl rfl) rfl rfl ?_
  refine KO.buildSliceM m10 el32 ez42 rfl rfl (show _ = some [.func (.func 28) #[] #[.pointer (some ⟨(H.next + 16), 0, none⟩)]] from rfl) rfl rfl fun H11 m12 => ?_
  refine KO.pv (PV.assign rfl) rfl rfl ?_
  refine KO.nil ?_
  have m13 := m12.ownLst (C := EB) (i := 1) rfl (fun _ _ => trivial) (by first | omega | (simp only [splice, List.length_append, List.length_set, List.length_replicate, List.length_map, List.length_take, List.length_drop, List.length_cons, List.length_nil]; omega))
  obtain ⟨nr14, rd14, ln14⟩ := OwnV.rd rdB (m13.res (i := 1) rfl) (cs := [.slice a5 n5 n5]) (o := 0) rfl
  exact KC.ret ⟨rfl, _, (.tmp rfl .nil), call_one (m13.pick [0, 2, 1] (by decide) rfl) rfl (see_28 9) rd14 (by simp [R.own, pickL]) (by omega) (by simp)⟩
theorem call_29 : CallOK' E0 3 9 42 29 ShValues := by
  intro H bx ns ss D hO hl1 _
  obtain ⟨r, yu0, ya1, yn1, yc1, yl1, ya2, yn2, yc2, yl2, ya3, yn3, yc3, yl3, ya4, yn4, yc4, yl4, ya5, yn5, yc5, yl5, ya6, yn6, yc6, yl6, ya7, yn7, yc7, yl7, yu8, hr, x0, w_u0, x1, h_l1, ex_l1, b_l1, x2, h_l2, ex_l2, b_l2, x3, h_l3, ex_l3, b_l3, x4, h_l4, ex_l4, b_l4, x5, h_l5, ex_l5, b_l5, x6, h_l6, ex_l6, b_l6, x7, h_l7, ex_l7, b_l7, x8, w_u8⟩ := arg_Values hO hl1
  obtain ⟨lo_u0, hi_u0⟩ := rangei64 w_u0
  obtain ⟨len_l1, cap_l1, max_l1, wf_l1⟩ := h_l1.len
  obtain ⟨len_l2, cap_l2, max_l2, wf_l2⟩ := h_l2.len
  obtain ⟨len_l3, cap_l3, max_l3, wf_l3⟩ := h_l3.len
  obtain ⟨len_l4, cap_l4, max_l4, wf_l4⟩ := h_l4.len
  obtain ⟨len_l5, cap_l5, max_l5, wf_l5⟩ := h_l5.len
  obtain ⟨len_l6, cap_l6, max_l6, wf_l6⟩ := h_l6.len
  obtain ⟨len_l7, cap_l7, max_l7, wf_l7⟩ := h_l7.len
  obtain ⟨lo_u8, hi_u8⟩ := rangei64 w_u8
  have m0 : Mem [] H H [] := Mem.start
  refine WF.kg Tryz.func29 rfl rfl ?_
  refine KC.seq ?_
  refine KC.region ?_
  refine KO.pv (PV.assign rfl) rfl rfl ?_
  refine KO.nil ?_
  refine KC.seq ?_
  refine KC.drawG (n := 21) (anc := [0, 1, 3, 7, 0, 16, 48, 112, 0, 256, 768, 1792, 4095, 8191, 16383, 16383, 16383, 0, 163839, 458751, 1048575]) (hv := [12, 19]) (ord := [0, 1, 2, 3, 4, 5, 6, 7, 8, 9, 10, 11, 12, 13, 14, 15, 17, 18, 19, 16, 20]) (by kernel_rfl) (by kernel_rfl) (by kernel_rfl) (by kernel_rfl) (by kernel_rfl) fun H1 n2 g3 => ?_
  have m4 := m0.room n2 g3 [17] (by decide) (by decide)
  refine KD.pv 1 (PV.move rfl) rfl rfl rfl (by kernel_rfl) rfl rfl rfl ?_
  refine KD.pv 3 (PV.nilCheck rfl) rfl rfl rfl (by kernel_rfl) rfl rfl rfl ?_
  refine KD.pv 7 (PV.fieldAddr fo52_0 rfl) rfl rfl rfl (by kernel_rfl) rfl rfl rfl ?_
  refine KD.load 15 rfl (m4.row0 hO.lb hr) (readN ag49 sz49 (takeN_cons x0 (takeN_cons x1 (takeN_cons x2 (takeN_cons x3 (takeN_cons x4 takeN_nil)))))) (pastGo (k := 1) (l := [H1]) (by kernel_rfl) rfl (pastCons ⟨_, (m4.row0 hO.lb hr), (readN ag49 sz49 (takeN_cons x0 (takeN_cons x1 (takeN_cons x2 (takeN_cons x3 (takeN_cons x4 takeN_nil))))))⟩ pastNil)) (veq_agg (veqCons veqI (veqCons veqS (veqCons veqS (veqCons veqS (veqCons veqS veqNil)))))) rfl (by kernel_rfl) rfl rfl rfl ?_
  refine KD.pv 31 (PV.move rfl) rfl rfl rfl (by kernel_rfl) rfl rfl rfl ?_
  refine KD.pv 63 (PV.nilCheck rfl) rfl rfl rfl (by kernel_rfl) rfl rfl rfl ?_
  refine KD.pv 127 (PV.fieldAddr fo52_1 rfl) rfl rfl rfl (by kernel_rfl) rfl rfl rfl ?_
  refine KD.load 255 rfl (m4.row0 hO.lb hr) (by rw [read1 ag50]; exact x5) (pastGo (k := 1) (l := [H1]) (by kernel_rfl) rfl (pastCons ⟨_, (m4.row0 hO.lb hr), (by rw [read1 ag50]; exact x5)⟩ pastNil)) veq_sl rfl (by kernel_rfl) rfl rfl rfl ?_
  refine KD.pv 511 (PV.move rfl) rfl rfl rfl (by kernel_rfl) rfl rfl rfl ?_
  refine KD.pv 1023 (PV.nilCheck rfl) rfl rfl rfl (by kernel_rfl) rfl rfl rfl ?_
  refine KD.pv 2047 (PV.fieldAddr fo52_2 rfl) rfl rfl rfl (by kernel_rfl) rfl rfl rfl ?_
  refine KD.load 4095 rfl (m4.row0 hO.lb hr) (by rw [read1 ag50]; exact x6) (pastGo (k := 1) (l := [H1]) (by kernel_rfl) rfl (pastCons ⟨_, (m4.row0 hO.lb hr), (by rw [read1 ag50]; exact x6)⟩ pastNil)) veq_sl rfl (by kernel_rfl) rfl rfl rfl ?_
  refine KD.call 8191 rfl rfl rfl (by kernel_rfl) rfl rfl rfl (val_Props H1 yu0 ya1 yn1 yc1 _ ya2 yn2 yc2 _ ya3 yn3 yc3 _ ya4 yn4 yc4 _ ya5 yn5 yc5 _ ya6 yn6 yc6 _ (wrap64 (by omega) (by omega)) (V.mem m4 h_l1) (V.mem m4 h_l2) (V.mem m4 h_l3) (V.mem m4 h_l4) (V.mem m4 h_l5) (V.mem m4 h_l6) (by first | omega | assumption) (by first | omega | assumption)) fun v5 H5 q5 => ?_
  obtain ⟨o5, a5, n5, e5, xs5, D5, hv5, mc5, p5_0⟩ := q5
  dsimp only at hv5 mc5
  subst hv5
  have m6 := m4.seq mc5
  refine KD.pv 16383 (PV.move rfl) rfl rfl rfl (by kernel_rfl) rfl rfl rfl ?_
  refine KD.pv 32767 (PV.extract rfl rfl) rfl rfl rfl (by kernel_rfl) rfl rfl rfl ?_
  refine KD.pv 65535 (PV.extract rfl rfl) rfl rfl rfl (by kernel_rfl) rfl rfl rfl ?_
  refine KD.allocM 196607 m6 (j := 1) rfl zt50 rfl (by kernel_rfl) rfl rfl rfl fun H7 m8 => ?_
  refine KD.pv 458751 (PV.assign rfl) rfl rfl rfl (by kernel_rfl) rfl rfl rfl ?_
  refine KD.storeM 983039 m8 (j := 1) rfl sz50 rfl rfl rfl (show 0 + 1 ≤ 1 by decide) (show _ = [.slice a5 n5 n5] from rfl) rfl (by kernel_rfl) rfl rfl fun H9 m10 => ?_
  refine KD.pv 1048575 (PV.extract rfl rfl) rfl rfl rfl (by kernel_rfl) rfl rfl rfl ?_
  refine KD.pv 2097151 (PV.assign rfl) rfl rfl rfl (by kernel_rfl) rfl rfl rfl ?_
  refine KD.nil ⟨rfl, ?_⟩
  refine KC.seq ?_
  refine KC.region ?_
  refine KO.pv (PV.makeFunc rfl rfl) rfl rfl ?_
  refine KO.buildSliceM m10 el32 ez42 rfl rfl (show _ = some [.func (.func 31) #[] #[.pointer (some ⟨(H.next + 17), 0, none⟩)]] from rfl) rfl rfl fun H11 m12 => ?_
  refine KO.pv (PV.assign rfl) rfl rfl ?_
  refine KO.nil ?_
  have m13 := m12.ownLst (C := EB) (i := 1) rfl (fun _ _ => trivial) (by first | omega | (simp only [splice, List.length_append, List.length_set, List.length_replicate, List.length_map, List.length_take, List.length_drop, List.length_cons, List.length_nil]; omega))
  obtain ⟨nr14, rd14, ln14⟩ := OwnV.rd rdB (m13.res (i := 1) rfl) (cs := [.slice a5 n5 n5]) (o := 0) rfl
  exact KC.ret ⟨rfl, _, (.tmp rfl .nil), call_one (m13.pick [0, 2, 1] (by decide) rfl) rfl (see_31 9) rd14 (by simp [R.own, pickL]) (by omega) (by simp)⟩
theorem call_32 : CallOK' E0 3 9 42 32 ShValues := by
  intro H bx ns ss D hO hl1 _
  obtain ⟨r, yu0, ya1, yn1, yc1, yl1, ya2, yn2, yc2, yl2, ya3, yn3, yc3, yl3, ya4, yn4, yc4, yl4, ya5, yn5, yc5, yl5, ya6, yn6, yc6, yl6, ya7, yn7, yc7, yl7, yu8, hr, x0, w_u0, x1, h_l1, ex_l1, b_l1, x2, h_l2, ex_l2, b_l2, x3, h_l3, ex_l3, b_l3, x4, h_l4, ex_l4, b_l4, x5, h_l5, ex_l5, b_l5, x6, h_l6, ex_l6, b_l6, x7, h_l7, ex_l7, b_l7, x8, w_u8⟩ := arg_Values hO hl1
  obtain ⟨lo_u0, hi_u0⟩ := rangei64 w_u0
  obtain ⟨len_l1, cap_l1, max_l1, wf_l1⟩ := h_l1.len
  obtain ⟨len_l2, cap_l2, max_l2, wf_l2⟩ := h_l2.len
  obtain ⟨len_l3, cap_l3, max_l3, wf_l3⟩ := h_l3.len
  obtain ⟨len_l4, cap_l4, max_l4, wf_l4⟩ := h_l4.len
  obtain ⟨len_l5, cap_l5, max_l5, wf_l5⟩ := h_l5.len
  obtain ⟨len_l6, cap_l6, max_l6, wf_l6⟩ := h_l6.len
  obtain ⟨len_l7, cap_l7, max_l7, wf_l7⟩ := h_l7.len
  obtain ⟨lo_u8, hi_u8⟩ := rangei64 w_u8
  have m0 : Mem [] H H [] := Mem.start
  refine WF.kg Tryz.func32 rfl rfl ?_
  refine KC.seq ?_
  refine KC.region ?_
  refine KO.pv (PV.assign rfl) rfl rfl ?_
  refine KO.nil ?_
  refine KC.seq ?_
  refine KC.drawG (n := 9) (anc := [0, 1, 3, 7, 0, 16, 48, 112, 255]) (hv := [8]) (ord := [0, 1, 2, 3, 4, 5, 6, 7, 8]) (by kernel_rfl) (by kernel_rfl) (by kernel_rfl) (by kernel_rfl) (by kernel_rfl) fun H1 n2 g3 => ?_
  have m4 := m0.room n2 g3 [] (by decide) (by decide)
  refine KD.pv 1 (PV.move rfl) rfl rfl rfl (by kernel_rfl) rfl rfl rfl ?_
  refine KD.pv 3 (PV.nilCheck rfl) rfl rfl rfl (by kernel_rfl) rfl rfl rfl ?_
  refine KD.pv 7 (PV.fieldAddr fo52_3 rfl) rfl rfl rfl (by kernel_rfl) rfl rfl rfl ?_
  refine KD.load 15 rfl (m4.row0 hO.lb hr) (by rw [read1 ag50]; exact x7) (pastGo (k := 1) (l := [H1]) (by kernel_rfl) rfl (pastCons ⟨_, (m4.row0 hO.lb hr), (by rw [read1 ag50]; exact x7)⟩ pastNil)) veq_sl rfl (by kernel_rfl) rfl rfl rfl ?_
  refine KD.pv 31 (PV.move rfl) rfl rfl rfl (by kernel_rfl) rfl rfl rfl ?_
  refine KD.pv 63 (PV.nilCheck rfl) rfl rfl rfl (by kernel_rfl) rfl rfl rfl ?_
  refine KD.pv 127 (PV.fieldAddr fo52_4 rfl) rfl rfl rfl (by kernel_rfl) rfl rfl rfl ?_
  refine KD.load 255 rfl (m4.row0 hO.lb hr) (by rw [read1 ag3]; exact x8) (pastGo (k := 1) (l := [H1]) (by kernel_rfl) rfl (pastCons ⟨_, (m4.row0 hO.lb hr), (by rw [read1 ag3]; exact x8)⟩ pastNil)) veq_int rfl (by kernel_rfl) rfl rfl rfl ?_
  refine KD.call 511 rfl rfl rfl (by kernel_rfl) rfl rfl rfl (val_Of H1 ya7 yn7 yc7 _ yu8 (V.mem m4 h_l7) (wrap64 (by omega) (by omega))) fun v5 H5 q5 => ?_
  obtain ⟨o5, e5, hv5, mc5⟩ := q5
  dsimp only at hv5 mc5
  subst hv5
  have m6 := m4.seq mc5
  refine KD.nil ⟨rfl, ?_⟩
  refine KC.seq ?_
  refine KC.region ?_
  refine KO.pv (PV.assign rfl) rfl rfl ?_
  refine KO.nil ?_
  exact KC.ret ⟨rfl, _, (.tmp rfl .nil), call_none m6⟩
end Go.Eng

namespace Go.Eng
open Go Go.Proofs
theorem top_4 (w : Bool × Bool) (hwS : Sh.bools (.fld 0 (.fld 0 (.num .i64) (.fld 1 (.list 2 (.fld 0 (.num .i64) (.fld 1 (.num .i64) .nil))) (.fld 2 (.list 2 (.fld 0 (.num .i64) (.fld 1 (.num .i64) .nil))) (.fld 3 (.list 1 (.num .i64)) (.fld 4 (.list 1 (.num .i64)) .nil))))) (.fld 5 (.list 1 .bool) (.fld 6 (.list 1 .bool) (.fld 7 (.list 1 .bool) (.fld 8 (.num .i64) .nil))))) = true → w.1 = true) (H : AHeap) (cs : List Value) (ns : List Int) (ss : List ByteArray) (D : List Nat) (hcl : cs.length = 9) (hone : cs.all oneC = true) (hR : Rd H ⟨false, w.1, w.2⟩ (.fld 0 (.fld 0 (.num .i64) (.fld 1 (.list 2 (.fld 0 (.num .i64) (.fld 1 (.num .i64) .nil))) (.fld 2 (.list 2 (.fld 0 (.num .i64) (.fld 1 (.num .i64) .nil))) (.fld 3 (.list 1 (.num .i64)) (.fld 4 (.list 1 (.num .i64)) .nil))))) (.fld 5 (.list 1 .bool) (.fld 6 (.list 1 .bool) (.fld 7 (.list 1 .bool) (.fld 8 (.num .i64) .nil))))) cs 0 ns ss D) (hD : ∀ j ∈ D, j < H.next) (l1 : ns.length ≤ 10000000) (l2 : ss.length ≤ 10000000) :
    WF E0 4 [.agg cs.toArray] H fun q => q.1 = .bool true := by
  have hcalls : ∀ f ∈ ([22, 26, 29, 32] : List FuncId), CallOK' E0 3 9 42 f (.fld 0 (.fld 0 (.num .i64) (.fld 1 (.list 2 (.fld 0 (.num .i64) (.fld 1 (.num .i64) .nil))) (.fld 2 (.list 2 (.fld 0 (.num .i64) (.fld 1 (.num .i64) .nil))) (.fld 3 (.list 1 (.num .i64)) (.fld 4 (.list 1 (.num .i64)) .nil))))) (.fld 5 (.list 1 .bool) (.fld 6 (.list 1 .bool) (.fld 7 (.list 1 .bool) (.fld 8 (.num .i64) .nil))))) ∧ E0.ext f = none := by
    intro f hf
    simp only [List.mem_cons, List.not_mem_nil, or_false] at hf
    rcases hf with rfl | rfl | rfl | rfl
    · exact ⟨call_22, rfl⟩
    · exact ⟨call_26, rfl⟩
    · exact ⟨call_29, rfl⟩
    · exact ⟨call_32, rfl⟩
  refine WF.k Tryz.func4 rfl rfl ?_
  refine KC.seq (KC.region ?_)
  refine KO.box (rfl) ((boxAgg hone)) rfl rfl fun G0 u0 => ?_
  refine KO.pv (PV.assign rfl) rfl rfl ?_
  refine KO.nil ?_
  rw [show cellsV (.agg cs.toArray) = cs by simp [cellsV]] at u0
  have hX : G0.row H.next = some ⟨52, true, true, cs⟩ := by rw [u0.row, if_pos rfl]
  have hn0 := u0.next
  refine KC.seq (KC.region ?_)
  refine KO.loadN ag52 sz52 rfl (hX) ((takeN_of (p := cs) (by rw [List.drop_zero, ← hcl, List.take_length]) hcl)) rfl rfl ?_
  refine KO.buildSlice el66 ez61 rfl rfl (rfl) rfl rfl fun G1 u1 => ?_
  refine KO.call rfl rfl rfl rfl (apart_19 (own := 20) (see := 21) (calls := [22, 26, 29, 32]) own_20 (see_21 9) hcalls rfl rfl (by decide) G1 cs ns ss D hcl hone w hwS (hR.frame fun j hj => by have := hD j hj; rw [u1.row, if_neg (by omega), u0.row, if_neg (by omega)]) (fun j hj => by have := hD j hj; rw [u1.next]; omega) l1 l2 G0.next (by rw [u1.row, if_pos rfl]; rfl) (by rw [u1.next]; omega)) fun v2 G2 q2 => ?_
  dsimp only at q2
  subst q2
  refine KO.pv (PV.move rfl) rfl rfl ?_
  refine KO.call rfl rfl rfl rfl (WF.sum (Q := fun q => q.1 = .bool true) rfl rfl) fun v3 G3 q3 => ?_
  dsimp only at q3
  subst q3
  refine KO.pv (PV.pickT rfl rfl rfl) rfl rfl ?_
  refine KO.pv (PV.assign rfl) rfl rfl ?_
  refine KO.nil ?_
  exact KC.ret ⟨rfl, _, rfl, rfl⟩

end Go.Eng
