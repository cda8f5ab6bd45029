/- Functions of the program and of the library keep their contracts. Conditions: none beyond each theorem's own. -/
import Derived.Test.YtjmmbonjfaifnaaGreatDoorUnrollB2
import Derived.KernelRfl
set_option linter.all false
namespace Go.Eng
open Go Go.Proofs
theorem ag3_B3 : isAggT E0.P 3 = some false := by kernel_rfl
theorem sz3_B3 : sizeT E0.P 3 = some 1 := by kernel_rfl
theorem un22_B3 : E0.P.underlying 22 = some (.slice 3) := by kernel_rfl
theorem cl_Make (H : AHeap) (v : Int) (a_l : Option Addr) (n_l c_l : Nat) (l : List Int) (w_v : IntKind.i64.wrap v = v) (h_l : V (EI .i64) H a_l n_l c_l l) (hb : n_l ≤ 330000000) : WF E0 24 [.int .i64 v, .slice a_l n_l c_l] H fun q => ∃ (a : Option Addr) (k : Nat) (n : Nat) (ys : List Int) (D : List Nat) (o : Bool) (e : Int), q.1 = .tuple #[.slice a k n, .bool o, .int .i64 e] ∧ Mem [] H q.2 [R.own (EI .i64) a k n ys D] ∧ (ys.length = k ∧ k ≤ n_l ∧ n ≤ n_l) ∧ (∀ u ∈ ys, (EI .i64).wf u) ∧ (e = 0 → 0 ≤ v ∧ v ≤ 4000 ∧ ∀ u ∈ ys, 2 ≤ u ∧ u / 2 ≤ v) ∧ (0 ≤ e ∧ e ≤ 100) := by
  obtain ⟨lo_v, hi_v⟩ := rangei64 w_v
  obtain ⟨len_l, cap_l, max_l, wf_l⟩ := h_l.len
  have m0 : Mem [] H H [] := Mem.start
  refine WF.kg Tryz.func24 rfl rfl ?_
  refine KC.seq ?_
  refine KC.region ?_
  refine KO.pv (PV.assign rfl) rfl rfl ?_
  refine KO.pv (PV.assign rfl) rfl rfl ?_
  refine KO.pv (PV.assign rfl) rfl rfl ?_
  refine KO.nil ?_
  refine KC.seq ?_
  refine KC.seq ?_
  refine KC.region ?_
  refine KO.pv (PV.move rfl) rfl rfl ?_
  by_cases h1 : v < 0
  · refine KO.pv (PV.lssD rfl rfl (decide_eq_true h1)) rfl rfl ?_
    refine KO.pv (PV.move rfl) rfl rfl ?_
    refine KO.no rfl rfl rfl ?_
    refine KO.no rfl rfl rfl ?_
    refine KO.pv (PV.pickT rfl rfl rfl) rfl rfl ?_
    refine KO.nil ?_
    refine KC.condT rfl ?_
    refine KC.seq ?_
    refine KC.region ?_
    refine KO.pv (PV.assign rfl) rfl rfl ?_
    refine KO.pv (PV.assign rfl) rfl rfl ?_
    refine KO.pv (PV.assign rfl) rfl rfl ?_
    refine KO.nil ?_
    have m2 := m0.ownNil (C := (EI .i64))
    exact KC.ret ⟨rfl, _, (.tmp rfl (.tmp rfl (.tmp rfl .nil))), none, 0, 0, [], [], false, 2, rfl, m2.pick [0] (by decide) rfl, (by first | omega | (intro h; omega) | (simp only [List.length_nil, true_and, and_true, or_true, true_or] <;> omega)), (by first | omega | (intro h; omega) | (simp only [List.length_nil, true_and, and_true, or_true, true_or] <;> omega) | exact all_nil | assumption), (by first | omega | (intro h; omega) | (simp only [List.length_nil, true_and, and_true, or_true, true_or] <;> omega) | (exact fun _ => ⟨by omega, by omega, all_nil⟩) | (exact fun _ => ⟨by omega, by omega, hy⟩)), (by first | omega | (intro h; omega) | (simp only [List.length_nil, true_and, and_true, or_true, true_or] <;> omega))⟩
  · refine KO.pv (PV.lssD rfl rfl (decide_eq_false h1)) rfl rfl ?_
    refine KO.pv (PV.move rfl) rfl rfl ?_
    refine KO.pv (PV.move rfl) rfl rfl ?_
    refine KO.pv (PV.gtrD rfl rfl rfl) rfl rfl ?_
    refine KO.pv (PV.pickF rfl rfl rfl) rfl rfl ?_
    refine KO.nil ?_
    refine KC.condD rfl (fun h3 => ?_) (fun h3 => ?_)
    · refine KC.seq ?_
      refine KC.region ?_
      refine KO.pv (PV.assign rfl) rfl rfl ?_
      refine KO.pv (PV.assign rfl) rfl rfl ?_
      refine KO.pv (PV.assign rfl) rfl rfl ?_
      refine KO.nil ?_
      have m4 := m0.ownNil (C := (EI .i64))
      exact KC.ret ⟨rfl, _, (.tmp rfl (.tmp rfl (.tmp rfl .nil))), none, 0, 0, [], [], false, 2, rfl, m4.pick [0] (by decide) rfl, (by first | omega | (intro h; omega) | (simp only [List.length_nil, true_and, and_true, or_true, true_or] <;> omega)), (by first | omega | (intro h; omega) | (simp only [List.length_nil, true_and, and_true, or_true, true_or] <;> omega) | exact all_nil | assumption), (by first | omega | (intro h; omega) | (simp only [List.length_nil, true_and, and_true, or_true, true_or] <;> omega) | (exact fun _ => ⟨by omega, by omega, all_nil⟩) | (exact fun _ => ⟨by omega, by omega, hy⟩)), (by first | omega | (intro h; omega) | (simp only [List.length_nil, true_and, and_true, or_true, true_or] <;> omega))⟩
    · refine KC.skip ?_
      refine KC.seq ?_
      refine KC.seq ?_
      refine KC.region ?_
      refine KO.pv (PV.move rfl) rfl rfl ?_
      refine KO.pv (PV.len un22_B3 rfl) rfl rfl ?_
      refine KO.pv (PV.move rfl) rfl rfl ?_
      refine KO.nil ?_
      refine KC.block ?_
      refine KC.sub (l' := [(0, .int .i64 v), (1, .slice a_l n_l c_l), (16, .slice a_l n_l c_l), (17, .int .i64 (n_l : Int)), (18, .int .i64 0)]) (.cons rfl (.cons rfl (.cons rfl (.cons rfl (.cons rfl .nil))))) ?_
      refine KC.loopN (fun kq lq A => ∃ (x18 : Int), kq = ((n_l : Int) - x18).toNat ∧ lq = [(0, .int .i64 v), (1, .slice a_l n_l c_l), (16, .slice a_l n_l c_l), (17, .int .i64 (n_l : Int)), (18, .int .i64 x18)] ∧ Mem [] H A [] ∧ (0 ≤ x18 ∧ x18 ≤ (n_l : Int)) ∧ (Ahead l x18 fun _ u => 2 ≤ u ∧ u / 2 ≤ v)) ?_ (((n_l : Int) - 0).toNat) ⟨0, rfl, rfl, (m0.pick [] (by decide) rfl), (by first | omega | assumption | (constructor <;> omega)), Ahead.zero⟩
      rintro kq lq A5 ⟨x18, rfl, rfl, m6, hr4, hpre⟩
      refine KC.seq ?_
      refine KC.region ?_
      refine KO.pv (PV.lssD rfl rfl rfl) rfl rfl ?_
      refine KO.nil ?_
      refine KC.seq ?_
      refine KC.condD rfl (fun h7 => ?_) (fun h7 => ?_)
      · refine KC.skip ?_
        refine KC.seq ?_
        refine KC.block ?_
        refine KC.seq ?_
        refine KC.region ?_
        obtain ⟨b8, o8, p8, r8, e8, ha8, hb8, hr8, hx8, hw8, hc8, ht8⟩ := V.at_ h_l (z := x18) (by omega) (by omega)
        have hc8_0 : r8.cs[o8 + (x18).toNat * 1 + 0]? = some (.int .i64 e8) := hc8 0 (by decide)
        have hw8 : IntKind.i64.wrap e8 = e8 := hw8
        obtain ⟨lo8, hi8⟩ := rangei64 hw8
        refine KO.pv (PV.indexAddrZ un22_B3 sz3_B3 rfl ha8 rfl (by omega) (by omega)) rfl rfl ?_
        refine KO.load1 ag3_B3 rfl (m6.row0 hb8 hr8) hc8_0 rfl rfl ?_
        refine KO.pv (PV.assign rfl) rfl rfl ?_
        refine KO.nil ?_
        refine KC.seq ?_
        refine KC.region ?_
        refine KO.pv (PV.move rfl) rfl rfl ?_
        refine KO.pv (PV.move rfl) rfl rfl ?_
        refine KO.call rfl rfl rfl rfl (cl_known A5 v e8 (wrap64 (by omega) (by omega)) (wrap64 (by omega) (by omega))) fun v9 H9 q9 => ?_
        obtain ⟨o9, hv9, mc9, p9_0, p9_1⟩ := q9
        dsimp only at hv9 mc9
        subst hv9
        have m10 := m6.seq mc9
        rcases Bool.eq_false_or_eq_true o9 with h11 | h11
        · subst h11
          have p9_0t := p9_0 rfl
          refine KO.pv (PV.notB rfl rfl) rfl rfl ?_
          refine KO.nil ?_
          refine KC.condF rfl ?_
          refine KC.skip ?_
          refine KC.region ?_
          refine KO.pv (PV.add rfl rfl (wrap64 (by omega) (by omega))) rfl rfl ?_
          refine KO.pv (PV.move rfl) rfl rfl ?_
          refine KO.nil ?_
          exact ⟨_, _, (by omega), (.cons rfl (.cons rfl (.cons rfl (.cons rfl (.cons rfl .nil))))), (x18 + 1), rfl, rfl, (m10.pick [] (by decide) rfl), (by first | omega | assumption | (constructor <;> omega)), (hpre.step (by assumption) (by omega) (by assumption))⟩
        · subst h11
          have p9_1t := p9_1 rfl
          refine KO.pv (PV.notB rfl rfl) rfl rfl ?_
          refine KO.nil ?_
          refine KC.condT rfl ?_
          refine KC.seq ?_
          refine KC.region ?_
          refine KO.pv (PV.assign rfl) rfl rfl ?_
          refine KO.pv (PV.assign rfl) rfl rfl ?_
          refine KO.pv (PV.assign rfl) rfl rfl ?_
          refine KO.nil ?_
          have m12 := m10.ownNil (C := (EI .i64))
          exact KC.ret ⟨rfl, _, (.tmp rfl (.tmp rfl (.tmp rfl .nil))), none, 0, 0, [], [], false, 8, rfl, m12.pick [0] (by decide) rfl, (by first | omega | (intro h; omega) | (simp only [List.length_nil, true_and, and_true, or_true, true_or] <;> omega)), (by first | omega | (intro h; omega) | (simp only [List.length_nil, true_and, and_true, or_true, true_or] <;> omega) | exact all_nil | assumption), (by first | omega | (intro h; omega) | (simp only [List.length_nil, true_and, and_true, or_true, true_or] <;> omega) | (exact fun _ => ⟨by omega, by omega, all_nil⟩) | (exact fun _ => ⟨by omega, by omega, hy⟩)), (by first | omega | (intro h; omega) | (simp only [List.length_nil, true_and, and_true, or_true, true_or] <;> omega))⟩
      · refine KC.exit ?_
        have hk := hpre.mem len_l (by omega)
        refine KC.seq ?_
        refine KC.region ?_
        refine KO.pv (PV.move rfl) rfl rfl ?_
        refine KO.call rfl rfl rfl rfl (Clone_int A5 a_l n_l c_l _ (V.mem m6 h_l) (by first | omega | assumption)) fun v13 H13 q13 => ?_
        obtain ⟨a13, n13, xs13, D13, hv13, mc13, p13_0, p13_1, p13_2, p13_3⟩ := q13
        dsimp only at hv13 mc13
        subst hv13
        have m14 := m6.seq mc13
        refine KO.pv (PV.assign rfl) rfl rfl ?_
        refine KO.nil ?_
        refine KC.seq ?_
        refine KC.region ?_
        refine KO.pv (PV.move rfl) rfl rfl ?_
        refine KO.call rfl rfl rfl rfl (Sort_int H13 a13 n13 _ _ (m14.res (i := 0) rfl) (m14.lt (i := 0) rfl) (by assumption) (by first | omega | assumption)) fun v15 H15 q15 => ?_
        obtain ⟨ys15, hv15, mc15, p15_0, p15_1, p15_2, p15_3⟩ := q15
        dsimp only at hv15 mc15
        subst hv15
        have m16 := m14.seqR (i := 0) rfl mc15
        refine KO.nil ?_
        refine KC.seq ?_
        refine KC.region ?_
        refine KO.pv (PV.move rfl) rfl rfl ?_
        refine KO.call rfl rfl rfl rfl (Compact_int H15 a13 n13 _ _ (m16.res (i := 0) rfl) (m16.lt (i := 0) rfl) (by assumption) (by first | omega | assumption)) fun v17 H17 q17 => ?_
        obtain ⟨k17, ys17, hv17, mc17, p17_0, p17_1, p17_2⟩ := q17
        dsimp only at hv17 mc17
        subst hv17
        have m18 := m16.seqR (i := 0) rfl mc17
        have hy : ∀ u ∈ ys17, 2 ≤ u ∧ u / 2 ≤ v := fun u hu => by have h2 := (p15_1 u).1 (p17_1 u hu); rw [p13_0] at h2; exact hk u h2
        refine KO.pv (PV.assign rfl) rfl rfl ?_
        refine KO.nil ?_
        refine KC.seq ?_
        refine KC.seq ?_
        refine KC.region ?_
        refine KO.pv (PV.move rfl) rfl rfl ?_
        refine KO.pv (PV.len un22_B3 rfl) rfl rfl ?_
        refine KO.pv (PV.move rfl) rfl rfl ?_
        refine KO.nil ?_
        refine KC.block ?_
        refine KC.sub (l' := [(4, .slice a13 k17 n13), (34, .int .i64 (k17 : Int)), (35, .int .i64 0)]) (.cons rfl (.cons rfl (.cons rfl .nil))) ?_
        refine KC.loopN (fun kq lq A => ∃ (x35 : Int), kq = ((k17 : Int) - x35).toNat ∧ lq = [(4, .slice a13 k17 n13), (34, .int .i64 (k17 : Int)), (35, .int .i64 x35)] ∧ Mem [] H A [R.own (EI .i64) a13 k17 n13 ys17 D13] ∧ (0 ≤ x35 ∧ x35 ≤ (k17 : Int))) ?_ (((k17 : Int) - 0).toNat) ⟨0, rfl, rfl, (m18.pick [0] (by decide) rfl), (by first | omega | assumption | (constructor <;> omega))⟩
        rintro kq lq A19 ⟨x35, rfl, rfl, m20, hr13⟩
        refine KC.seq ?_
        refine KC.region ?_
        refine KO.pv (PV.lssD rfl rfl rfl) rfl rfl ?_
        refine KO.nil ?_
        refine KC.seq ?_
        refine KC.condD rfl (fun h21 => ?_) (fun h21 => ?_)
        · refine KC.skip ?_
          refine KC.seq ?_
          refine KC.block ?_
          refine KC.seq ?_
          refine KC.region ?_
          refine KO.pv (PV.move rfl) rfl rfl ?_
          refine KO.pv (PV.assign rfl) rfl rfl ?_
          refine KO.nil ?_
          refine KC.seq ?_
          refine KC.drawG (n := 16) (anc := [0, 1, 3, 7, 7, 31, 63, 127, 7, 7, 519, 1799, 3847, 7943, 16383, 32767]) (hv := []) (ord := [0, 1, 2, 3, 4, 5, 6, 7, 8, 9, 10, 11, 12, 13, 14, 15]) (by kernel_rfl) (by kernel_rfl) (by kernel_rfl) (by kernel_rfl) (by kernel_rfl) fun H22 n23 g24 => ?_
          have m25 := m20.room n23 g24 [] (by decide) (by decide)
          refine KD.pv 1 (PV.move rfl) rfl rfl rfl (by kernel_rfl) rfl rfl rfl ?_
          by_cases h26 : 0 < x35
          · refine KD.pv 3 (PV.gtrD rfl rfl (decide_eq_true h26)) rfl rfl rfl (by kernel_rfl) rfl rfl rfl ?_
            refine KD.pv 7 (PV.move rfl) rfl rfl rfl (by kernel_rfl) rfl rfl rfl ?_
            refine KD.pv 15 (PV.move rfl) rfl rfl rfl (by kernel_rfl) rfl rfl rfl ?_
            refine KD.pv 31 (PV.move rfl) rfl rfl rfl (by kernel_rfl) rfl rfl rfl ?_
            obtain ⟨b27, o27, p27, r27, e27, ha27, hb27, hr27, hx27, hw27, hc27, ht27⟩ := V.at_ (m25.vown (i := 0) rfl) (z := x35) (by omega) (by omega)
            have hc27_0 : r27.cs[o27 + (x35).toNat * 1 + 0]? = some (.int .i64 e27) := hc27 0 (by decide)
            have hw27 : IntKind.i64.wrap e27 = e27 := hw27
            obtain ⟨lo27, hi27⟩ := rangei64 hw27
            have g27 := hy _ (List.mem_of_getElem? hx27)
            refine KD.pv 63 (PV.indexAddrZ un22_B3 sz3_B3 rfl ha27 rfl (by omega) (by omega)) rfl rfl rfl (by kernel_rfl) rfl rfl rfl ?_
            refine KD.load 127 rfl hr27 (by rw [read1 ag3_B3]; exact hc27_0) (pastGo (k := 1) (l := [H22]) (by kernel_rfl) rfl (pastCons ⟨_, hr27, (by rw [read1 ag3_B3]; exact hc27_0)⟩ pastNil)) veq_int rfl (by kernel_rfl) rfl rfl rfl ?_
            refine KD.pv 255 (PV.quo rfl rfl (by omega) (quoN (by omega) (by omega))) rfl rfl rfl (by kernel_rfl) rfl rfl rfl ?_
            refine KD.pv 511 (PV.move rfl) rfl rfl rfl (by kernel_rfl) rfl rfl rfl ?_
            refine KD.pv 1023 (PV.move rfl) rfl rfl rfl (by kernel_rfl) rfl rfl rfl ?_
            refine KD.pv 2047 (PV.sub rfl rfl (wrap64 (by omega) (by omega))) rfl rfl rfl (by kernel_rfl) rfl rfl rfl ?_
            obtain ⟨b28, o28, p28, r28, e28, ha28, hb28, hr28, hx28, hw28, hc28, ht28⟩ := V.at_ (m25.vown (i := 0) rfl) (z := (x35 - 1)) (by omega) (by omega)
            have hc28_0 : r28.cs[o28 + ((x35 - 1)).toNat * 1 + 0]? = some (.int .i64 e28) := hc28 0 (by decide)
            have hw28 : IntKind.i64.wrap e28 = e28 := hw28
            obtain ⟨lo28, hi28⟩ := rangei64 hw28
            have g28 := hy _ (List.mem_of_getElem? hx28)
            refine KD.pv 4095 (PV.indexAddrZ un22_B3 sz3_B3 rfl ha28 rfl (by omega) (by omega)) rfl rfl rfl (by kernel_rfl) rfl rfl rfl ?_
            refine KD.load 8191 rfl hr28 (by rw [read1 ag3_B3]; exact hc28_0) (pastGo (k := 1) (l := [H22]) (by kernel_rfl) rfl (pastCons ⟨_, hr28, (by rw [read1 ag3_B3]; exact hc28_0)⟩ pastNil)) veq_int rfl (by kernel_rfl) rfl rfl rfl ?_
            refine KD.pv 16383 (PV.quo rfl rfl (by omega) (quoN (by omega) (by omega))) rfl rfl rfl (by kernel_rfl) rfl rfl rfl ?_
            refine KD.pv 32767 (PV.eqlD rfl rfl rfl) rfl rfl rfl (by kernel_rfl) rfl rfl rfl ?_
            refine KD.pv 65535 (PV.pickT rfl rfl rfl) rfl rfl rfl (by kernel_rfl) rfl rfl rfl ?_
            refine KD.nil ⟨rfl, ?_⟩
            refine KC.condD rfl (fun h29 => ?_) (fun h29 => ?_)
            · refine KC.seq ?_
              refine KC.region ?_
              refine KO.pv (PV.assign rfl) rfl rfl ?_
              refine KO.pv (PV.assign rfl) rfl rfl ?_
              refine KO.pv (PV.assign rfl) rfl rfl ?_
              refine KO.nil ?_
              have m30 := m25.ownNil (C := (EI .i64))
              exact KC.ret ⟨rfl, _, (.tmp rfl (.tmp rfl (.tmp rfl .nil))), none, 0, 0, [], [], true, 0, rfl, m30.pick [0] (by decide) rfl, (by first | omega | (intro h; omega) | (simp only [List.length_nil, true_and, and_true, or_true, true_or] <;> omega)), (by first | omega | (intro h; omega) | (simp only [List.length_nil, true_and, and_true, or_true, true_or] <;> omega) | exact all_nil | assumption), (by first | omega | (intro h; omega) | (simp only [List.length_nil, true_and, and_true, or_true, true_or] <;> omega) | (exact fun _ => ⟨by omega, by omega, all_nil⟩) | (exact fun _ => ⟨by omega, by omega, hy⟩)), (by first | omega | (intro h; omega) | (simp only [List.length_nil, true_and, and_true, or_true, true_or] <;> omega))⟩
            · refine KC.skip ?_
              refine KC.region ?_
              refine KO.pv (PV.add rfl rfl (wrap64 (by omega) (by omega))) rfl rfl ?_
              refine KO.pv (PV.move rfl) rfl rfl ?_
              refine KO.nil ?_
              exact ⟨_, _, (by omega), (.cons rfl (.cons rfl (.cons rfl .nil))), (x35 + 1), rfl, rfl, (m25.pick [0] (by decide) rfl), (by first | omega | assumption | (constructor <;> omega))⟩
          · refine KD.pv 3 (PV.gtrD rfl rfl (decide_eq_false h26)) rfl rfl rfl (by kernel_rfl) rfl rfl rfl ?_
            refine KD.pv 7 (PV.move rfl) rfl rfl rfl (by kernel_rfl) rfl rfl rfl ?_
            refine KD.skip 15 rfl rfl rfl (by kernel_rfl) rfl rfl rfl ?_
            refine KD.skip 31 rfl rfl rfl (by kernel_rfl) rfl rfl rfl ?_
            refine KD.skip 63 rfl rfl rfl (by kernel_rfl) rfl rfl rfl ?_
            refine KD.skip 127 rfl rfl rfl (by kernel_rfl) rfl rfl rfl ?_
            refine KD.skip 255 rfl rfl rfl (by kernel_rfl) rfl rfl rfl ?_
            refine KD.skip 511 rfl rfl rfl (by kernel_rfl) rfl rfl rfl ?_
            refine KD.skip 1023 rfl rfl rfl (by kernel_rfl) rfl rfl rfl ?_
            refine KD.skip 2047 rfl rfl rfl (by kernel_rfl) rfl rfl rfl ?_
            refine KD.skip 4095 rfl rfl rfl (by kernel_rfl) rfl rfl rfl ?_
            refine KD.skip 8191 rfl rfl rfl (by kernel_rfl) rfl rfl rfl ?_
            refine KD.skip 16383 rfl rfl rfl (by kernel_rfl) rfl rfl rfl ?_
            refine KD.skip 32767 rfl rfl rfl (by kernel_rfl) rfl rfl rfl ?_
            refine KD.pv 65535 (PV.pickF rfl rfl rfl) rfl rfl rfl (by kernel_rfl) rfl rfl rfl ?_
            refine KD.nil ⟨rfl, ?_⟩
            refine KC.condF rfl ?_
            refine KC.skip ?_
            refine KC.region ?_
            refine KO.pv (PV.add rfl rfl (wrap64 (by omega) (by omega))) rfl rfl ?_
            refine KO.pv (PV.move rfl) rfl rfl ?_
            refine KO.nil ?_
            exact ⟨_, _, (by omega), (.cons rfl (.cons rfl (.cons rfl .nil))), (x35 + 1), rfl, rfl, (m25.pick [0] (by decide) rfl), (by first | omega | assumption | (constructor <;> omega))⟩
        · refine KC.exit ?_
          refine KC.seq ?_
          refine KC.region ?_
          refine KO.pv (PV.move rfl) rfl rfl ?_
          refine KO.pv (PV.assign rfl) rfl rfl ?_
          refine KO.pv (PV.assign rfl) rfl rfl ?_
          refine KO.pv (PV.assign rfl) rfl rfl ?_
          refine KO.nil ?_
          exact KC.ret ⟨rfl, _, (.tmp rfl (.tmp rfl (.tmp rfl .nil))), a13, k17, n13, ys17, D13, false, 0, rfl, m20.pick [0] (by decide) rfl, (by first | omega | (intro h; omega) | (simp only [List.length_nil, true_and, and_true, or_true, true_or] <;> omega)), (by first | omega | (intro h; omega) | (simp only [List.length_nil, true_and, and_true, or_true, true_or] <;> omega) | exact all_nil | assumption), (by first | omega | (intro h; omega) | (simp only [List.length_nil, true_and, and_true, or_true, true_or] <;> omega) | (exact fun _ => ⟨by omega, by omega, all_nil⟩) | (exact fun _ => ⟨by omega, by omega, hy⟩)), (by first | omega | (intro h; omega) | (simp only [List.length_nil, true_and, and_true, or_true, true_or] <;> omega))⟩
end Go.Eng
