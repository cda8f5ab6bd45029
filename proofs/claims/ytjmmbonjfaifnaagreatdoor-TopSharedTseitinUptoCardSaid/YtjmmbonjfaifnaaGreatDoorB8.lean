/- Functions of the program and of the library keep their contracts. Conditions: none beyond each theorem's own. -/
import Derived.Test.YtjmmbonjfaifnaaGreatDoorB5
import Derived.Test.YtjmmbonjfaifnaaGreatDoorB3
import Derived.KernelRfl
set_option linter.all false
namespace Go.Eng
open Go Go.Proofs
theorem ag4_B8 : isAggT E0.P 4 = some false := by kernel_rfl
theorem ag3_B8 : isAggT E0.P 3 = some false := by kernel_rfl
theorem sz3_B8 : sizeT E0.P 3 = some 1 := by kernel_rfl
theorem ag22_B8 : isAggT E0.P 22 = some false := by kernel_rfl
theorem el22_B8 : elemT E0.P 22 = some 3 := by kernel_rfl
theorem ez3_B8 : elemZ E0.P 3 = some (1, [.int .i64 0]) := by kernel_rfl
theorem sb3_B8 : smallBytes E0.P 3 = true := by kernel_rfl
theorem un22_B8 : E0.P.underlying 22 = some (.slice 3) := by kernel_rfl
theorem sz22_B8 : sizeT E0.P 22 = some 1 := by kernel_rfl
theorem sz4_B8 : sizeT E0.P 4 = some 1 := by kernel_rfl
theorem el46_B8 : elemT E0.P 46 = some 4 := by kernel_rfl
theorem ez4_B8 : elemZ E0.P 4 = some (1, [.bool false]) := by kernel_rfl
theorem sb4_B8 : smallBytes E0.P 4 = true := by kernel_rfl
theorem un46_B8 : E0.P.underlying 46 = some (.slice 4) := by kernel_rfl
theorem un25_B8 : E0.P.underlying 25 = some (.slice 22) := by kernel_rfl
theorem el25_B8 : elemT E0.P 25 = some 22 := by kernel_rfl
theorem ez22_B8 : elemZ E0.P 22 = some (1, [.slice none 0 0]) := by kernel_rfl
theorem fo80_0_B8 : foff E0.P 80 0 = some 0 := by kernel_rfl
theorem fo80_1_B8 : foff E0.P 80 1 = some 1 := by kernel_rfl
theorem ag77_B8 : isAggT E0.P 77 = some false := by kernel_rfl
theorem un77_B8 : E0.P.underlying 77 = some (.slice 166) := by kernel_rfl
theorem fo80_2_B8 : foff E0.P 80 2 = some 2 := by kernel_rfl
theorem ag78_B8 : isAggT E0.P 78 = some false := by kernel_rfl
theorem un78_B8 : E0.P.underlying 78 = some (.slice 162) := by kernel_rfl
theorem ag80_B8 : isAggT E0.P 80 = some true := by kernel_rfl
theorem sz80_B8 : sizeT E0.P 80 = some 5 := by kernel_rfl
theorem sz162_B8 : sizeT E0.P 162 = some 2 := by kernel_rfl
theorem ag162_B8 : isAggT E0.P 162 = some true := by kernel_rfl
theorem zt162_B8 : zeroT E0.P 162 = some [.int .i64 0, .int .i64 0] := by kernel_rfl
theorem fo162_1_B8 : foff E0.P 162 1 = some 1 := by kernel_rfl
theorem fo162_0_B8 : foff E0.P 162 0 = some 0 := by kernel_rfl
theorem ag25_B8 : isAggT E0.P 25 = some false := by kernel_rfl
theorem sb22_B8 : smallBytes E0.P 22 = true := by kernel_rfl
theorem sz25_B8 : sizeT E0.P 25 = some 1 := by kernel_rfl
theorem zt82_B8 : zeroT E0.P 82 = some [.int .i64 0, .slice none 0 0, .slice none 0 0] := by kernel_rfl
theorem bl82__B8  : buildA E0.P 82 [] = some (.agg #[.int .i64 0, .slice none 0 0, .slice none 0 0]) := by kernel_rfl
theorem sz82_B8 : sizeT E0.P 82 = some 3 := by kernel_rfl
theorem ag82_B8 : isAggT E0.P 82 = some true := by kernel_rfl
theorem fo82_0_B8 : foff E0.P 82 0 = some 0 := by kernel_rfl
theorem fo82_2_B8 : foff E0.P 82 2 = some 2 := by kernel_rfl
theorem fo82_1_B8 : foff E0.P 82 1 = some 1 := by kernel_rfl
theorem ts_lit (H : AHeap) (a_r : Option Addr) (n_r c_r : Nat) (r : List Int) (l : Int) (h_r : V (EI .i64) H a_r n_r c_r r) (w_l : IntKind.i64.wrap l = l) (h0 : 0 ≤ l ∧ l / 2 < n_r) (hr : ∀ u ∈ r, -1 ≤ u ∧ u ≤ 8001) : WF E0 100 [.slice a_r n_r c_r, .int .i64 l] H fun q => ∃ (z : Int), q.1 = .int .i64 z ∧ Mem [] H q.2 [] ∧ (-2 ≤ z ∧ z ≤ 8002) := by
  obtain ⟨len_r, cap_r, max_r, wf_r⟩ := h_r.len
  obtain ⟨lo_l, hi_l⟩ := rangei64 w_l
  have m0 : Mem [] H H [] := Mem.start
  refine WF.kg Tryz.func100 rfl rfl ?_
  refine KC.seq ?_
  refine KC.region ?_
  refine KO.pv (PV.assign rfl) rfl rfl ?_
  refine KO.nil ?_
  refine KC.seq ?_
  refine KC.region ?_
  refine KO.pv (PV.move rfl) rfl rfl ?_
  refine KO.pv (PV.move rfl) rfl rfl ?_
  refine KO.pv (PV.quo rfl rfl (by omega) (quoN (by omega) (by omega))) rfl rfl ?_
  obtain ⟨b1, o1, p1, r1, e1, ha1, hb1, hr1, hx1, hw1, hc1, ht1⟩ := V.at_ h_r (z := (l / 2)) (by omega) (by omega)
  have hc1_0 : r1.cs[o1 + ((l / 2)).toNat * 1 + 0]? = some (.int .i64 e1) := hc1 0 (by decide)
  have hw1 : IntKind.i64.wrap e1 = e1 := hw1
  obtain ⟨lo1, hi1⟩ := rangei64 hw1
  have h1 := hr _ (List.mem_of_getElem? hx1)
  refine KO.pv (PV.indexAddrZ un22_B8 sz3_B8 rfl ha1 rfl (by omega) (by omega)) rfl rfl ?_
  refine KO.load1 ag3_B8 rfl (m0.row0 hb1 hr1) hc1_0 rfl rfl ?_
  refine KO.pv (PV.move rfl) rfl rfl ?_
  refine KO.pv (PV.and1 rfl rfl (by omega) (by omega)) rfl rfl ?_
  obtain ⟨x2, rx2, dx2, zx2, qx2⟩ := xorB (e1) ((l % 2)) (by omega) (by omega) (by omega) (by omega)
  refine KO.pv (PV.xorB rfl rfl qx2) rfl rfl ?_
  refine KO.pv (PV.assign rfl) rfl rfl ?_
  refine KO.nil ?_
  exact KC.ret ⟨rfl, _, (.tmp rfl .nil), x2, rfl, m0.pick [] (by decide) rfl, (by first | omega | (intro h; omega) | (simp only [List.length_nil, true_and, and_true, or_true, true_or] <;> omega))⟩
theorem ts_add (H : AHeap) (a_l : Option Addr) (n_l : Nat) (v_l : List (Option Addr × Nat × Nat)) (D_l : List Nat) (l : List (List Int)) (E_l : List Nat) (v : Int) (a_x : Option Addr) (n_x c_x : Nat) (x : List Int) (h_l : Mem (D_l ++ E_l) H H [R.lst 22 1 a_l n_l (cells ES v_l) D_l, R.inn (EI .i64) v_l l E_l]) (w_v : IntKind.i64.wrap v = v) (h_x : V (EI .i64) H a_x n_x c_x x) (s_x : 0 < n_x → ∀ y, a_x = some y → y.block ∉ (D_l ++ E_l)) (hx : n_x ≤ 3) (hn : n_l ≤ 100000) (hl : ∀ c ∈ l, c.length ≤ 3) : WF E0 101 [.slice a_l n_l n_l, .int .i64 v, .slice a_x n_x c_x] H fun q => ∃ (a : Option Addr) (n : Nat) (vs : List (Option Addr × Nat × Nat)) (D : List Nat) (xss : List (List Int)) (E : List Nat), q.1 = .slice a n n ∧ Mem (D_l ++ E_l) H q.2 [R.lst 22 1 a n (cells ES vs) D, R.inn (EI .i64) vs xss E] ∧ (vs.length = n ∧ n ≤ n_l + 1) ∧ (∀ c ∈ xss, c.length ≤ 3) := by
  have len_l : v_l.length = n_l := h_l.lstLen (E := ES) (i := 0) rfl
  have len2_l := h_l.innLen (i := 1) rfl
  obtain ⟨lo_v, hi_v⟩ := rangei64 w_v
  obtain ⟨len_x, cap_x, max_x, wf_x⟩ := h_x.len
  have m0 := h_l
  refine WF.kg Tryz.func101 rfl rfl ?_
  refine KC.seq ?_
  refine KC.region ?_
  refine KO.pv (PV.assign rfl) rfl rfl ?_
  refine KO.nil ?_
  refine KC.seq ?_
  refine KC.region ?_
  refine KO.pv (PV.assign rfl) rfl rfl ?_
  refine KO.nil ?_
  refine KC.seq ?_
  refine KC.seq ?_
  refine KC.region ?_
  refine KO.pv (PV.move rfl) rfl rfl ?_
  refine KO.pv (PV.len un22_B8 rfl) rfl rfl ?_
  refine KO.pv (PV.move rfl) rfl rfl ?_
  refine KO.nil ?_
  refine KC.block ?_
  refine KC.sub (l' := [(0, .slice a_l n_l n_l), (1, .int .i64 v), (7, .slice none 0 0), (13, .slice a_x n_x c_x), (14, .int .i64 (n_x : Int)), (15, .int .i64 0)]) (.cons rfl (.cons rfl (.cons rfl (.cons rfl (.cons rfl (.cons rfl .nil)))))) ?_
  have m1 := m0.lnilC (EI .i64) (e := 3) none rfl
  refine KC.loopN (fun kq lq A => ∃ (a7 : Option Addr) (n7 : Nat) (l7 : List Int) (D7 : List Nat) (x15 : Int), kq = ((n_x : Int) - x15).toNat ∧ lq = [(0, .slice a_l n_l n_l), (1, .int .i64 v), (7, .slice a7 n7 n7), (13, .slice a_x n_x c_x), (14, .int .i64 (n_x : Int)), (15, .int .i64 x15)] ∧ Mem (D_l ++ E_l) H A [R.lst 3 1 a7 n7 (cells (EI .i64) l7) D7, R.lst 22 1 a_l n_l (cells ES v_l) D_l, R.inn (EI .i64) v_l l E_l] ∧ (0 ≤ x15 ∧ x15 ≤ (n_x : Int)) ∧ (l7.length = n7) ∧ (∀ u ∈ l7, (EI .i64).wf u) ∧ ((n7 : Int) ≤ x15)) ?_ (((n_x : Int) - 0).toNat) ⟨none, 0, [], [], 0, rfl, rfl, (m1.pick [0, 1, 2] (by decide) rfl), (by first | omega | assumption | (constructor <;> omega)), (by first | omega | (simp only [splice, List.length_append, List.length_set, List.length_replicate, List.length_map, List.length_take, List.length_drop, List.length_cons, List.length_nil] <;> omega)), (fun _ h => absurd h List.not_mem_nil), (by first | omega | (simp only [splice, List.length_append, List.length_set, List.length_replicate, List.length_map, List.length_take, List.length_drop, List.length_cons, List.length_nil] <;> omega))⟩
  rintro kq lq A2 ⟨a7, n7, l7, D7, x15, rfl, rfl, m3, hr3, hl_l7, hw_l7, hn7⟩
  refine KC.seq ?_
  refine KC.region ?_
  refine KO.pv (PV.lssD rfl rfl rfl) rfl rfl ?_
  refine KO.nil ?_
  refine KC.seq ?_
  refine KC.condD rfl (fun h4 => ?_) (fun h4 => ?_)
  · refine KC.skip ?_
    refine KC.seq ?_
    refine KC.block ?_
    refine KC.seq ?_
    refine KC.region ?_
    obtain ⟨b5, o5, p5, r5, e5, ha5, hb5, hr5, hx5, hw5, hc5, ht5⟩ := V.at_ h_x (z := x15) (by omega) (by omega)
    have hs5 : b5 ∉ (D_l ++ E_l) := s_x (by omega) _ ha5
    have hc5_0 : r5.cs[o5 + (x15).toNat * 1 + 0]? = some (.int .i64 e5) := hc5 0 (by decide)
    have hw5 : IntKind.i64.wrap e5 = e5 := hw5
    obtain ⟨lo5, hi5⟩ := rangei64 hw5
    refine KO.pv (PV.indexAddrZ un22_B8 sz3_B8 rfl ha5 rfl (by omega) (by omega)) rfl rfl ?_
    refine KO.load1 ag3_B8 rfl (m3.row0M hb5 (by assumption) hr5) hc5_0 rfl rfl ?_
    refine KO.pv (PV.assign rfl) rfl rfl ?_
    refine KO.nil ?_
    refine KC.seq ?_
    refine KC.seq ?_
    refine KC.region ?_
    refine KO.pv (PV.move rfl) rfl rfl ?_
    refine KO.pv (PV.eqlD rfl rfl rfl) rfl rfl ?_
    refine KO.nil ?_
    refine KC.condD rfl (fun h6 => ?_) (fun h6 => ?_)
    · refine KC.seq ?_
      refine KC.region ?_
      refine KO.pv (PV.move rfl) rfl rfl ?_
      refine KO.pv (PV.assign rfl) rfl rfl ?_
      refine KO.nil ?_
      exact KC.ret ⟨rfl, _, (.tmp rfl .nil), a_l, n_l, v_l, D_l, l, E_l, rfl, m3.pick [1, 2] (by decide) rfl, (by first | omega | (intro h; omega) | (simp only [List.length_nil, true_and, and_true, or_true, true_or] <;> omega) | (exact ⟨len_l, by omega⟩) | (exact ⟨by simp only [List.length_append, List.length_cons, List.length_nil]; omega, by omega⟩)), (by first | omega | (intro h; omega) | (simp only [List.length_nil, true_and, and_true, or_true, true_or] <;> omega) | exact hl | (exact all_app hl (all_one (by omega))))⟩
    · refine KC.skip ?_
      refine KC.seq ?_
      refine KC.region ?_
      refine KO.pv (PV.move rfl) rfl rfl ?_
      refine KO.pv (PV.gtrD rfl rfl rfl) rfl rfl ?_
      refine KO.nil ?_
      refine KC.condD rfl (fun h7 => ?_) (fun h7 => ?_)
      · refine KC.region ?_
        refine KO.pv (PV.move rfl) rfl rfl ?_
        refine KO.pv (PV.move rfl) rfl rfl ?_
        refine KO.buildSliceM m3 el22_B8 ez3_B8 rfl rfl (show _ = some [.int .i64 e5] from rfl) rfl rfl fun H8 m9 => ?_
        refine KO.appendC (C := (EI .i64)) m9 (i := 1) rfl el22_B8 ez3_B8 sb3_B8 un22_B8 rfl rfl (newElems_row1 (C := (EI .i64)) (y := e5) (m9.row (i := 0) rfl) rfl) rfl (by first | omega | (simp only [splice, List.length_append, List.length_set, List.length_replicate, List.length_map, List.length_take, List.length_drop, List.length_cons, List.length_nil] <;> omega)) rfl rfl fun a11 D12 H10 m13 => ?_
        refine KO.pv (PV.assign rfl) rfl rfl ?_
        refine KO.nil ?_
        refine KC.region ?_
        refine KO.pv (PV.add rfl rfl (wrap64 (by omega) (by omega))) rfl rfl ?_
        refine KO.pv (PV.move rfl) rfl rfl ?_
        refine KO.nil ?_
        exact ⟨_, _, (by omega), (.cons rfl (.cons rfl (.cons rfl (.cons rfl (.cons rfl (.cons rfl .nil)))))), a11, (n7 + 1), (l7 ++ [e5]), D12, (x15 + 1), rfl, rfl, (m13.pick [1, 2, 3] (by decide) rfl), (by first | omega | assumption | (constructor <;> omega)), (by first | omega | (simp only [splice, List.length_append, List.length_set, List.length_replicate, List.length_map, List.length_take, List.length_drop, List.length_cons, List.length_nil] <;> omega)), (all_app hw_l7 (all_one (wf64 (by omega) (by omega)))), (by first | omega | (simp only [splice, List.length_append, List.length_set, List.length_replicate, List.length_map, List.length_take, List.length_drop, List.length_cons, List.length_nil] <;> omega))⟩
      · refine KC.skip ?_
        refine KC.region ?_
        refine KO.pv (PV.add rfl rfl (wrap64 (by omega) (by omega))) rfl rfl ?_
        refine KO.pv (PV.move rfl) rfl rfl ?_
        refine KO.nil ?_
        exact ⟨_, _, (by omega), (.cons rfl (.cons rfl (.cons rfl (.cons rfl (.cons rfl (.cons rfl .nil)))))), a7, n7, l7, D7, (x15 + 1), rfl, rfl, (m3.pick [0, 1, 2] (by decide) rfl), (by first | omega | assumption | (constructor <;> omega)), (by first | omega | (simp only [splice, List.length_append, List.length_set, List.length_replicate, List.length_map, List.length_take, List.length_drop, List.length_cons, List.length_nil] <;> omega)), hw_l7, (by first | omega | (simp only [splice, List.length_append, List.length_set, List.length_replicate, List.length_map, List.length_take, List.length_drop, List.length_cons, List.length_nil] <;> omega))⟩
  · refine KC.exit ?_
    refine KC.seq ?_
    refine KC.region ?_
    refine KO.pv (PV.move rfl) rfl rfl ?_
    refine KO.pv (PV.move rfl) rfl rfl ?_
    refine KO.call rfl rfl rfl rfl (cl_Make A2 v a7 n7 n7 _ (wrap64 (by omega) (by omega)) (m3.vlst (i := 0) rfl hw_l7 (by first | omega | (simp only [splice, List.length_append, List.length_set, List.length_replicate, List.length_map, List.length_take, List.length_drop, List.length_cons, List.length_nil] <;> omega))) (by first | omega | assumption)) fun v14 H14 q14 => ?_
    obtain ⟨a14, k14, n14, ys14, D14, o14, e14, hv14, mc14, p14_0, p14_1, p14_2, p14_3⟩ := q14
    dsimp only at hv14 mc14
    subst hv14
    have m15 := m3.seq mc14
    refine KO.pv (PV.move rfl) rfl rfl ?_
    refine KO.pv (PV.extract rfl rfl) rfl rfl ?_
    refine KO.pv (PV.extract rfl rfl) rfl rfl ?_
    refine KO.pv (PV.extract rfl rfl) rfl rfl ?_
    refine KO.pv (PV.assign rfl) rfl rfl ?_
    refine KO.pv (PV.assign rfl) rfl rfl ?_
    refine KO.pv (PV.assign rfl) rfl rfl ?_
    refine KO.nil ?_
    refine KC.seq ?_
    refine KC.seq ?_
    refine KC.region ?_
    refine KO.pv (PV.move rfl) rfl rfl ?_
    by_cases h16 : e14 ≠ 0
    · refine KO.pv (PV.neqD rfl rfl (decide_eq_true h16)) rfl rfl ?_
      refine KO.pv (PV.move rfl) rfl rfl ?_
      refine KO.no rfl rfl rfl ?_
      refine KO.pv (PV.pickT rfl rfl rfl) rfl rfl ?_
      refine KO.nil ?_
      refine KC.condT rfl ?_
      refine KC.seq ?_
      refine KC.region ?_
      refine KO.pv (PV.move rfl) rfl rfl ?_
      refine KO.pv (PV.assign rfl) rfl rfl ?_
      refine KO.nil ?_
      exact KC.ret ⟨rfl, _, (.tmp rfl .nil), a_l, n_l, v_l, D_l, l, E_l, rfl, m15.pick [2, 3] (by decide) rfl, (by first | omega | (intro h; omega) | (simp only [List.length_nil, true_and, and_true, or_true, true_or] <;> omega) | (exact ⟨len_l, by omega⟩) | (exact ⟨by simp only [List.length_append, List.length_cons, List.length_nil]; omega, by omega⟩)), (by first | omega | (intro h; omega) | (simp only [List.length_nil, true_and, and_true, or_true, true_or] <;> omega) | exact hl | (exact all_app hl (all_one (by omega))))⟩
    · refine KO.pv (PV.neqD rfl rfl (decide_eq_false h16)) rfl rfl ?_
      refine KO.pv (PV.move rfl) rfl rfl ?_
      refine KO.pv (PV.move rfl) rfl rfl ?_
      refine KO.pv (PV.pickF rfl rfl rfl) rfl rfl ?_
      refine KO.nil ?_
      refine KC.cond rfl (fun h17 => ?_) (fun h17 => ?_)
      · subst h17
        refine KC.seq ?_
        refine KC.region ?_
        refine KO.pv (PV.move rfl) rfl rfl ?_
        refine KO.pv (PV.assign rfl) rfl rfl ?_
        refine KO.nil ?_
        exact KC.ret ⟨rfl, _, (.tmp rfl .nil), a_l, n_l, v_l, D_l, l, E_l, rfl, m15.pick [2, 3] (by decide) rfl, (by first | omega | (intro h; omega) | (simp only [List.length_nil, true_and, and_true, or_true, true_or] <;> omega) | (exact ⟨len_l, by omega⟩) | (exact ⟨by simp only [List.length_append, List.length_cons, List.length_nil]; omega, by omega⟩)), (by first | omega | (intro h; omega) | (simp only [List.length_nil, true_and, and_true, or_true, true_or] <;> omega) | exact hl | (exact all_app hl (all_one (by omega))))⟩
      · subst h17
        refine KC.skip ?_
        refine KC.seq ?_
        refine KC.region ?_
        refine KO.pv (PV.move rfl) rfl rfl ?_
        refine KO.pv (PV.move rfl) rfl rfl ?_
        refine KO.buildSliceM m15 el25_B8 ez22_B8 rfl rfl (show _ = some [.slice a14 k14 n14] from rfl) rfl rfl fun H18 m19 => ?_
        refine KO.appendC (C := ES) m19 (i := 3) rfl el25_B8 ez22_B8 sb22_B8 un25_B8 rfl rfl (newElems_row1 (C := ES) (y := (a14, k14, n14)) (m19.row (i := 0) rfl) rfl) rfl (by first | omega | (simp only [splice, List.length_append, List.length_set, List.length_replicate, List.length_map, List.length_take, List.length_drop, List.length_cons, List.length_nil] <;> omega)) rfl rfl fun a21 D22 H20 m23 => ?_
        have m24 : Mem (D_l ++ E_l) H H20 [R.inn (EI .i64) v_l l E_l, R.own (EI .i64) a14 k14 n14 ys14 D14, R.row H14.next 22 true [.slice a14 k14 n14], R.lst 3 1 a7 n7 (cells (EI .i64) l7) D7, R.lst 22 1 a21 (n_l + 1) (cells ES (v_l ++ [(a14, k14, n14)])) D22] := m23.pick [4, 1, 0, 2, 3] (by decide) rfl
        have m25 := m24.push
        refine KO.pv (PV.assign rfl) rfl rfl ?_
        refine KO.nil ?_
        exact KC.ret ⟨rfl, _, (.tmp rfl .nil), a21, (n_l + 1), (v_l ++ [(a14, k14, n14)]), D22, (l ++ [ys14]), (E_l ++ D14), rfl, m25.pick [3, 0] (by decide) rfl, (by first | omega | (intro h; omega) | (simp only [List.length_nil, true_and, and_true, or_true, true_or] <;> omega) | (exact ⟨len_l, by omega⟩) | (exact ⟨by simp only [List.length_append, List.length_cons, List.length_nil]; omega, by omega⟩)), (by first | omega | (intro h; omega) | (simp only [List.length_nil, true_and, and_true, or_true, true_or] <;> omega) | exact hl | (exact all_app hl (all_one (by omega))))⟩
theorem ts_cone (H : AHeap) (ci : Int) (a_cL : Option Addr) (n_cL c_cL : Nat) (cL : List (Int × Int)) (a_cA : Option Addr) (n_cA c_cA : Nat) (cA : List (Int × Int)) (a_cB : Option Addr) (n_cB c_cB : Nat) (cB : List Int) (a_cC : Option Addr) (n_cC c_cC : Nat) (cC : List Int) (a_l : Option Addr) (n_l c_l : Nat) (l : List Int) (b_w n_w : Nat) (w : List Bool) (w_ci : IntKind.i64.wrap ci = ci) (h_cL : V EP H a_cL n_cL c_cL cL) (s_cL : 0 < n_cL → ∀ y, a_cL = some y → y.block ∉ [b_w]) (h_cA : V EP H a_cA n_cA c_cA cA) (s_cA : 0 < n_cA → ∀ y, a_cA = some y → y.block ∉ [b_w]) (h_cB : V (EI .i64) H a_cB n_cB c_cB cB) (s_cB : 0 < n_cB → ∀ y, a_cB = some y → y.block ∉ [b_w]) (h_cC : V (EI .i64) H a_cC n_cC c_cC cC) (s_cC : 0 < n_cC → ∀ y, a_cC = some y → y.block ∉ [b_w]) (h_l : V (EI .i64) H a_l n_l c_l l) (s_l : 0 < n_l → ∀ y, a_l = some y → y.block ∉ [b_w]) (h_w : (R.row b_w 4 true (cells EB w)).ok H) (lt_w : b_w < H.next) (len_w : w.length = n_w) (max_w : n_w ≤ 330000000) (ok : CirOK ci cL cA cB cC) (hw : (n_w : Int) = 1 + ci + n_cL + n_cA) (hl : ∀ u ∈ l, 0 ≤ u ∧ u / 2 < n_w) : WF E0 99 [.agg #[.int .i64 ci, .slice a_cL n_cL c_cL, .slice a_cA n_cA c_cA, .slice a_cB n_cB c_cB, .slice a_cC n_cC c_cC], .slice a_l n_l c_l, .slice (some ⟨b_w, 0, none⟩) n_w n_w] H fun q => ∃ (ys : List Bool), q.1 = .tuple #[] ∧ Mem [b_w] H q.2 [R.row b_w 4 true (cells EB ys)] ∧ (ys.length = n_w) := by
  obtain ⟨lo_ci, hi_ci⟩ := rangei64 w_ci
  obtain ⟨len_cL, cap_cL, max_cL, wf_cL⟩ := h_cL.len
  obtain ⟨len_cA, cap_cA, max_cA, wf_cA⟩ := h_cA.len
  obtain ⟨len_cB, cap_cB, max_cB, wf_cB⟩ := h_cB.len
  obtain ⟨len_cC, cap_cC, max_cC, wf_cC⟩ := h_cC.len
  obtain ⟨len_l, cap_l, max_l, wf_l⟩ := h_l.len
  obtain ⟨ok_i0, ok_al, ok_b, ok_c, ok_hb, ok_hc, ok_hl, ok_ha⟩ := id ok
  have m0 : Mem [b_w] H H [R.row b_w 4 true (cells EB w)] := Mem.startR (r := R.row b_w 4 true (cells EB w)) h_w (by show [b_w].Nodup; simp) (fun j hj => by rw [List.mem_singleton.1 hj]; exact lt_w)
  refine WF.kg Tryz.func99 rfl rfl ?_
  refine KC.seq ?_
  refine KC.region ?_
  refine KO.boxM m0 rfl rfl (show _ = [.int .i64 ci, .slice a_cL n_cL c_cL, .slice a_cA n_cA c_cA, .slice a_cB n_cB c_cB, .slice a_cC n_cC c_cC] from rfl) rfl rfl fun H1 m2 => ?_
  refine KO.nil ?_
  refine KC.seq ?_
  refine KC.region ?_
  refine KO.pv (PV.move rfl) rfl rfl ?_
  refine KO.clearM (C := EB) (l0 := 0) false m2 (i := 1) rfl el46_B8 ez4_B8 rfl (by first | omega | (simp only [splice, List.length_append, List.length_set, List.length_replicate, List.length_map, List.length_take, List.length_drop, List.length_cons, List.length_nil] <;> omega)) rfl fun H3 m4 => ?_
  refine KO.nil ?_
  refine KC.seq ?_
  refine KC.seq ?_
  refine KC.region ?_
  refine KO.pv (PV.move rfl) rfl rfl ?_
  refine KO.pv (PV.len un22_B8 rfl) rfl rfl ?_
  refine KO.pv (PV.move rfl) rfl rfl ?_
  refine KO.nil ?_
  refine KC.block ?_
  refine KC.sub (l' := [(2, .slice (some ⟨b_w, 0, none⟩) n_w n_w), (3, .pointer (some ⟨H.next, 0, none⟩)), (12, .slice a_l n_l c_l), (13, .int .i64 (n_l : Int)), (14, .int .i64 0)]) (.cons rfl (.cons rfl (.cons rfl (.cons rfl (.cons rfl .nil))))) ?_
  refine KC.loopN (fun kq lq A => ∃ (x14 : Int) (l2 : List Bool), kq = ((n_l : Int) - x14).toNat ∧ lq = [(2, .slice (some ⟨b_w, 0, none⟩) n_w n_w), (3, .pointer (some ⟨H.next, 0, none⟩)), (12, .slice a_l n_l c_l), (13, .int .i64 (n_l : Int)), (14, .int .i64 x14)] ∧ Mem [b_w] H A [R.row H.next 80 true [.int .i64 ci, .slice a_cL n_cL c_cL, .slice a_cA n_cA c_cA, .slice a_cB n_cB c_cB, .slice a_cC n_cC c_cC], R.row b_w 4 true (cells EB l2)] ∧ (0 ≤ x14 ∧ x14 ≤ (n_l : Int)) ∧ (l2.length = n_w)) ?_ (((n_l : Int) - 0).toNat) ⟨0, (splice w 0 (List.replicate n_w false)), rfl, rfl, (m4.pick [0, 1] (by decide) rfl), (by first | omega | assumption | (constructor <;> omega)), (by first | omega | (simp only [splice, List.length_append, List.length_set, List.length_replicate, List.length_map, List.length_take, List.length_drop, List.length_cons, List.length_nil] <;> omega))⟩
  rintro kq lq A5 ⟨x14, l2, rfl, rfl, m6, hr3, hl_l2⟩
  refine KC.seq ?_
  refine KC.region ?_
  refine KO.pv (PV.lssD rfl rfl rfl) rfl rfl ?_
  refine KO.nil ?_
  refine KC.seq ?_
  refine KC.condD rfl (fun h7 => ?_) (fun h7 => ?_)
  · refine KC.skip ?_
    refine KC.seq ?_
    refine KC.block ?_
    refine KC.seq ?_
    refine KC.region ?_
    obtain ⟨b8, o8, p8, r8, e8, ha8, hb8, hr8, hx8, hw8, hc8, ht8⟩ := V.at_ h_l (z := x14) (by omega) (by omega)
    have hs8 : b8 ∉ [b_w] := s_l (by omega) _ ha8
    have hc8_0 : r8.cs[o8 + (x14).toNat * 1 + 0]? = some (.int .i64 e8) := hc8 0 (by decide)
    have hw8 : IntKind.i64.wrap e8 = e8 := hw8
    obtain ⟨lo8, hi8⟩ := rangei64 hw8
    have k8 := hl _ (List.mem_of_getElem? hx8)
    refine KO.pv (PV.indexAddrZ un22_B8 sz3_B8 rfl ha8 rfl (by omega) (by omega)) rfl rfl ?_
    refine KO.load1 ag3_B8 rfl (m6.row0M hb8 (by assumption) hr8) hc8_0 rfl rfl ?_
    refine KO.pv (PV.assign rfl) rfl rfl ?_
    refine KO.nil ?_
    refine KC.region ?_
    refine KO.pv (PV.move rfl) rfl rfl ?_
    refine KO.pv (PV.move rfl) rfl rfl ?_
    refine KO.pv (PV.quo rfl rfl (by omega) (quoN (by omega) (by omega))) rfl rfl ?_
    refine KO.pv (PV.indexAddrZ un46_B8 sz4_B8 rfl rfl rfl (by omega) (by omega)) rfl rfl ?_
    refine KO.storeM m6 (i := 1) rfl sz4_B8 rfl rfl rfl (cells_room (C := EB) (xs := l2) (i := ((e8 / 2)).toNat) (by first | omega | (simp only [splice, List.length_append, List.length_set, List.length_replicate, List.length_map, List.length_take, List.length_drop, List.length_cons, List.length_nil] <;> omega)) rfl) (cells_put0 (C := EB) (xs := l2) (i := ((e8 / 2)).toNat) true (by first | omega | (simp only [splice, List.length_append, List.length_set, List.length_replicate, List.length_map, List.length_take, List.length_drop, List.length_cons, List.length_nil] <;> omega))) rfl fun H10 m11 => ?_
    refine KO.nil ?_
    refine KC.region ?_
    refine KO.pv (PV.add rfl rfl (wrap64 (by omega) (by omega))) rfl rfl ?_
    refine KO.pv (PV.move rfl) rfl rfl ?_
    refine KO.nil ?_
    exact ⟨_, _, (by omega), (.cons rfl (.cons rfl (.cons rfl (.cons rfl (.cons rfl .nil))))), (x14 + 1), (l2.set (((e8 / 2)).toNat) true), rfl, rfl, (m11.pick [0, 1] (by decide) rfl), (by first | omega | assumption | (constructor <;> omega)), (by first | omega | (simp only [splice, List.length_append, List.length_set, List.length_replicate, List.length_map, List.length_take, List.length_drop, List.length_cons, List.length_nil] <;> omega))⟩
  · refine KC.exit ?_
    refine KC.seq ?_
    refine KC.region ?_
    refine KO.pv (PV.fieldAddr fo80_0_B8 rfl) rfl rfl ?_
    refine KO.load1 ag3_B8 rfl (m6.row (i := 0) rfl) rfl rfl rfl ?_
    refine KO.pv (PV.add rfl rfl (wrap64 (by omega) (by omega))) rfl rfl ?_
    refine KO.pv (PV.fieldAddr fo80_1_B8 rfl) rfl rfl ?_
    refine KO.load1 ag77_B8 rfl (m6.row (i := 0) rfl) rfl rfl rfl ?_
    refine KO.pv (PV.len un77_B8 rfl) rfl rfl ?_
    refine KO.pv (PV.add rfl rfl (wrap64 (by omega) (by omega))) rfl rfl ?_
    refine KO.pv (PV.assign rfl) rfl rfl ?_
    refine KO.nil ?_
    refine KC.seq ?_
    refine KC.region ?_
    refine KO.pv (PV.move rfl) rfl rfl ?_
    refine KO.pv (PV.len un46_B8 rfl) rfl rfl ?_
    refine KO.pv (PV.sub rfl rfl (wrap64 (by omega) (by omega))) rfl rfl ?_
    refine KO.pv (PV.assign rfl) rfl rfl ?_
    refine KO.nil ?_
    refine KC.block ?_
    refine KC.sub (l' := [(2, .slice (some ⟨b_w, 0, none⟩) n_w n_w), (3, .pointer (some ⟨H.next, 0, none⟩)), (8, .int .i64 ((1 + ci) + (n_cL : Int))), (9, .int .i64 ((n_w : Int) - 1))]) (.cons rfl (.cons rfl (.cons rfl (.cons rfl .nil)))) ?_
    refine KC.loopN (fun kq lq A => ∃ (x9 : Int) (l2 : List Bool), kq = (x9 + 1).toNat ∧ lq = [(2, .slice (some ⟨b_w, 0, none⟩) n_w n_w), (3, .pointer (some ⟨H.next, 0, none⟩)), (8, .int .i64 ((1 + ci) + (n_cL : Int))), (9, .int .i64 x9)] ∧ Mem [b_w] H A [R.row H.next 80 true [.int .i64 ci, .slice a_cL n_cL c_cL, .slice a_cA n_cA c_cA, .slice a_cB n_cB c_cB, .slice a_cC n_cC c_cC], R.row b_w 4 true (cells EB l2)] ∧ (-1 ≤ x9 ∧ x9 < n_w) ∧ (l2.length = n_w)) ?_ ((((n_w : Int) - 1) + 1).toNat) ⟨((n_w : Int) - 1), l2, rfl, rfl, (m6.pick [0, 1] (by decide) rfl), (by first | omega | assumption | (constructor <;> omega)), (by first | omega | (simp only [splice, List.length_append, List.length_set, List.length_replicate, List.length_map, List.length_take, List.length_drop, List.length_cons, List.length_nil] <;> omega))⟩
    rintro kq lq A12 ⟨x9, l2, rfl, rfl, m13, hi9_0, hl_l2⟩
    refine KC.seq ?_
    refine KC.seq ?_
    refine KC.region ?_
    refine KO.pv (PV.move rfl) rfl rfl ?_
    refine KO.pv (PV.move rfl) rfl rfl ?_
    refine KO.pv (PV.geqD rfl rfl rfl) rfl rfl ?_
    refine KO.nil ?_
    refine KC.condD rfl (fun h14 => ?_) (fun h14 => ?_)
    · refine KC.skip ?_
      refine KC.seq ?_
      refine KC.block ?_
      refine KC.seq ?_
      refine KC.region ?_
      refine KO.pv (PV.fieldAddr fo80_2_B8 rfl) rfl rfl ?_
      refine KO.load1 ag78_B8 rfl (m13.row (i := 0) rfl) rfl rfl rfl ?_
      refine KO.pv (PV.move rfl) rfl rfl ?_
      refine KO.pv (PV.move rfl) rfl rfl ?_
      refine KO.pv (PV.sub rfl rfl (wrap64 (by omega) (by omega))) rfl rfl ?_
      obtain ⟨b15, o15, p15, r15, e15, ha15, hb15, hr15, hx15, hw15, hc15, ht15⟩ := V.at_ h_cA (z := (x9 - ((1 + ci) + (n_cL : Int)))) (by omega) (by omega)
      have hs15 : b15 ∉ [b_w] := s_cA (by omega) _ ha15
      have hc15_0 : r15.cs[o15 + ((x9 - ((1 + ci) + (n_cL : Int)))).toNat * 2 + 0]? = some (.int .i64 e15.1) := hc15 0 (by decide)
      have hc15_1 : r15.cs[o15 + ((x9 - ((1 + ci) + (n_cL : Int)))).toNat * 2 + 1]? = some (.int .i64 e15.2) := hc15 1 (by decide)
      obtain ⟨hwa15, hwb15⟩ := hw15
      obtain ⟨loa15, hia15⟩ := rangei64 hwa15
      obtain ⟨lob15, hib15⟩ := rangei64 hwb15
      have gok_ha_15 := ok_ha _ _ hx15
      refine KO.pv (PV.indexAddrZ un78_B8 sz162_B8 rfl ha15 rfl (by omega) (by omega)) rfl rfl ?_
      refine KO.loadN ag162_B8 sz162_B8 rfl (m13.row0M hb15 (by assumption) hr15) ht15 rfl rfl ?_
      refine KO.allocM m13 zt162_B8 rfl rfl fun H16 m17 => ?_
      refine KO.storeM m17 (i := 0) rfl sz162_B8 rfl rfl rfl (show 0 + 2 ≤ 2 by decide) (show _ = [.int .i64 e15.1, .int .i64 e15.2] from rfl) rfl fun H18 m19 => ?_
      refine KO.nil ?_
      refine KC.seq ?_
      refine KC.region ?_
      refine KO.pv (PV.move rfl) rfl rfl ?_
      refine KO.pv (PV.move rfl) rfl rfl ?_
      refine KO.pv (PV.indexAddrZ un46_B8 sz4_B8 rfl rfl rfl (by omega) (by omega)) rfl rfl ?_
      obtain ⟨e21, hx21⟩ : ∃ x, (l2)[(x9).toNat]? = some x := ⟨_, List.getElem?_eq_getElem (by first | omega | (simp only [splice, List.length_append, List.length_set, List.length_replicate, List.length_map, List.length_take, List.length_drop, List.length_cons, List.length_nil] <;> omega))⟩
      refine KO.load1 ag4_B8 rfl (m19.row (i := 2) rfl) (cells_at1 hx21 rfl) rfl rfl ?_
      refine KO.nil ?_
      refine KC.cond rfl (fun h22 => ?_) (fun h22 => ?_)
      · subst h22
        refine KC.drawG (n := 12) (anc := [0, 0, 2, 6, 0, 0, 32, 96, 15, 271, 1023, 2047]) (hv := [9, 11]) (ord := [0, 1, 2, 3, 8, 9, 4, 5, 6, 7, 10, 11]) (by kernel_rfl) (by kernel_rfl) (by kernel_rfl) (by kernel_rfl) (by kernel_rfl) fun H23 n24 g25 => ?_
        have m26 := m19.room n24 g25 [] (by decide) (by decide)
        refine KD.pv 1 (PV.move rfl) rfl rfl rfl (by kernel_rfl) rfl rfl rfl ?_
        refine KD.pv 3 (PV.fieldAddr fo162_0_B8 rfl) rfl rfl rfl (by kernel_rfl) rfl rfl rfl ?_
        refine KD.load 7 rfl (m26.row (i := 0) rfl) (by rw [read1 ag3_B8]; exact rfl) (pastGo (k := 1) (l := [H23]) (by kernel_rfl) rfl (pastCons ⟨_, (m26.row (i := 0) rfl), (by rw [read1 ag3_B8]; exact rfl)⟩ pastNil)) veq_int rfl (by kernel_rfl) rfl rfl rfl ?_
        refine KD.pv 15 (PV.quo rfl rfl (by omega) (quoN (by omega) (by omega))) rfl rfl rfl (by kernel_rfl) rfl rfl rfl ?_
        refine KD.pv 271 (PV.indexAddrZ un46_B8 sz4_B8 rfl rfl rfl (by omega) (by omega)) rfl rfl rfl (by kernel_rfl) rfl rfl rfl ?_
        refine KD.storeM 783 m26 (j := 2) rfl sz4_B8 rfl rfl rfl (cells_room (C := EB) (xs := l2) (i := ((e15.1 / 2)).toNat) (by first | omega | (simp only [splice, List.length_append, List.length_set, List.length_replicate, List.length_map, List.length_take, List.length_drop, List.length_cons, List.length_nil] <;> omega)) rfl) (cells_put0 (C := EB) (xs := l2) (i := ((e15.1 / 2)).toNat) true (by first | omega | (simp only [splice, List.length_append, List.length_set, List.length_replicate, List.length_map, List.length_take, List.length_drop, List.length_cons, List.length_nil] <;> omega))) rfl (by kernel_rfl) rfl rfl fun H28 m29 => ?_
        refine KD.pv 799 (PV.move rfl) rfl rfl rfl (by kernel_rfl) rfl rfl rfl ?_
        refine KD.pv 831 (PV.fieldAddr fo162_1_B8 rfl) rfl rfl rfl (by kernel_rfl) rfl rfl rfl ?_
        refine KD.load 895 rfl (m29.row (i := 0) rfl) (by rw [read1 ag3_B8]; exact rfl) (pastGo (k := 2) (l := [H28, H23]) (by kernel_rfl) rfl (pastCons ⟨_, (m29.row (i := 0) rfl), (by rw [read1 ag3_B8]; exact rfl)⟩ (pastCons ⟨_, (m26.row (i := 0) rfl), (by rw [read1 ag3_B8]; exact rfl)⟩ pastNil))) veq_int rfl (by kernel_rfl) rfl rfl rfl ?_
        refine KD.pv 1023 (PV.quo rfl rfl (by omega) (quoN (by omega) (by omega))) rfl rfl rfl (by kernel_rfl) rfl rfl rfl ?_
        refine KD.pv 2047 (PV.indexAddrZ un46_B8 sz4_B8 rfl rfl rfl (by omega) (by omega)) rfl rfl rfl (by kernel_rfl) rfl rfl rfl ?_
        refine KD.storeM 4095 m29 (j := 2) rfl sz4_B8 rfl rfl rfl (cells_room (C := EB) (xs := (l2.set (((e15.1 / 2)).toNat) true)) (i := ((e15.2 / 2)).toNat) (by first | omega | (simp only [splice, List.length_append, List.length_set, List.length_replicate, List.length_map, List.length_take, List.length_drop, List.length_cons, List.length_nil] <;> omega)) rfl) (cells_put0 (C := EB) (xs := (l2.set (((e15.1 / 2)).toNat) true)) (i := ((e15.2 / 2)).toNat) true (by first | omega | (simp only [splice, List.length_append, List.length_set, List.length_replicate, List.length_map, List.length_take, List.length_drop, List.length_cons, List.length_nil] <;> omega))) rfl (by kernel_rfl) rfl rfl fun H31 m32 => ?_
        refine KD.nil ⟨rfl, ?_⟩
        refine KC.region ?_
        refine KO.pv (PV.move rfl) rfl rfl ?_
        refine KO.pv (PV.sub rfl rfl (wrap64 (by omega) (by omega))) rfl rfl ?_
        refine KO.pv (PV.assign rfl) rfl rfl ?_
        refine KO.nil ?_
        exact ⟨_, _, (by omega), (.cons rfl (.cons rfl (.cons rfl (.cons rfl .nil)))), (x9 - 1), ((l2.set (((e15.1 / 2)).toNat) true).set (((e15.2 / 2)).toNat) true), rfl, rfl, (m32.pick [1, 2] (by decide) rfl), (by first | omega | assumption | (constructor <;> omega)), (by first | omega | (simp only [splice, List.length_append, List.length_set, List.length_replicate, List.length_map, List.length_take, List.length_drop, List.length_cons, List.length_nil] <;> omega))⟩
      · subst h22
        refine KC.skip ?_
        refine KC.region ?_
        refine KO.pv (PV.move rfl) rfl rfl ?_
        refine KO.pv (PV.sub rfl rfl (wrap64 (by omega) (by omega))) rfl rfl ?_
        refine KO.pv (PV.assign rfl) rfl rfl ?_
        refine KO.nil ?_
        exact ⟨_, _, (by omega), (.cons rfl (.cons rfl (.cons rfl (.cons rfl .nil)))), (x9 - 1), l2, rfl, rfl, (m19.pick [1, 2] (by decide) rfl), (by first | omega | assumption | (constructor <;> omega)), (by first | omega | (simp only [splice, List.length_append, List.length_set, List.length_replicate, List.length_map, List.length_take, List.length_drop, List.length_cons, List.length_nil] <;> omega))⟩
    · refine KC.exit ?_
      exact ⟨rfl, _, .nil, l2, rfl, m13.pick [1] (by decide) rfl, (by first | omega | (intro h; omega) | (simp only [List.length_nil, true_and, and_true, or_true, true_or] <;> omega))⟩
theorem ts_Of (H : AHeap) (ci : Int) (a_cL : Option Addr) (n_cL c_cL : Nat) (cL : List (Int × Int)) (a_cA : Option Addr) (n_cA c_cA : Nat) (cA : List (Int × Int)) (a_cB : Option Addr) (n_cB c_cB : Nat) (cB : List Int) (a_cC : Option Addr) (n_cC c_cC : Nat) (cC : List Int) (a_q : Option Addr) (n_q c_q : Nat) (q : List Int) (w_ci : IntKind.i64.wrap ci = ci) (h_cL : V EP H a_cL n_cL c_cL cL) (h_cA : V EP H a_cA n_cA c_cA cA) (h_cB : V (EI .i64) H a_cB n_cB c_cB cB) (h_cC : V (EI .i64) H a_cC n_cC c_cC cC) (h_q : V (EI .i64) H a_q n_q c_q q) : WF E0 46 [.agg #[.int .i64 ci, .slice a_cL n_cL c_cL, .slice a_cA n_cA c_cA, .slice a_cB n_cB c_cB, .slice a_cC n_cC c_cC], .slice a_q n_q c_q] H fun q => ∃ (v : Int) (a1 : Option Addr) (n1 : Nat) (c1 : Nat) (v1 : List (Option Addr × Nat × Nat)) (D1 : List Nat) (l1 : List (List Int)) (E1 : List Nat) (a2 : Option Addr) (n2 : Nat) (c2 : Nat) (v2 : List (Option Addr × Nat × Nat)) (D2 : List Nat) (l2 : List (List Int)) (E2 : List Nat) (e : Int), q.1 = .tuple #[.agg #[.int .i64 v, .slice a1 n1 c1, .slice a2 n2 c2], .int .i64 e] ∧ Mem [] H q.2 [R.own ES a1 n1 c1 v1 D1, R.inn (EI .i64) v1 l1 E1, R.own ES a2 n2 c2 v2 D2, R.inn (EI .i64) v2 l2 E2] ∧ (0 ≤ v ∧ v ≤ 1000 ∧ n1 ≤ 1 ∧ n2 ≤ 4000) ∧ (∀ c ∈ l1, c.length ≤ 1001) ∧ (∀ c ∈ l2, c.length ≤ 3) := by
  obtain ⟨lo_ci, hi_ci⟩ := rangei64 w_ci
  obtain ⟨len_cL, cap_cL, max_cL, wf_cL⟩ := h_cL.len
  obtain ⟨len_cA, cap_cA, max_cA, wf_cA⟩ := h_cA.len
  obtain ⟨len_cB, cap_cB, max_cB, wf_cB⟩ := h_cB.len
  obtain ⟨len_cC, cap_cC, max_cC, wf_cC⟩ := h_cC.len
  obtain ⟨len_q, cap_q, max_q, wf_q⟩ := h_q.len
  have m0 : Mem [] H H [] := Mem.start
  refine WF.kg Tryz.func46 rfl rfl ?_
  refine KC.seq ?_
  refine KC.region ?_
  refine KO.boxM m0 rfl rfl (show _ = [.int .i64 ci, .slice a_cL n_cL c_cL, .slice a_cA n_cA c_cA, .slice a_cB n_cB c_cB, .slice a_cC n_cC c_cC] from rfl) rfl rfl fun H1 m2 => ?_
  refine KO.allocM m2 zt82_B8 rfl rfl fun H3 m4 => ?_
  refine KO.pv (PV.assign rfl) rfl rfl ?_
  refine KO.nil ?_
  refine KC.seq ?_
  refine KC.region ?_
  refine KO.loadN ag80_B8 sz80_B8 rfl (m4.row (i := 1) rfl) (takeN_of (p := [.int .i64 ci, .slice a_cL n_cL c_cL, .slice a_cA n_cA c_cA, .slice a_cB n_cB c_cB, .slice a_cC n_cC c_cC]) rfl rfl) rfl rfl ?_
  refine KO.call rfl rfl rfl rfl (gates_Vars H3 ci a_cL n_cL c_cL _ a_cA n_cA c_cA _ a_cB n_cB c_cB _ a_cC n_cC c_cC _ (wrap64 (by omega) (by omega)) (V.mem m4 h_cL) (V.mem m4 h_cA) (V.mem m4 h_cB) (V.mem m4 h_cC)) fun v5 H5 q5 => ?_
  obtain ⟨n5, e5, hv5, mc5, p5_0, p5_1⟩ := q5
  dsimp only at hv5 mc5
  subst hv5
  have m6 := m4.seq mc5
  refine KO.pv (PV.move rfl) rfl rfl ?_
  refine KO.pv (PV.extract rfl rfl) rfl rfl ?_
  refine KO.pv (PV.extract rfl rfl) rfl rfl ?_
  refine KO.pv (PV.assign rfl) rfl rfl ?_
  refine KO.pv (PV.assign rfl) rfl rfl ?_
  refine KO.nil ?_
  refine KC.seq ?_
  refine KC.seq ?_
  refine KC.region ?_
  refine KO.pv (PV.move rfl) rfl rfl ?_
  refine KO.pv (PV.neqD rfl rfl rfl) rfl rfl ?_
  refine KO.nil ?_
  refine KC.condD rfl (fun h7 => ?_) (fun h7 => ?_)
  · refine KC.seq ?_
    refine KC.region ?_
    refine KO.pv (PV.build rfl bl82__B8) rfl rfl ?_
    refine KO.pv (PV.move rfl) rfl rfl ?_
    refine KO.storeM m6 (i := 0) rfl sz82_B8 rfl rfl rfl (show 0 + 3 ≤ 3 by decide) (show _ = [.int .i64 0, .slice none 0 0, .slice none 0 0] from rfl) rfl fun H8 m9 => ?_
    refine KO.pv (PV.assign rfl) rfl rfl ?_
    refine KO.nil ?_
    have m10 := m9.ownNil (C := ES)
    have m11 := m10.ownNil (C := ES)
    have m12 := m11.innNil (C := (EI .i64))
    have m13 := m12.innNil (C := (EI .i64))
    exact KC.ret ⟨rfl, _, (.cell rfl (ldN (m9.row (i := 0) rfl) ag82_B8 sz82_B8 rfl rfl) (.tmp rfl .nil)), 0, none, 0, 0, [], [], [], [], none, 0, 0, [], [], [], [], e5, rfl, m13.pick [3, 1, 2, 0] (by decide) rfl, (by first | omega | (intro h; omega) | (simp only [List.length_nil, true_and, and_true, or_true, true_or] <;> omega)), (by first | omega | (intro h; omega) | (simp only [List.length_nil, true_and, and_true, or_true, true_or] <;> omega) | exact all_nil | (exact all_one (by omega))), (by first | omega | (intro h; omega) | (simp only [List.length_nil, true_and, and_true, or_true, true_or] <;> omega) | exact all_nil)⟩
  · have p5_0t := p5_0 (by omega)
    obtain ⟨p5_0s, p5_0u⟩ := id p5_0t
    obtain ⟨p5_0_i0, p5_0_al, p5_0_b, p5_0_c, p5_0_hb, p5_0_hc, p5_0_hl, p5_0_ha⟩ := id p5_0s
    refine KC.skip ?_
    refine KC.seq ?_
    refine KC.seq ?_
    refine KC.region ?_
    refine KO.pv (PV.move rfl) rfl rfl ?_
    refine KO.pv (PV.len un22_B8 rfl) rfl rfl ?_
    refine KO.pv (PV.move rfl) rfl rfl ?_
    refine KO.nil ?_
    refine KC.block ?_
    refine KC.sub (l' := [(1, .slice a_q n_q c_q), (2, .pointer (some ⟨H.next, 0, none⟩)), (4, .pointer (some ⟨H1.next, 0, none⟩)), (6, .int .i64 n5), (29, .slice a_q n_q c_q), (30, .int .i64 (n_q : Int)), (31, .int .i64 0)]) (.cons rfl (.cons rfl (.cons rfl (.cons rfl (.cons rfl (.cons rfl (.cons rfl .nil))))))) ?_
    refine KC.loopN (fun kq lq A => ∃ (x31 : Int), kq = ((n_q : Int) - x31).toNat ∧ lq = [(1, .slice a_q n_q c_q), (2, .pointer (some ⟨H.next, 0, none⟩)), (4, .pointer (some ⟨H1.next, 0, none⟩)), (6, .int .i64 n5), (29, .slice a_q n_q c_q), (30, .int .i64 (n_q : Int)), (31, .int .i64 x31)] ∧ Mem [] H A [R.row H1.next 82 true [.int .i64 0, .slice none 0 0, .slice none 0 0], R.row H.next 80 true [.int .i64 ci, .slice a_cL n_cL c_cL, .slice a_cA n_cA c_cA, .slice a_cB n_cB c_cB, .slice a_cC n_cC c_cC]] ∧ (0 ≤ x31 ∧ x31 ≤ (n_q : Int)) ∧ (Ahead q x31 fun _ u => 0 ≤ u ∧ u / 2 ≤ n5)) ?_ (((n_q : Int) - 0).toNat) ⟨0, rfl, rfl, (m6.pick [0, 1] (by decide) rfl), (by first | omega | assumption | (constructor <;> omega)), Ahead.zero⟩
    rintro kq lq A14 ⟨x31, rfl, rfl, m15, hr5, hpre⟩
    refine KC.seq ?_
    refine KC.region ?_
    refine KO.pv (PV.lssD rfl rfl rfl) rfl rfl ?_
    refine KO.nil ?_
    refine KC.seq ?_
    refine KC.condD rfl (fun h16 => ?_) (fun h16 => ?_)
    · refine KC.skip ?_
      refine KC.seq ?_
      refine KC.block ?_
      refine KC.seq ?_
      refine KC.region ?_
      obtain ⟨b17, o17, p17, r17, e17, ha17, hb17, hr17, hx17, hw17, hc17, ht17⟩ := V.at_ h_q (z := x31) (by omega) (by omega)
      have hc17_0 : r17.cs[o17 + (x31).toNat * 1 + 0]? = some (.int .i64 e17) := hc17 0 (by decide)
      have hw17 : IntKind.i64.wrap e17 = e17 := hw17
      obtain ⟨lo17, hi17⟩ := rangei64 hw17
      refine KO.pv (PV.indexAddrZ un22_B8 sz3_B8 rfl ha17 rfl (by omega) (by omega)) rfl rfl ?_
      refine KO.load1 ag3_B8 rfl (m15.row0 hb17 hr17) hc17_0 rfl rfl ?_
      refine KO.pv (PV.assign rfl) rfl rfl ?_
      refine KO.nil ?_
      refine KC.seq ?_
      refine KC.region ?_
      refine KO.pv (PV.move rfl) rfl rfl ?_
      by_cases h18 : e17 < 0
      · refine KO.pv (PV.lssD rfl rfl (decide_eq_true h18)) rfl rfl ?_
        refine KO.pv (PV.move rfl) rfl rfl ?_
        refine KO.no rfl rfl rfl ?_
        refine KO.no rfl rfl rfl ?_
        refine KO.no rfl rfl rfl ?_
        refine KO.no rfl rfl rfl ?_
        refine KO.pv (PV.pickT rfl rfl rfl) rfl rfl ?_
        refine KO.nil ?_
        refine KC.condT rfl ?_
        refine KC.seq ?_
        refine KC.region ?_
        refine KO.pv (PV.build rfl bl82__B8) rfl rfl ?_
        refine KO.storeM m15 (i := 0) rfl sz82_B8 rfl rfl rfl (show 0 + 3 ≤ 3 by decide) (show _ = [.int .i64 0, .slice none 0 0, .slice none 0 0] from rfl) rfl fun H19 m20 => ?_
        refine KO.pv (PV.assign rfl) rfl rfl ?_
        refine KO.nil ?_
        have m21 := m20.ownNil (C := ES)
        have m22 := m21.ownNil (C := ES)
        have m23 := m22.innNil (C := (EI .i64))
        have m24 := m23.innNil (C := (EI .i64))
        exact KC.ret ⟨rfl, _, (.cell rfl (ldN (m20.row (i := 0) rfl) ag82_B8 sz82_B8 rfl rfl) (.tmp rfl .nil)), 0, none, 0, 0, [], [], [], [], none, 0, 0, [], [], [], [], 2, rfl, m24.pick [3, 1, 2, 0] (by decide) rfl, (by first | omega | (intro h; omega) | (simp only [List.length_nil, true_and, and_true, or_true, true_or] <;> omega)), (by first | omega | (intro h; omega) | (simp only [List.length_nil, true_and, and_true, or_true, true_or] <;> omega) | exact all_nil | (exact all_one (by omega))), (by first | omega | (intro h; omega) | (simp only [List.length_nil, true_and, and_true, or_true, true_or] <;> omega) | exact all_nil)⟩
      · refine KO.pv (PV.lssD rfl rfl (decide_eq_false h18)) rfl rfl ?_
        refine KO.pv (PV.move rfl) rfl rfl ?_
        refine KO.pv (PV.move rfl) rfl rfl ?_
        refine KO.pv (PV.quo rfl rfl (by omega) (quoN (by omega) (by omega))) rfl rfl ?_
        refine KO.pv (PV.move rfl) rfl rfl ?_
        refine KO.pv (PV.gtrD rfl rfl rfl) rfl rfl ?_
        refine KO.pv (PV.pickF rfl rfl rfl) rfl rfl ?_
        refine KO.nil ?_
        refine KC.condD rfl (fun h25 => ?_) (fun h25 => ?_)
        · refine KC.seq ?_
          refine KC.region ?_
          refine KO.pv (PV.build rfl bl82__B8) rfl rfl ?_
          refine KO.storeM m15 (i := 0) rfl sz82_B8 rfl rfl rfl (show 0 + 3 ≤ 3 by decide) (show _ = [.int .i64 0, .slice none 0 0, .slice none 0 0] from rfl) rfl fun H26 m27 => ?_
          refine KO.pv (PV.assign rfl) rfl rfl ?_
          refine KO.nil ?_
          have m28 := m27.ownNil (C := ES)
          have m29 := m28.ownNil (C := ES)
          have m30 := m29.innNil (C := (EI .i64))
          have m31 := m30.innNil (C := (EI .i64))
          exact KC.ret ⟨rfl, _, (.cell rfl (ldN (m27.row (i := 0) rfl) ag82_B8 sz82_B8 rfl rfl) (.tmp rfl .nil)), 0, none, 0, 0, [], [], [], [], none, 0, 0, [], [], [], [], 2, rfl, m31.pick [3, 1, 2, 0] (by decide) rfl, (by first | omega | (intro h; omega) | (simp only [List.length_nil, true_and, and_true, or_true, true_or] <;> omega)), (by first | omega | (intro h; omega) | (simp only [List.length_nil, true_and, and_true, or_true, true_or] <;> omega) | exact all_nil | (exact all_one (by omega))), (by first | omega | (intro h; omega) | (simp only [List.length_nil, true_and, and_true, or_true, true_or] <;> omega) | exact all_nil)⟩
        · refine KC.skip ?_
          refine KC.region ?_
          refine KO.pv (PV.add rfl rfl (wrap64 (by omega) (by omega))) rfl rfl ?_
          refine KO.pv (PV.move rfl) rfl rfl ?_
          refine KO.nil ?_
          exact ⟨_, _, (by omega), (.cons rfl (.cons rfl (.cons rfl (.cons rfl (.cons rfl (.cons rfl (.cons rfl .nil))))))), (x31 + 1), rfl, rfl, (m15.pick [0, 1] (by decide) rfl), (by first | omega | assumption | (constructor <;> omega)), (hpre.step (by assumption) (by omega) (by omega))⟩
    · refine KC.exit ?_
      have hkq := hpre.mem len_q (by omega)
      refine KC.seq ?_
      refine KC.region ?_
      refine KO.pv (PV.move rfl) rfl rfl ?_
      refine KO.pv (PV.add rfl rfl (wrap64 (by omega) (by omega))) rfl rfl ?_
      refine KO.makeSliceM (C := EB) false m15 el46_B8 ez4_B8 sb4_B8 rfl rfl (by omega) (by omega) (by omega) rfl rfl fun H32 m33 => ?_
      refine KO.pv (PV.assign rfl) rfl rfl ?_
      refine KO.nil ?_
      refine KC.seq ?_
      refine KC.region ?_
      refine KO.loadN ag80_B8 sz80_B8 rfl (m33.row (i := 2) rfl) (takeN_of (p := [.int .i64 ci, .slice a_cL n_cL c_cL, .slice a_cA n_cA c_cA, .slice a_cB n_cB c_cB, .slice a_cC n_cC c_cC]) rfl rfl) rfl rfl ?_
      refine KO.pv (PV.move rfl) rfl rfl ?_
      refine KO.pv (PV.move rfl) rfl rfl ?_
      refine KO.call rfl rfl rfl rfl (ts_cone H32 ci a_cL n_cL c_cL _ a_cA n_cA c_cA _ a_cB n_cB c_cB _ a_cC n_cC c_cC _ a_q n_q c_q _ A14.next (((n5 + 1)).toNat) _ (wrap64 (by omega) (by omega)) (V.mem m33 h_cL) (V.sep m33 h_cL (i := 0) rfl) (V.mem m33 h_cA) (V.sep m33 h_cA (i := 0) rfl) (V.mem m33 h_cB) (V.sep m33 h_cB (i := 0) rfl) (V.mem m33 h_cC) (V.sep m33 h_cC (i := 0) rfl) (V.mem m33 h_q) (V.sep m33 h_q (i := 0) rfl) (m33.res (i := 0) rfl) (m33.blt (i := 0) rfl) (by first | omega | (simp only [splice, List.length_append, List.length_set, List.length_replicate, List.length_map, List.length_take, List.length_drop, List.length_cons, List.length_nil] <;> omega)) (by omega) (by first | omega | assumption) (by first | omega | assumption) (fun u hu => by have := hkq u hu; omega)) fun v34 H34 q34 => ?_
      obtain ⟨ys34, hv34, mc34, p34_0⟩ := q34
      dsimp only at hv34 mc34
      subst hv34
      have m35 := m33.seqR (i := 0) rfl mc34
      refine KO.nil ?_
      refine KC.seq ?_
      refine KC.region ?_
      refine KO.pv (PV.move rfl) rfl rfl ?_
      refine KO.pv (PV.add rfl rfl (wrap64 (by omega) (by omega))) rfl rfl ?_
      refine KO.makeSliceM (C := (EI .i64)) 0 m35 el22_B8 ez3_B8 sb3_B8 rfl rfl (by omega) (by omega) (by omega) rfl rfl fun H36 m37 => ?_
      refine KO.pv (PV.assign rfl) rfl rfl ?_
      refine KO.nil ?_
      refine KC.seq ?_
      refine KC.region ?_
      refine KO.allocM m37 zt82_B8 rfl rfl fun H38 m39 => ?_
      refine KO.nil ?_
      refine KC.seq ?_
      refine KC.seq ?_
      refine KC.region ?_
      refine KO.pv (PV.assign rfl) rfl rfl ?_
      refine KO.nil ?_
      refine KC.block ?_
      refine KC.sub (l' := [(2, .pointer (some ⟨H.next, 0, none⟩)), (4, .pointer (some ⟨H1.next, 0, none⟩)), (6, .int .i64 n5), (10, .slice (some ⟨A14.next, 0, none⟩) (((n5 + 1)).toNat) (((n5 + 1)).toNat)), (11, .slice (some ⟨H34.next, 0, none⟩) (((n5 + 1)).toNat) (((n5 + 1)).toNat)), (12, .pointer (some ⟨H36.next, 0, none⟩)), (13, .int .i64 1)]) (.cons rfl (.cons rfl (.cons rfl (.cons rfl (.cons rfl (.cons rfl (.cons rfl .nil))))))) ?_
      refine KC.loopN (fun kq lq A => ∃ (x13 : Int) (c12_0 : Int) (l11 : List Int), kq = (n5 + 1 - x13).toNat ∧ lq = [(2, .pointer (some ⟨H.next, 0, none⟩)), (4, .pointer (some ⟨H1.next, 0, none⟩)), (6, .int .i64 n5), (10, .slice (some ⟨A14.next, 0, none⟩) (((n5 + 1)).toNat) (((n5 + 1)).toNat)), (11, .slice (some ⟨H34.next, 0, none⟩) (((n5 + 1)).toNat) (((n5 + 1)).toNat)), (12, .pointer (some ⟨H36.next, 0, none⟩)), (13, .int .i64 x13)] ∧ Mem [] H A [R.row H36.next 82 true [.int .i64 c12_0, .slice none 0 0, .slice none 0 0], R.row H34.next 3 true (cells (EI .i64) l11), R.row A14.next 4 true (cells EB ys34), R.row H1.next 82 true [.int .i64 0, .slice none 0 0, .slice none 0 0], R.row H.next 80 true [.int .i64 ci, .slice a_cL n_cL c_cL, .slice a_cA n_cA c_cA, .slice a_cB n_cB c_cB, .slice a_cC n_cC c_cC]] ∧ (0 ≤ c12_0 ∧ c12_0 < x13) ∧ (x13 ≤ n5 + 1) ∧ (l11.length = ((n5 + 1)).toNat) ∧ (∀ u ∈ l11, (EI .i64).wf u) ∧ (∀ u ∈ l11, -1 ≤ u ∧ u ≤ 8001)) ?_ ((n5 + 1 - 1).toNat) ⟨1, 0, (List.replicate (((n5 + 1)).toNat) 0), rfl, rfl, (m39.pick [0, 1, 2, 3, 4] (by decide) rfl), (by first | omega | (simp only [splice, List.length_append, List.length_set, List.length_replicate, List.length_map, List.length_take, List.length_drop, List.length_cons, List.length_nil] <;> omega)), (by first | omega | (simp only [splice, List.length_append, List.length_set, List.length_replicate, List.length_map, List.length_take, List.length_drop, List.length_cons, List.length_nil] <;> omega)), (by first | omega | (simp only [splice, List.length_append, List.length_set, List.length_replicate, List.length_map, List.length_take, List.length_drop, List.length_cons, List.length_nil] <;> omega)), (all_rep (wf64 (by omega) (by omega))), (all_rep (by first | omega | assumption | (constructor <;> omega)))⟩
      rintro kq lq A40 ⟨x13, c12_0, l11, rfl, rfl, m41, hv, hx13, hl_l11, hw_l11, hr⟩
      refine KC.seq ?_
      refine KC.seq ?_
      refine KC.region ?_
      refine KO.pv (PV.move rfl) rfl rfl ?_
      refine KO.pv (PV.move rfl) rfl rfl ?_
      refine KO.pv (PV.leqD rfl rfl rfl) rfl rfl ?_
      refine KO.nil ?_
      refine KC.condD rfl (fun h42 => ?_) (fun h42 => ?_)
      · refine KC.skip ?_
        refine KC.seq ?_
        refine KC.block ?_
        refine KC.seq ?_
        refine KC.region ?_
        refine KO.pv (PV.move rfl) rfl rfl ?_
        refine KO.pv (PV.move rfl) rfl rfl ?_
        refine KO.pv (PV.indexAddrZ un22_B8 sz3_B8 rfl rfl rfl (by omega) (by omega)) rfl rfl ?_
        refine KO.storeM m41 (i := 1) rfl sz3_B8 rfl rfl rfl (cells_room (C := (EI .i64)) (xs := l11) (i := (x13).toNat) (by first | omega | (simp only [splice, List.length_append, List.length_set, List.length_replicate, List.length_map, List.length_take, List.length_drop, List.length_cons, List.length_nil] <;> omega)) rfl) (cells_put0 (C := (EI .i64)) (xs := l11) (i := (x13).toNat) (-1) (by first | omega | (simp only [splice, List.length_append, List.length_set, List.length_replicate, List.length_map, List.length_take, List.length_drop, List.length_cons, List.length_nil] <;> omega))) rfl fun H44 m45 => ?_
        refine KO.nil ?_
        refine KC.seq ?_
        refine KC.region ?_
        refine KO.pv (PV.move rfl) rfl rfl ?_
        refine KO.pv (PV.move rfl) rfl rfl ?_
        refine KO.pv (PV.indexAddrZ un46_B8 sz4_B8 rfl rfl rfl (by omega) (by omega)) rfl rfl ?_
        obtain ⟨e47, hx47⟩ : ∃ x, (ys34)[(x13).toNat]? = some x := ⟨_, List.getElem?_eq_getElem (by first | omega | (simp only [splice, List.length_append, List.length_set, List.length_replicate, List.length_map, List.length_take, List.length_drop, List.length_cons, List.length_nil] <;> omega))⟩
        refine KO.load1 ag4_B8 rfl (m45.row (i := 2) rfl) (cells_at1 hx47 rfl) rfl rfl ?_
        refine KO.nil ?_
        refine KC.cond rfl (fun h48 => ?_) (fun h48 => ?_)
        · subst h48
          refine KC.seq ?_
          refine KC.region ?_
          refine KO.pv (PV.fieldAddr fo82_0_B8 rfl) rfl rfl ?_
          refine KO.load1 ag3_B8 rfl (m45.row (i := 0) rfl) rfl rfl rfl ?_
          refine KO.pv (PV.add rfl rfl (wrap64 (by omega) (by omega))) rfl rfl ?_
          refine KO.pv (PV.fieldAddr fo82_0_B8 rfl) rfl rfl ?_
          refine KO.storeM m45 (i := 0) rfl sz3_B8 rfl rfl rfl (show 0 + 1 ≤ 3 by decide) (show _ = [.int .i64 (c12_0 + 1), .slice none 0 0, .slice none 0 0] from rfl) rfl fun H49 m50 => ?_
          refine KO.nil ?_
          refine KC.region ?_
          refine KO.pv (PV.move rfl) rfl rfl ?_
          refine KO.pv (PV.move rfl) rfl rfl ?_
          refine KO.pv (PV.fieldAddr fo82_0_B8 rfl) rfl rfl ?_
          refine KO.load1 ag3_B8 rfl (m50.row (i := 0) rfl) rfl rfl rfl ?_
          refine KO.pv (PV.mul rfl rfl (wrap64 (by omega) (by omega))) rfl rfl ?_
          refine KO.pv (PV.indexAddrZ un22_B8 sz3_B8 rfl rfl rfl (by omega) (by omega)) rfl rfl ?_
          refine KO.storeM m50 (i := 1) rfl sz3_B8 rfl rfl rfl (cells_room (C := (EI .i64)) (xs := (l11.set ((x13).toNat) (-1))) (i := (x13).toNat) (by first | omega | (simp only [splice, List.length_append, List.length_set, List.length_replicate, List.length_map, List.length_take, List.length_drop, List.length_cons, List.length_nil] <;> omega)) rfl) (cells_put0 (C := (EI .i64)) (xs := (l11.set ((x13).toNat) (-1))) (i := (x13).toNat) (2 * (c12_0 + 1)) (by first | omega | (simp only [splice, List.length_append, List.length_set, List.length_replicate, List.length_map, List.length_take, List.length_drop, List.length_cons, List.length_nil] <;> omega))) rfl fun H52 m53 => ?_
          refine KO.nil ?_
          refine KC.region ?_
          refine KO.pv (PV.move rfl) rfl rfl ?_
          refine KO.pv (PV.add rfl rfl (wrap64 (by omega) (by omega))) rfl rfl ?_
          refine KO.pv (PV.assign rfl) rfl rfl ?_
          refine KO.nil ?_
          exact ⟨_, _, (by omega), (.cons rfl (.cons rfl (.cons rfl (.cons rfl (.cons rfl (.cons rfl (.cons rfl .nil))))))), (x13 + 1), (c12_0 + 1), ((l11.set ((x13).toNat) (-1)).set ((x13).toNat) (2 * (c12_0 + 1))), rfl, rfl, (m53.pick [0, 1, 2, 3, 4] (by decide) rfl), (by first | omega | (simp only [splice, List.length_append, List.length_set, List.length_replicate, List.length_map, List.length_take, List.length_drop, List.length_cons, List.length_nil] <;> omega)), (by first | omega | (simp only [splice, List.length_append, List.length_set, List.length_replicate, List.length_map, List.length_take, List.length_drop, List.length_cons, List.length_nil] <;> omega)), (by first | omega | (simp only [splice, List.length_append, List.length_set, List.length_replicate, List.length_map, List.length_take, List.length_drop, List.length_cons, List.length_nil] <;> omega)), (all_set (all_set hw_l11 (wf64 (by omega) (by omega))) (wf64 (by omega) (by omega))), (all_set (all_set hr (by first | omega | assumption | (constructor <;> omega))) (by first | omega | assumption | (constructor <;> omega)))⟩
        · subst h48
          refine KC.skip ?_
          refine KC.region ?_
          refine KO.pv (PV.move rfl) rfl rfl ?_
          refine KO.pv (PV.add rfl rfl (wrap64 (by omega) (by omega))) rfl rfl ?_
          refine KO.pv (PV.assign rfl) rfl rfl ?_
          refine KO.nil ?_
          exact ⟨_, _, (by omega), (.cons rfl (.cons rfl (.cons rfl (.cons rfl (.cons rfl (.cons rfl (.cons rfl .nil))))))), (x13 + 1), c12_0, (l11.set ((x13).toNat) (-1)), rfl, rfl, (m45.pick [0, 1, 2, 3, 4] (by decide) rfl), (by first | omega | (simp only [splice, List.length_append, List.length_set, List.length_replicate, List.length_map, List.length_take, List.length_drop, List.length_cons, List.length_nil] <;> omega)), (by first | omega | (simp only [splice, List.length_append, List.length_set, List.length_replicate, List.length_map, List.length_take, List.length_drop, List.length_cons, List.length_nil] <;> omega)), (by first | omega | (simp only [splice, List.length_append, List.length_set, List.length_replicate, List.length_map, List.length_take, List.length_drop, List.length_cons, List.length_nil] <;> omega)), (all_set hw_l11 (wf64 (by omega) (by omega))), (all_set hr (by first | omega | assumption | (constructor <;> omega)))⟩
      · refine KC.exit ?_
        refine KC.seq ?_
        refine KC.region ?_
        refine KO.pv (PV.fieldAddr fo80_0_B8 rfl) rfl rfl ?_
        refine KO.load1 ag3_B8 rfl (m41.row (i := 4) rfl) rfl rfl rfl ?_
        refine KO.pv (PV.add rfl rfl (wrap64 (by omega) (by omega))) rfl rfl ?_
        refine KO.pv (PV.fieldAddr fo80_1_B8 rfl) rfl rfl ?_
        refine KO.load1 ag77_B8 rfl (m41.row (i := 4) rfl) rfl rfl rfl ?_
        refine KO.pv (PV.len un77_B8 rfl) rfl rfl ?_
        refine KO.pv (PV.add rfl rfl (wrap64 (by omega) (by omega))) rfl rfl ?_
        refine KO.pv (PV.assign rfl) rfl rfl ?_
        refine KO.nil ?_
        refine KC.seq ?_
        refine KC.seq ?_
        refine KC.region ?_
        refine KO.pv (PV.fieldAddr fo80_2_B8 rfl) rfl rfl ?_
        refine KO.load1 ag78_B8 rfl (m41.row (i := 4) rfl) rfl rfl rfl ?_
        refine KO.pv (PV.len un78_B8 rfl) rfl rfl ?_
        refine KO.pv (PV.move rfl) rfl rfl ?_
        refine KO.nil ?_
        refine KC.block ?_
        refine KC.sub (l' := [(4, .pointer (some ⟨H1.next, 0, none⟩)), (10, .slice (some ⟨A14.next, 0, none⟩) (((n5 + 1)).toNat) (((n5 + 1)).toNat)), (11, .slice (some ⟨H34.next, 0, none⟩) (((n5 + 1)).toNat) (((n5 + 1)).toNat)), (12, .pointer (some ⟨H36.next, 0, none⟩)), (14, .int .i64 ((1 + ci) + (n_cL : Int))), (85, .slice a_cA n_cA c_cA), (86, .int .i64 (n_cA : Int)), (87, .int .i64 0)]) (.cons rfl (.cons rfl (.cons rfl (.cons rfl (.cons rfl (.cons rfl (.cons rfl (.cons rfl .nil)))))))) ?_
        have m54 := m41.lnilC ES (e := 22) none rfl
        have m55 := m54.innNil (C := (EI .i64))
        refine KC.loopN (fun kq lq A => ∃ (x87 : Int) (a_c12_2 : Option Addr) (n_c12_2 : Nat) (l_c12_2 : List (Option Addr × Nat × Nat)) (D_c12_2 : List Nat) (i_c12_2 : List (List Int)) (E_c12_2 : List Nat), kq = ((n_cA : Int) - x87).toNat ∧ lq = [(4, .pointer (some ⟨H1.next, 0, none⟩)), (10, .slice (some ⟨A14.next, 0, none⟩) (((n5 + 1)).toNat) (((n5 + 1)).toNat)), (11, .slice (some ⟨H34.next, 0, none⟩) (((n5 + 1)).toNat) (((n5 + 1)).toNat)), (12, .pointer (some ⟨H36.next, 0, none⟩)), (14, .int .i64 ((1 + ci) + (n_cL : Int))), (85, .slice a_cA n_cA c_cA), (86, .int .i64 (n_cA : Int)), (87, .int .i64 x87)] ∧ Mem [] H A [R.row H36.next 82 true [.int .i64 c12_0, .slice none 0 0, .slice a_c12_2 n_c12_2 n_c12_2], R.row H34.next 3 true (cells (EI .i64) l11), R.row A14.next 4 true (cells EB ys34), R.row H1.next 82 true [.int .i64 0, .slice none 0 0, .slice none 0 0], R.lst 22 1 a_c12_2 n_c12_2 (cells ES l_c12_2) D_c12_2, R.inn (EI .i64) l_c12_2 i_c12_2 E_c12_2] ∧ (0 ≤ x87 ∧ x87 ≤ (n_cA : Int)) ∧ ((n_c12_2 : Int) ≤ 3 * x87) ∧ (l_c12_2.length = n_c12_2) ∧ (∀ c ∈ i_c12_2, c.length ≤ 3)) ?_ (((n_cA : Int) - 0).toNat) ⟨0, none, 0, [], [], [], [], rfl, rfl, (m55.pick [2, 3, 4, 5, 1, 0] (by decide) rfl), (by first | omega | assumption | (constructor <;> omega)), (by first | omega | (simp only [splice, List.length_append, List.length_set, List.length_replicate, List.length_map, List.length_take, List.length_drop, List.length_cons, List.length_nil] <;> omega)), (by first | omega | (simp only [splice, List.length_append, List.length_set, List.length_replicate, List.length_map, List.length_take, List.length_drop, List.length_cons, List.length_nil] <;> omega)), all_nil⟩
        rintro kq lq A56 ⟨x87, a_c12_2, n_c12_2, l_c12_2, D_c12_2, i_c12_2, E_c12_2, rfl, rfl, m57, hr23, hn2, hl_l_c12_2, hk_l_c12_2⟩
        refine KC.seq ?_
        refine KC.region ?_
        refine KO.pv (PV.lssD rfl rfl rfl) rfl rfl ?_
        refine KO.nil ?_
        refine KC.seq ?_
        refine KC.condD rfl (fun h58 => ?_) (fun h58 => ?_)
        · refine KC.skip ?_
          refine KC.seq ?_
          refine KC.block ?_
          refine KC.seq ?_
          refine KC.region ?_
          refine KO.pv (PV.move rfl) rfl rfl ?_
          obtain ⟨b59, o59, p59, r59, e59, ha59, hb59, hr59, hx59, hw59, hc59, ht59⟩ := V.at_ h_cA (z := x87) (by omega) (by omega)
          have hc59_0 : r59.cs[o59 + (x87).toNat * 2 + 0]? = some (.int .i64 e59.1) := hc59 0 (by decide)
          have hc59_1 : r59.cs[o59 + (x87).toNat * 2 + 1]? = some (.int .i64 e59.2) := hc59 1 (by decide)
          obtain ⟨hwa59, hwb59⟩ := hw59
          obtain ⟨loa59, hia59⟩ := rangei64 hwa59
          obtain ⟨lob59, hib59⟩ := rangei64 hwb59
          have gp5_0_ha_59 := p5_0_ha _ _ hx59
          refine KO.pv (PV.indexAddrZ un78_B8 sz162_B8 rfl ha59 rfl (by omega) (by omega)) rfl rfl ?_
          refine KO.loadN ag162_B8 sz162_B8 rfl (m57.row0 hb59 hr59) ht59 rfl rfl ?_
          refine KO.allocM m57 zt162_B8 rfl rfl fun H60 m61 => ?_
          refine KO.pv (PV.assign rfl) rfl rfl ?_
          refine KO.storeM m61 (i := 0) rfl sz162_B8 rfl rfl rfl (show 0 + 2 ≤ 2 by decide) (show _ = [.int .i64 e59.1, .int .i64 e59.2] from rfl) rfl fun H62 m63 => ?_
          refine KO.nil ?_
          refine KC.seq ?_
          refine KC.seq ?_
          refine KC.region ?_
          refine KO.pv (PV.move rfl) rfl rfl ?_
          refine KO.pv (PV.move rfl) rfl rfl ?_
          refine KO.pv (PV.move rfl) rfl rfl ?_
          refine KO.pv (PV.add rfl rfl (wrap64 (by omega) (by omega))) rfl rfl ?_
          refine KO.pv (PV.indexAddrZ un46_B8 sz4_B8 rfl rfl rfl (by omega) (by omega)) rfl rfl ?_
          obtain ⟨e65, hx65⟩ : ∃ x, (ys34)[((((1 + ci) + (n_cL : Int)) + x87)).toNat]? = some x := ⟨_, List.getElem?_eq_getElem (by first | omega | (simp only [splice, List.length_append, List.length_set, List.length_replicate, List.length_map, List.length_take, List.length_drop, List.length_cons, List.length_nil] <;> omega))⟩
          refine KO.load1 ag4_B8 rfl (m63.row (i := 3) rfl) (cells_at1 hx65 rfl) rfl rfl ?_
          rcases Bool.eq_false_or_eq_true e65 with h66 | h66
          · subst h66
            refine KO.pv (PV.notB rfl rfl) rfl rfl ?_
            refine KO.nil ?_
            refine KC.condF rfl ?_
            refine KC.skip ?_
            refine KC.seq ?_
            refine KC.drawG (n := 17) (anc := [0, 0, 0, 6, 15, 31, 0, 0, 128, 448, 0, 0, 2048, 8128, 16383, 32767, 65535]) (hv := [9, 13]) (ord := [6, 7, 8, 9, 10, 11, 12, 13, 0, 1, 2, 3, 4, 5, 14, 15, 16]) (by kernel_rfl) (by kernel_rfl) (by kernel_rfl) (by kernel_rfl) (by kernel_rfl) fun H67 n68 g69 => ?_
            have m70 := m63.room n68 g69 [] (by decide) (by decide)
            refine KD.pv 64 (PV.move rfl) rfl rfl rfl (by kernel_rfl) rfl rfl rfl ?_
            refine KD.pv 192 (PV.fieldAddr fo162_0_B8 rfl) rfl rfl rfl (by kernel_rfl) rfl rfl rfl ?_
            refine KD.load 448 rfl (m70.row (i := 0) rfl) (by rw [read1 ag3_B8]; exact rfl) (pastGo (k := 1) (l := [H67]) (by kernel_rfl) rfl (pastCons ⟨_, (m70.row (i := 0) rfl), (by rw [read1 ag3_B8]; exact rfl)⟩ pastNil)) veq_int rfl (by kernel_rfl) rfl rfl rfl ?_
            refine KD.call 960 rfl rfl rfl (by kernel_rfl) rfl rfl rfl (ts_lit H67 (some ⟨H34.next, 0, none⟩) (((n5 + 1)).toNat) (((n5 + 1)).toNat) _ e59.1 (m70.vrow (i := 2) rfl hw_l11 (by first | omega | (simp only [splice, List.length_append, List.length_set, List.length_replicate, List.length_map, List.length_take, List.length_drop, List.length_cons, List.length_nil] <;> omega)) (by omega) (by omega)) (wrap64 (by omega) (by omega)) (by first | omega | assumption) (by assumption)) fun v71 H71 q71 => ?_
            obtain ⟨z71, hv71, mc71, p71_0⟩ := q71
            dsimp only at hv71 mc71
            subst hv71
            have m72 := m70.seq mc71
            refine KD.pv 1984 (PV.move rfl) rfl rfl rfl (by kernel_rfl) rfl rfl rfl ?_
            refine KD.pv 4032 (PV.fieldAddr fo162_1_B8 rfl) rfl rfl rfl (by kernel_rfl) rfl rfl rfl ?_
            refine KD.load 8128 rfl (m72.row (i := 0) rfl) (by rw [read1 ag3_B8]; exact rfl) (pastGo (k := 2) (l := [H71, H67]) (by kernel_rfl) rfl (pastCons ⟨_, (m72.row (i := 0) rfl), (by rw [read1 ag3_B8]; exact rfl)⟩ (pastCons ⟨_, (m70.row (i := 0) rfl), (by rw [read1 ag3_B8]; exact rfl)⟩ pastNil))) veq_int rfl (by kernel_rfl) rfl rfl rfl ?_
            refine KD.call 16320 rfl rfl rfl (by kernel_rfl) rfl rfl rfl (ts_lit H71 (some ⟨H34.next, 0, none⟩) (((n5 + 1)).toNat) (((n5 + 1)).toNat) _ e59.2 (m72.vrow (i := 2) rfl hw_l11 (by first | omega | (simp only [splice, List.length_append, List.length_set, List.length_replicate, List.length_map, List.length_take, List.length_drop, List.length_cons, List.length_nil] <;> omega)) (by omega) (by omega)) (wrap64 (by omega) (by omega)) (by first | omega | assumption) (by assumption)) fun v73 H73 q73 => ?_
            obtain ⟨z73, hv73, mc73, p73_0⟩ := q73
            dsimp only at hv73 mc73
            subst hv73
            have m74 := m72.seq mc73
            refine KD.pv 16321 (PV.move rfl) rfl rfl rfl (by kernel_rfl) rfl rfl rfl ?_
            refine KD.pv 16323 (PV.move rfl) rfl rfl rfl (by kernel_rfl) rfl rfl rfl ?_
            refine KD.pv 16327 (PV.move rfl) rfl rfl rfl (by kernel_rfl) rfl rfl rfl ?_
            refine KD.pv 16335 (PV.add rfl rfl (wrap64 (by omega) (by omega))) rfl rfl rfl (by kernel_rfl) rfl rfl rfl ?_
            refine KD.pv 16351 (PV.indexAddrZ un22_B8 sz3_B8 rfl rfl rfl (by omega) (by omega)) rfl rfl rfl (by kernel_rfl) rfl rfl rfl ?_
            obtain ⟨e76, hx76⟩ : ∃ x, (l11)[((((1 + ci) + (n_cL : Int)) + x87)).toNat]? = some x := ⟨_, List.getElem?_eq_getElem (by first | omega | (simp only [splice, List.length_append, List.length_set, List.length_replicate, List.length_map, List.length_take, List.length_drop, List.length_cons, List.length_nil] <;> omega))⟩
            have hw76 := hw_l11 _ (List.mem_of_getElem? hx76)
            have hw76 : IntKind.i64.wrap e76 = e76 := hw76
            obtain ⟨lo76, hi76⟩ := rangei64 hw76
            have hr76 := hr _ (List.mem_of_getElem? hx76)
            refine KD.load 16383 rfl (m74.row (i := 2) rfl) (by rw [read1 ag3_B8]; exact (cells_at1 hx76 rfl)) (pastGo (k := 3) (l := [H73, H71, H67]) (by kernel_rfl) rfl (pastCons ⟨_, (m74.row (i := 2) rfl), (by rw [read1 ag3_B8]; exact (cells_at1 hx76 rfl))⟩ (pastCons ⟨_, (m72.row (i := 2) rfl), (by rw [read1 ag3_B8]; exact (cells_at1 hx76 rfl))⟩ (pastCons ⟨_, (m70.row (i := 2) rfl), (by rw [read1 ag3_B8]; exact (cells_at1 hx76 rfl))⟩ pastNil)))) veq_int rfl (by kernel_rfl) rfl rfl rfl ?_
            refine KD.pv 32767 (PV.assign rfl) rfl rfl rfl (by kernel_rfl) rfl rfl rfl ?_
            refine KD.pv 65535 (PV.assign rfl) rfl rfl rfl (by kernel_rfl) rfl rfl rfl ?_
            refine KD.pv 131071 (PV.assign rfl) rfl rfl rfl (by kernel_rfl) rfl rfl rfl ?_
            refine KD.nil ⟨rfl, ?_⟩
            refine KC.seq ?_
            refine KC.region ?_
            refine KO.pv (PV.fieldAddr fo82_2_B8 rfl) rfl rfl ?_
            refine KO.load1 ag25_B8 rfl (m74.row (i := 1) rfl) rfl rfl rfl ?_
            refine KO.pv (PV.fieldAddr fo82_0_B8 rfl) rfl rfl ?_
            refine KO.load1 ag3_B8 rfl (m74.row (i := 1) rfl) rfl rfl rfl ?_
            refine KO.pv (PV.move rfl) rfl rfl ?_
            obtain ⟨x77, rx77, dx77, zx77, qx77⟩ := xorB (e76) (1) (by omega) (by omega) (by omega) (by omega)
            refine KO.pv (PV.xorB rfl rfl qx77) rfl rfl ?_
            refine KO.pv (PV.move rfl) rfl rfl ?_
            refine KO.buildSliceM m74 el22_B8 ez3_B8 rfl rfl (show _ = some [.int .i64 x77, .int .i64 z71] from rfl) rfl rfl fun H78 m79 => ?_
            have m80 : Mem [] H H78 [R.lst 22 1 a_c12_2 n_c12_2 (cells ES l_c12_2) D_c12_2, R.inn (EI .i64) l_c12_2 i_c12_2 E_c12_2, R.row H73.next 3 true [.int .i64 x77, .int .i64 z71], R.row A56.next 162 true [.int .i64 e59.1, .int .i64 e59.2], R.row H36.next 82 true [.int .i64 c12_0, .slice none 0 0, .slice a_c12_2 n_c12_2 n_c12_2], R.row H34.next 3 true (cells (EI .i64) l11), R.row A14.next 4 true (cells EB ys34), R.row H1.next 82 true [.int .i64 0, .slice none 0 0, .slice none 0 0]] := m79.pick [6, 7, 0, 1, 2, 3, 4, 5] (by decide) rfl
            refine KO.call rfl rfl rfl rfl (ts_add H78 a_c12_2 n_c12_2 _ _ _ _ c12_0 (some ⟨H73.next, 0, none⟩) 2 2 _ (m80.own2 (i := 0) (k := 1) rfl rfl (by decide)) (wrap64 (by omega) (by omega)) (m80.vrow (E := (EI .i64)) (xs := [x77, z71]) (i := 2) rfl (by simp only [List.mem_cons, List.not_mem_nil, or_false, forall_eq_or_imp, forall_eq]; first | exact wfI (by first | decide | (constructor <;> omega)) | (refine ⟨?_, ?_⟩ <;> exact wfI (by constructor <;> omega)) | (refine ⟨?_, ?_, ?_⟩ <;> exact wfI (by constructor <;> omega))) rfl (by decide) (by decide)) (sepApp (m80.sepRow (k := 2) (i := 0) rfl rfl (by decide)) (m80.sepRow (k := 2) (i := 1) rfl rfl (by decide))) (by first | omega | assumption) (by first | omega | assumption) (by first | assumption | exact all_nil)) fun v81 H81 q81 => ?_
            obtain ⟨a81, n81, vs81, D81, xss81, E81, hv81, mc81, p81_0, p81_1⟩ := q81
            dsimp only at hv81 mc81
            subst hv81
            have m82 := m80.seq2 mc81
            refine KO.pv (PV.fieldAddr fo82_2_B8 rfl) rfl rfl ?_
            refine KO.storeM m82 (i := 4) rfl sz25_B8 rfl rfl rfl (show 2 + 1 ≤ 3 by decide) (show _ = [.int .i64 c12_0, .slice none 0 0, .slice a81 n81 n81] from rfl) rfl fun H83 m84 => ?_
            refine KO.nil ?_
            refine KC.seq ?_
            refine KC.region ?_
            refine KO.pv (PV.fieldAddr fo82_2_B8 rfl) rfl rfl ?_
            refine KO.load1 ag25_B8 rfl (m84.row (i := 4) rfl) rfl rfl rfl ?_
            refine KO.pv (PV.fieldAddr fo82_0_B8 rfl) rfl rfl ?_
            refine KO.load1 ag3_B8 rfl (m84.row (i := 4) rfl) rfl rfl rfl ?_
            refine KO.pv (PV.move rfl) rfl rfl ?_
            obtain ⟨x85, rx85, dx85, zx85, qx85⟩ := xorB (e76) (1) (by omega) (by omega) (by omega) (by omega)
            refine KO.pv (PV.xorB rfl rfl qx85) rfl rfl ?_
            refine KO.pv (PV.move rfl) rfl rfl ?_
            refine KO.buildSliceM m84 el22_B8 ez3_B8 rfl rfl (show _ = some [.int .i64 x85, .int .i64 z73] from rfl) rfl rfl fun H86 m87 => ?_
            have m88 : Mem [] H H86 [R.lst 22 1 a81 n81 (cells ES vs81) D81, R.inn (EI .i64) vs81 xss81 E81, R.row H83.next 3 true [.int .i64 x85, .int .i64 z73], R.row H73.next 3 true [.int .i64 x77, .int .i64 z71], R.row A56.next 162 true [.int .i64 e59.1, .int .i64 e59.2], R.row H36.next 82 true [.int .i64 c12_0, .slice none 0 0, .slice a81 n81 n81], R.row H34.next 3 true (cells (EI .i64) l11), R.row A14.next 4 true (cells EB ys34), R.row H1.next 82 true [.int .i64 0, .slice none 0 0, .slice none 0 0]] := m87.pick [1, 2, 0, 3, 4, 5, 6, 7, 8] (by decide) rfl
            refine KO.call rfl rfl rfl rfl (ts_add H86 a81 n81 _ _ _ _ c12_0 (some ⟨H83.next, 0, none⟩) 2 2 _ (m88.own2 (i := 0) (k := 1) rfl rfl (by decide)) (wrap64 (by omega) (by omega)) (m88.vrow (E := (EI .i64)) (xs := [x85, z73]) (i := 2) rfl (by simp only [List.mem_cons, List.not_mem_nil, or_false, forall_eq_or_imp, forall_eq]; first | exact wfI (by first | decide | (constructor <;> omega)) | (refine ⟨?_, ?_⟩ <;> exact wfI (by constructor <;> omega)) | (refine ⟨?_, ?_, ?_⟩ <;> exact wfI (by constructor <;> omega))) rfl (by decide) (by decide)) (sepApp (m88.sepRow (k := 2) (i := 0) rfl rfl (by decide)) (m88.sepRow (k := 2) (i := 1) rfl rfl (by decide))) (by first | omega | assumption) (by first | omega | assumption) (by first | assumption | exact all_nil)) fun v89 H89 q89 => ?_
            obtain ⟨a89, n89, vs89, D89, xss89, E89, hv89, mc89, p89_0, p89_1⟩ := q89
            dsimp only at hv89 mc89
            subst hv89
            have m90 := m88.seq2 mc89
            refine KO.pv (PV.fieldAddr fo82_2_B8 rfl) rfl rfl ?_
            refine KO.storeM m90 (i := 5) rfl sz25_B8 rfl rfl rfl (show 2 + 1 ≤ 3 by decide) (show _ = [.int .i64 c12_0, .slice none 0 0, .slice a89 n89 n89] from rfl) rfl fun H91 m92 => ?_
            refine KO.nil ?_
            refine KC.region ?_
            refine KO.pv (PV.fieldAddr fo82_2_B8 rfl) rfl rfl ?_
            refine KO.load1 ag25_B8 rfl (m92.row (i := 5) rfl) rfl rfl rfl ?_
            refine KO.pv (PV.fieldAddr fo82_0_B8 rfl) rfl rfl ?_
            refine KO.load1 ag3_B8 rfl (m92.row (i := 5) rfl) rfl rfl rfl ?_
            refine KO.pv (PV.move rfl) rfl rfl ?_
            refine KO.pv (PV.move rfl) rfl rfl ?_
            obtain ⟨x93, rx93, dx93, zx93, qx93⟩ := xorB (z71) (1) (by omega) (by omega) (by omega) (by omega)
            refine KO.pv (PV.xorB rfl rfl qx93) rfl rfl ?_
            refine KO.pv (PV.move rfl) rfl rfl ?_
            obtain ⟨x94, rx94, dx94, zx94, qx94⟩ := xorB (z73) (1) (by omega) (by omega) (by omega) (by omega)
            refine KO.pv (PV.xorB rfl rfl qx94) rfl rfl ?_
            refine KO.buildSliceM m92 el22_B8 ez3_B8 rfl rfl (show _ = some [.int .i64 e76, .int .i64 x93, .int .i64 x94] from rfl) rfl rfl fun H95 m96 => ?_
            have m97 : Mem [] H H95 [R.lst 22 1 a89 n89 (cells ES vs89) D89, R.inn (EI .i64) vs89 xss89 E89, R.row H91.next 3 true [.int .i64 e76, .int .i64 x93, .int .i64 x94], R.row H83.next 3 true [.int .i64 x85, .int .i64 z73], R.row H73.next 3 true [.int .i64 x77, .int .i64 z71], R.row A56.next 162 true [.int .i64 e59.1, .int .i64 e59.2], R.row H36.next 82 true [.int .i64 c12_0, .slice none 0 0, .slice a89 n89 n89], R.row H34.next 3 true (cells (EI .i64) l11), R.row A14.next 4 true (cells EB ys34), R.row H1.next 82 true [.int .i64 0, .slice none 0 0, .slice none 0 0]] := m96.pick [1, 2, 0, 3, 4, 5, 6, 7, 8, 9] (by decide) rfl
            refine KO.call rfl rfl rfl rfl (ts_add H95 a89 n89 _ _ _ _ c12_0 (some ⟨H91.next, 0, none⟩) 3 3 _ (m97.own2 (i := 0) (k := 1) rfl rfl (by decide)) (wrap64 (by omega) (by omega)) (m97.vrow (E := (EI .i64)) (xs := [e76, x93, x94]) (i := 2) rfl (by simp only [List.mem_cons, List.not_mem_nil, or_false, forall_eq_or_imp, forall_eq]; first | exact wfI (by first | decide | (constructor <;> omega)) | (refine ⟨?_, ?_⟩ <;> exact wfI (by constructor <;> omega)) | (refine ⟨?_, ?_, ?_⟩ <;> exact wfI (by constructor <;> omega))) rfl (by decide) (by decide)) (sepApp (m97.sepRow (k := 2) (i := 0) rfl rfl (by decide)) (m97.sepRow (k := 2) (i := 1) rfl rfl (by decide))) (by first | omega | assumption) (by first | omega | assumption) (by first | assumption | exact all_nil)) fun v98 H98 q98 => ?_
            obtain ⟨a98, n98, vs98, D98, xss98, E98, hv98, mc98, p98_0, p98_1⟩ := q98
            dsimp only at hv98 mc98
            subst hv98
            have m99 := m97.seq2 mc98
            refine KO.pv (PV.fieldAddr fo82_2_B8 rfl) rfl rfl ?_
            refine KO.storeM m99 (i := 6) rfl sz25_B8 rfl rfl rfl (show 2 + 1 ≤ 3 by decide) (show _ = [.int .i64 c12_0, .slice none 0 0, .slice a98 n98 n98] from rfl) rfl fun H100 m101 => ?_
            refine KO.nil ?_
            refine KC.region ?_
            refine KO.pv (PV.add rfl rfl (wrap64 (by omega) (by omega))) rfl rfl ?_
            refine KO.pv (PV.move rfl) rfl rfl ?_
            refine KO.nil ?_
            exact ⟨_, _, (by omega), (.cons rfl (.cons rfl (.cons rfl (.cons rfl (.cons rfl (.cons rfl (.cons rfl (.cons rfl .nil)))))))), (x87 + 1), a98, n98, vs98, D98, xss98, E98, rfl, rfl, (m101.pick [6, 7, 8, 9, 0, 1] (by decide) rfl), (by first | omega | assumption | (constructor <;> omega)), (by first | omega | (simp only [splice, List.length_append, List.length_set, List.length_replicate, List.length_map, List.length_take, List.length_drop, List.length_cons, List.length_nil] <;> omega)), (by first | omega | (simp only [splice, List.length_append, List.length_set, List.length_replicate, List.length_map, List.length_take, List.length_drop, List.length_cons, List.length_nil] <;> omega)), (by assumption)⟩
          · subst h66
            refine KO.pv (PV.notB rfl rfl) rfl rfl ?_
            refine KO.nil ?_
            refine KC.condT rfl ?_
            refine KC.exit ?_
            refine KC.region ?_
            refine KO.pv (PV.add rfl rfl (wrap64 (by omega) (by omega))) rfl rfl ?_
            refine KO.pv (PV.move rfl) rfl rfl ?_
            refine KO.nil ?_
            exact ⟨_, _, (by omega), (.cons rfl (.cons rfl (.cons rfl (.cons rfl (.cons rfl (.cons rfl (.cons rfl (.cons rfl .nil)))))))), (x87 + 1), a_c12_2, n_c12_2, l_c12_2, D_c12_2, i_c12_2, E_c12_2, rfl, rfl, (m63.pick [1, 2, 3, 4, 5, 6] (by decide) rfl), (by first | omega | assumption | (constructor <;> omega)), (by first | omega | (simp only [splice, List.length_append, List.length_set, List.length_replicate, List.length_map, List.length_take, List.length_drop, List.length_cons, List.length_nil] <;> omega)), (by first | omega | (simp only [splice, List.length_append, List.length_set, List.length_replicate, List.length_map, List.length_take, List.length_drop, List.length_cons, List.length_nil] <;> omega)), hk_l_c12_2⟩
        · refine KC.exit ?_
          refine KC.seq ?_
          refine KC.region ?_
          refine KO.pv (PV.move rfl) rfl rfl ?_
          refine KO.buildSliceM m57 el25_B8 ez22_B8 rfl rfl (show _ = some [.slice (some ⟨H34.next, 0, none⟩) (((n5 + 1)).toNat) (((n5 + 1)).toNat)] from rfl) rfl rfl fun H102 m103 => ?_
          refine KO.pv (PV.fieldAddr fo82_1_B8 rfl) rfl rfl ?_
          refine KO.storeM m103 (i := 1) rfl sz25_B8 rfl rfl rfl (show 1 + 1 ≤ 3 by decide) (show _ = [.int .i64 c12_0, .slice (some ⟨A56.next, 0, none⟩) 1 1, .slice a_c12_2 n_c12_2 n_c12_2] from rfl) rfl fun H104 m105 => ?_
          refine KO.nil ?_
          refine KC.seq ?_
          refine KC.region ?_
          refine KO.loadN ag82_B8 sz82_B8 rfl (m105.row (i := 1) rfl) (takeN_of (p := [.int .i64 c12_0, .slice (some ⟨A56.next, 0, none⟩) 1 1, .slice a_c12_2 n_c12_2 n_c12_2]) rfl rfl) rfl rfl ?_
          refine KO.storeM m105 (i := 4) rfl sz82_B8 rfl rfl rfl (show 0 + 3 ≤ 3 by decide) (show _ = [.int .i64 c12_0, .slice (some ⟨A56.next, 0, none⟩) 1 1, .slice a_c12_2 n_c12_2 n_c12_2] from rfl) rfl fun H106 m107 => ?_
          refine KO.pv (PV.assign rfl) rfl rfl ?_
          refine KO.nil ?_
          have m108 := m107.ownRow (C := ES) (xs := [((some ⟨H34.next, 0, none⟩), ((n5 + 1)).toNat, ((n5 + 1)).toNat)]) (i := 0) (sp := none) (n := 1) (c := 1) rfl (fun _ _ => trivial) rfl (by omega) (by omega)
          have m109 := m108.ownLst (C := ES) (i := 5) rfl (fun _ _ => trivial) (by first | omega | (simp only [splice, List.length_append, List.length_set, List.length_replicate, List.length_map, List.length_take, List.length_drop, List.length_cons, List.length_nil] <;> omega))
          have m110 := m109.ownRow (C := (EI .i64)) (i := 2) (sp := none) (n := ((n5 + 1)).toNat) (c := ((n5 + 1)).toNat) rfl hw_l11 (by first | omega | (simp only [splice, List.length_append, List.length_set, List.length_replicate, List.length_map, List.length_take, List.length_drop, List.length_cons, List.length_nil] <;> omega)) (by omega) (by omega)
          have m111 := m110.innOne (i := 2) rfl
          exact KC.ret ⟨rfl, _, (.cell rfl (ldN (m107.row (i := 4) rfl) ag82_B8 sz82_B8 rfl rfl) (.tmp rfl .nil)), c12_0, (some ⟨A56.next, 0, none⟩), 1, 1, [((some ⟨H34.next, 0, none⟩), ((n5 + 1)).toNat, ((n5 + 1)).toNat)], [A56.next], [l11], [H34.next], a_c12_2, n_c12_2, n_c12_2, l_c12_2, D_c12_2, i_c12_2, E_c12_2, 0, rfl, m111.pick [0, 2, 5, 6] (by decide) rfl, (by first | omega | (intro h; omega) | (simp only [List.length_nil, true_and, and_true, or_true, true_or] <;> omega)), (by first | omega | (intro h; omega) | (simp only [List.length_nil, true_and, and_true, or_true, true_or] <;> omega) | exact all_nil | (exact all_one (by omega))), (by first | omega | (intro h; omega) | (simp only [List.length_nil, true_and, and_true, or_true, true_or] <;> omega) | exact all_nil)⟩
theorem ts_Check (H : AHeap) (xv : Int) (a_xL : Option Addr) (n_xL c_xL : Nat) (v_xL : List (Option Addr × Nat × Nat)) (xL : List (List Int)) (a_xC : Option Addr) (n_xC c_xC : Nat) (v_xC : List (Option Addr × Nat × Nat)) (xC : List (List Int)) (w_xv : IntKind.i64.wrap xv = xv) (h_xL : V ES H a_xL n_xL c_xL v_xL) (i_xL : VV (EI .i64) H v_xL xL) (h_xC : V ES H a_xC n_xC c_xC v_xC) (i_xC : VV (EI .i64) H v_xC xC) : WF E0 50 [.agg #[.int .i64 xv, .slice a_xL n_xL c_xL, .slice a_xC n_xC c_xC]] H fun q => ∃ (e : Int), q.1 = .int .i64 e ∧ Mem [] H q.2 [] ∧ (0 ≤ e ∧ e ≤ 100) ∧ (e = 0 → (∀ c ∈ xL, ∀ u ∈ c, -1 ≤ u ∧ u ≤ 2 * xv + 1) ∧ 0 ≤ xv ∧ xv ≤ 4000) := by
  obtain ⟨lo_xv, hi_xv⟩ := rangei64 w_xv
  obtain ⟨len_xL, cap_xL, max_xL, wf_xL⟩ := h_xL.len
  have len2_xL := i_xL.1
  have len3_xL : xL.length = n_xL := by omega
  obtain ⟨len_xC, cap_xC, max_xC, wf_xC⟩ := h_xC.len
  have len2_xC := i_xC.1
  have len3_xC : xC.length = n_xC := by omega
  have m0 : Mem [] H H [] := Mem.start
  refine WF.kg Tryz.func50 rfl rfl ?_
  refine KC.seq ?_
  refine KC.region ?_
  refine KO.boxM m0 rfl rfl (show _ = [.int .i64 xv, .slice a_xL n_xL c_xL, .slice a_xC n_xC c_xC] from rfl) rfl rfl fun H1 m2 => ?_
  refine KO.pv (PV.assign rfl) rfl rfl ?_
  refine KO.nil ?_
  refine KC.seq ?_
  refine KC.seq ?_
  refine KC.region ?_
  refine KO.pv (PV.fieldAddr fo82_2_B8 rfl) rfl rfl ?_
  refine KO.load1 ag25_B8 rfl (m2.row (i := 0) rfl) rfl rfl rfl ?_
  refine KO.pv (PV.len un25_B8 rfl) rfl rfl ?_
  refine KO.pv (PV.gtrD rfl rfl rfl) rfl rfl ?_
  refine KO.nil ?_
  refine KC.condD rfl (fun h3 => ?_) (fun h3 => ?_)
  · refine KC.seq ?_
    refine KC.region ?_
    refine KO.pv (PV.assign rfl) rfl rfl ?_
    refine KO.nil ?_
    exact KC.ret ⟨rfl, _, (.tmp rfl .nil), 4, rfl, m2.pick [] (by decide) rfl, (by first | omega | (intro h; omega) | (simp only [List.length_nil, true_and, and_true, or_true, true_or] <;> omega)), (by first | omega | (intro h; omega) | (simp only [List.length_nil, true_and, and_true, or_true, true_or] <;> omega) | (exact fun _ => ⟨hkl, by omega, by omega⟩))⟩
  · refine KC.skip ?_
    refine KC.seq ?_
    refine KC.seq ?_
    refine KC.region ?_
    refine KO.pv (PV.fieldAddr fo82_0_B8 rfl) rfl rfl ?_
    refine KO.load1 ag3_B8 rfl (m2.row (i := 0) rfl) rfl rfl rfl ?_
    by_cases h4 : xv < 0
    · refine KO.pv (PV.lssD rfl rfl (decide_eq_true h4)) rfl rfl ?_
      refine KO.pv (PV.move rfl) rfl rfl ?_
      refine KO.no rfl rfl rfl ?_
      refine KO.no rfl rfl rfl ?_
      refine KO.no rfl rfl rfl ?_
      refine KO.pv (PV.pickT rfl rfl rfl) rfl rfl ?_
      refine KO.nil ?_
      refine KC.condT rfl ?_
      refine KC.seq ?_
      refine KC.region ?_
      refine KO.pv (PV.assign rfl) rfl rfl ?_
      refine KO.nil ?_
      exact KC.ret ⟨rfl, _, (.tmp rfl .nil), 8, rfl, m2.pick [] (by decide) rfl, (by first | omega | (intro h; omega) | (simp only [List.length_nil, true_and, and_true, or_true, true_or] <;> omega)), (by first | omega | (intro h; omega) | (simp only [List.length_nil, true_and, and_true, or_true, true_or] <;> omega) | (exact fun _ => ⟨hkl, by omega, by omega⟩))⟩
    · refine KO.pv (PV.lssD rfl rfl (decide_eq_false h4)) rfl rfl ?_
      refine KO.pv (PV.move rfl) rfl rfl ?_
      refine KO.pv (PV.fieldAddr fo82_0_B8 rfl) rfl rfl ?_
      refine KO.load1 ag3_B8 rfl (m2.row (i := 0) rfl) rfl rfl rfl ?_
      refine KO.pv (PV.gtrD rfl rfl rfl) rfl rfl ?_
      refine KO.pv (PV.pickF rfl rfl rfl) rfl rfl ?_
      refine KO.nil ?_
      refine KC.condD rfl (fun h5 => ?_) (fun h5 => ?_)
      · refine KC.seq ?_
        refine KC.region ?_
        refine KO.pv (PV.assign rfl) rfl rfl ?_
        refine KO.nil ?_
        exact KC.ret ⟨rfl, _, (.tmp rfl .nil), 8, rfl, m2.pick [] (by decide) rfl, (by first | omega | (intro h; omega) | (simp only [List.length_nil, true_and, and_true, or_true, true_or] <;> omega)), (by first | omega | (intro h; omega) | (simp only [List.length_nil, true_and, and_true, or_true, true_or] <;> omega) | (exact fun _ => ⟨hkl, by omega, by omega⟩))⟩
      · refine KC.skip ?_
        refine KC.seq ?_
        refine KC.seq ?_
        refine KC.region ?_
        refine KO.pv (PV.fieldAddr fo82_1_B8 rfl) rfl rfl ?_
        refine KO.load1 ag25_B8 rfl (m2.row (i := 0) rfl) rfl rfl rfl ?_
        refine KO.pv (PV.len un25_B8 rfl) rfl rfl ?_
        refine KO.pv (PV.move rfl) rfl rfl ?_
        refine KO.nil ?_
        refine KC.block ?_
        refine KC.sub (l' := [(1, .pointer (some ⟨H.next, 0, none⟩)), (22, .slice a_xL n_xL c_xL), (23, .int .i64 (n_xL : Int)), (24, .int .i64 0)]) (.cons rfl (.cons rfl (.cons rfl (.cons rfl .nil)))) ?_
        refine KC.loopN (fun kq lq A => ∃ (x24 : Int), kq = ((n_xL : Int) - x24).toNat ∧ lq = [(1, .pointer (some ⟨H.next, 0, none⟩)), (22, .slice a_xL n_xL c_xL), (23, .int .i64 (n_xL : Int)), (24, .int .i64 x24)] ∧ Mem [] H A [R.row H.next 82 true [.int .i64 xv, .slice a_xL n_xL c_xL, .slice a_xC n_xC c_xC]] ∧ (0 ≤ x24 ∧ x24 ≤ (n_xL : Int)) ∧ (Ahead xL x24 fun _ c => ∀ u ∈ c, -1 ≤ u ∧ u ≤ 2 * xv + 1)) ?_ (((n_xL : Int) - 0).toNat) ⟨0, rfl, rfl, (m2.pick [0] (by decide) rfl), (by first | omega | assumption | (constructor <;> omega)), Ahead.zero⟩
        rintro kq lq A6 ⟨x24, rfl, rfl, m7, hr6, hrows⟩
        refine KC.seq ?_
        refine KC.region ?_
        refine KO.pv (PV.lssD rfl rfl rfl) rfl rfl ?_
        refine KO.nil ?_
        refine KC.seq ?_
        refine KC.condD rfl (fun h8 => ?_) (fun h8 => ?_)
        · refine KC.skip ?_
          refine KC.seq ?_
          refine KC.block ?_
          refine KC.seq ?_
          refine KC.region ?_
          obtain ⟨b9, o9, p9, r9, e9, ha9, hb9, hr9, hx9, hw9, hc9, ht9⟩ := V.at_ h_xL (z := x24) (by omega) (by omega)
          have hc9_0 : r9.cs[o9 + (x24).toNat * 1 + 0]? = some (.slice e9.1 e9.2.1 e9.2.2) := hc9 0 (by decide)
          obtain ⟨xs9, hxs9, hV9⟩ := VV.at_ i_xL hx9
          obtain ⟨len9, cap9, max9, wf9⟩ := hV9.len
          refine KO.pv (PV.indexAddrZ un25_B8 sz22_B8 rfl ha9 rfl (by omega) (by omega)) rfl rfl ?_
          refine KO.load1 ag22_B8 rfl (m7.row0 hb9 hr9) hc9_0 rfl rfl ?_
          refine KO.pv (PV.assign rfl) rfl rfl ?_
          refine KO.nil ?_
          refine KC.seq ?_
          refine KC.seq ?_
          refine KC.region ?_
          refine KO.pv (PV.move rfl) rfl rfl ?_
          refine KO.pv (PV.len un22_B8 rfl) rfl rfl ?_
          by_cases h10 : (e9.2.1 : Int) = 0
          · refine KO.pv (PV.eqlD rfl rfl (decide_eq_true h10)) rfl rfl ?_
            refine KO.pv (PV.move rfl) rfl rfl ?_
            refine KO.no rfl rfl rfl ?_
            refine KO.no rfl rfl rfl ?_
            refine KO.no rfl rfl rfl ?_
            refine KO.no rfl rfl rfl ?_
            refine KO.no rfl rfl rfl ?_
            refine KO.no rfl rfl rfl ?_
            refine KO.no rfl rfl rfl ?_
            refine KO.no rfl rfl rfl ?_
            refine KO.pv (PV.pickT rfl rfl rfl) rfl rfl ?_
            refine KO.pv (PV.move rfl) rfl rfl ?_
            refine KO.no rfl rfl rfl ?_
            refine KO.no rfl rfl rfl ?_
            refine KO.no rfl rfl rfl ?_
            refine KO.no rfl rfl rfl ?_
            refine KO.pv (PV.pickT rfl rfl rfl) rfl rfl ?_
            refine KO.nil ?_
            refine KC.condT rfl ?_
            refine KC.seq ?_
            refine KC.region ?_
            refine KO.pv (PV.assign rfl) rfl rfl ?_
            refine KO.nil ?_
            exact KC.ret ⟨rfl, _, (.tmp rfl .nil), 8, rfl, m7.pick [] (by decide) rfl, (by first | omega | (intro h; omega) | (simp only [List.length_nil, true_and, and_true, or_true, true_or] <;> omega)), (by first | omega | (intro h; omega) | (simp only [List.length_nil, true_and, and_true, or_true, true_or] <;> omega) | (exact fun _ => ⟨hkl, by omega, by omega⟩))⟩
          · refine KO.pv (PV.eqlD rfl rfl (decide_eq_false h10)) rfl rfl ?_
            refine KO.pv (PV.move rfl) rfl rfl ?_
            refine KO.pv (PV.move rfl) rfl rfl ?_
            refine KO.pv (PV.len un22_B8 rfl) rfl rfl ?_
            refine KO.pv (PV.fieldAddr fo82_1_B8 rfl) rfl rfl ?_
            refine KO.load1 ag25_B8 rfl (m7.row (i := 0) rfl) rfl rfl rfl ?_
            obtain ⟨b11, o11, p11, r11, e11, ha11, hb11, hr11, hx11, hw11, hc11, ht11⟩ := V.at_ h_xL (z := (0 : Int)) (by omega) (by omega)
            have hc11_0 : r11.cs[o11 + ((0 : Int)).toNat * 1 + 0]? = some (.slice e11.1 e11.2.1 e11.2.2) := hc11 0 (by decide)
            obtain ⟨xs11, hxs11, hV11⟩ := VV.at_ i_xL hx11
            obtain ⟨len11, cap11, max11, wf11⟩ := hV11.len
            refine KO.pv (PV.indexAddrZ un25_B8 sz22_B8 rfl ha11 rfl (by omega) (by omega)) rfl rfl ?_
            refine KO.load1 ag22_B8 rfl (m7.row0 hb11 hr11) hc11_0 rfl rfl ?_
            refine KO.pv (PV.len un22_B8 rfl) rfl rfl ?_
            by_cases h12 : (e9.2.1 : Int) ≠ (e11.2.1 : Int)
            · refine KO.pv (PV.neqD rfl rfl (decide_eq_true h12)) rfl rfl ?_
              refine KO.pv (PV.pickF rfl rfl rfl) rfl rfl ?_
              refine KO.pv (PV.move rfl) rfl rfl ?_
              refine KO.no rfl rfl rfl ?_
              refine KO.no rfl rfl rfl ?_
              refine KO.no rfl rfl rfl ?_
              refine KO.no rfl rfl rfl ?_
              refine KO.pv (PV.pickT rfl rfl rfl) rfl rfl ?_
              refine KO.nil ?_
              refine KC.condT rfl ?_
              refine KC.seq ?_
              refine KC.region ?_
              refine KO.pv (PV.assign rfl) rfl rfl ?_
              refine KO.nil ?_
              exact KC.ret ⟨rfl, _, (.tmp rfl .nil), 8, rfl, m7.pick [] (by decide) rfl, (by first | omega | (intro h; omega) | (simp only [List.length_nil, true_and, and_true, or_true, true_or] <;> omega)), (by first | omega | (intro h; omega) | (simp only [List.length_nil, true_and, and_true, or_true, true_or] <;> omega) | (exact fun _ => ⟨hkl, by omega, by omega⟩))⟩
            · refine KO.pv (PV.neqD rfl rfl (decide_eq_false h12)) rfl rfl ?_
              refine KO.pv (PV.pickF rfl rfl rfl) rfl rfl ?_
              refine KO.pv (PV.move rfl) rfl rfl ?_
              refine KO.pv (PV.move rfl) rfl rfl ?_
              obtain ⟨b13, o13, p13, r13, e13, ha13, hb13, hr13, hx13, hw13, hc13, ht13⟩ := V.at_ hV9 (z := (0 : Int)) (by omega) (by omega)
              have hc13_0 : r13.cs[o13 + ((0 : Int)).toNat * 1 + 0]? = some (.int .i64 e13) := hc13 0 (by decide)
              have hw13 : IntKind.i64.wrap e13 = e13 := hw13
              obtain ⟨lo13, hi13⟩ := rangei64 hw13
              refine KO.pv (PV.indexAddrZ un22_B8 sz3_B8 rfl ha13 rfl (by omega) (by omega)) rfl rfl ?_
              refine KO.load1 ag3_B8 rfl (m7.row0 hb13 hr13) hc13_0 rfl rfl ?_
              refine KO.pv (PV.neqD rfl rfl rfl) rfl rfl ?_
              refine KO.pv (PV.pickF rfl rfl rfl) rfl rfl ?_
              refine KO.nil ?_
              refine KC.condD rfl (fun h14 => ?_) (fun h14 => ?_)
              · refine KC.seq ?_
                refine KC.region ?_
                refine KO.pv (PV.assign rfl) rfl rfl ?_
                refine KO.nil ?_
                exact KC.ret ⟨rfl, _, (.tmp rfl .nil), 8, rfl, m7.pick [] (by decide) rfl, (by first | omega | (intro h; omega) | (simp only [List.length_nil, true_and, and_true, or_true, true_or] <;> omega)), (by first | omega | (intro h; omega) | (simp only [List.length_nil, true_and, and_true, or_true, true_or] <;> omega) | (exact fun _ => ⟨hkl, by omega, by omega⟩))⟩
              · refine KC.skip ?_
                refine KC.seq ?_
                refine KC.region ?_
                refine KO.pv (PV.move rfl) rfl rfl ?_
                refine KO.pv (PV.len un22_B8 rfl) rfl rfl ?_
                refine KO.pv (PV.move rfl) rfl rfl ?_
                refine KO.nil ?_
                refine KC.block ?_
                refine KC.sub (l' := [(1, .pointer (some ⟨H.next, 0, none⟩)), (22, .slice a_xL n_xL c_xL), (23, .int .i64 (n_xL : Int)), (24, .int .i64 x24), (32, .slice e9.1 e9.2.1 e9.2.2), (33, .int .i64 (e9.2.1 : Int)), (34, .pointer (some ⟨H.next, 1, none⟩)), (35, .slice a_xL n_xL c_xL), (36, .pointer (some ⟨b11, o11 + ((0 : Int)).toNat * 1, none⟩)), (37, .slice e11.1 e11.2.1 e11.2.2), (38, .int .i64 (e11.2.1 : Int)), (39, .bool false), (42, .slice e9.1 e9.2.1 e9.2.2), (43, .pointer (some ⟨b13, o13 + ((0 : Int)).toNat * 1, none⟩)), (44, .int .i64 e13), (45, .bool (decide (e13 ≠ 0))), (47, .slice e9.1 e9.2.1 e9.2.2), (48, .int .i64 (e9.2.1 : Int)), (49, .int .i64 0)]) (.cons rfl (.cons rfl (.cons rfl (.cons rfl (.cons rfl (.cons rfl (.cons rfl (.cons rfl (.cons rfl (.cons rfl (.cons rfl (.cons rfl (.cons rfl (.cons rfl (.cons rfl (.cons rfl (.cons rfl (.cons rfl (.cons rfl .nil))))))))))))))))))) ?_
                refine KC.loopN (fun kq lq A => ∃ (x49 : Int), kq = ((e9.2.1 : Int) - x49).toNat ∧ lq = [(1, .pointer (some ⟨H.next, 0, none⟩)), (22, .slice a_xL n_xL c_xL), (23, .int .i64 (n_xL : Int)), (24, .int .i64 x24), (32, .slice e9.1 e9.2.1 e9.2.2), (33, .int .i64 (e9.2.1 : Int)), (34, .pointer (some ⟨H.next, 1, none⟩)), (35, .slice a_xL n_xL c_xL), (36, .pointer (some ⟨b11, o11 + ((0 : Int)).toNat * 1, none⟩)), (37, .slice e11.1 e11.2.1 e11.2.2), (38, .int .i64 (e11.2.1 : Int)), (39, .bool false), (42, .slice e9.1 e9.2.1 e9.2.2), (43, .pointer (some ⟨b13, o13 + ((0 : Int)).toNat * 1, none⟩)), (44, .int .i64 e13), (45, .bool (decide (e13 ≠ 0))), (47, .slice e9.1 e9.2.1 e9.2.2), (48, .int .i64 (e9.2.1 : Int)), (49, .int .i64 x49)] ∧ Mem [] H A [R.row H.next 82 true [.int .i64 xv, .slice a_xL n_xL c_xL, .slice a_xC n_xC c_xC]] ∧ (0 ≤ x49 ∧ x49 ≤ (e9.2.1 : Int)) ∧ (Ahead xs9 x49 fun _ u => -1 ≤ u ∧ u ≤ 2 * xv + 1)) ?_ (((e9.2.1 : Int) - 0).toNat) ⟨0, rfl, rfl, (m7.pick [0] (by decide) rfl), (by first | omega | assumption | (constructor <;> omega)), Ahead.zero⟩
                rintro kq lq A15 ⟨x49, rfl, rfl, m16, hr11, hrow⟩
                refine KC.seq ?_
                refine KC.region ?_
                refine KO.pv (PV.lssD rfl rfl rfl) rfl rfl ?_
                refine KO.nil ?_
                refine KC.seq ?_
                refine KC.condD rfl (fun h17 => ?_) (fun h17 => ?_)
                · refine KC.skip ?_
                  refine KC.seq ?_
                  refine KC.block ?_
                  refine KC.seq ?_
                  refine KC.region ?_
                  obtain ⟨b18, o18, p18, r18, e18, ha18, hb18, hr18, hx18, hw18, hc18, ht18⟩ := V.at_ hV9 (z := x49) (by omega) (by omega)
                  have hc18_0 : r18.cs[o18 + (x49).toNat * 1 + 0]? = some (.int .i64 e18) := hc18 0 (by decide)
                  have hw18 : IntKind.i64.wrap e18 = e18 := hw18
                  obtain ⟨lo18, hi18⟩ := rangei64 hw18
                  refine KO.pv (PV.indexAddrZ un22_B8 sz3_B8 rfl ha18 rfl (by omega) (by omega)) rfl rfl ?_
                  refine KO.load1 ag3_B8 rfl (m16.row0 hb18 hr18) hc18_0 rfl rfl ?_
                  refine KO.pv (PV.assign rfl) rfl rfl ?_
                  refine KO.nil ?_
                  refine KC.seq ?_
                  refine KC.region ?_
                  refine KO.pv (PV.move rfl) rfl rfl ?_
                  by_cases h19 : e18 < (-1)
                  · refine KO.pv (PV.lssD rfl rfl (decide_eq_true h19)) rfl rfl ?_
                    refine KO.pv (PV.move rfl) rfl rfl ?_
                    refine KO.no rfl rfl rfl ?_
                    refine KO.no rfl rfl rfl ?_
                    refine KO.no rfl rfl rfl ?_
                    refine KO.no rfl rfl rfl ?_
                    refine KO.no rfl rfl rfl ?_
                    refine KO.no rfl rfl rfl ?_
                    refine KO.pv (PV.pickT rfl rfl rfl) rfl rfl ?_
                    refine KO.nil ?_
                    refine KC.condT rfl ?_
                    refine KC.seq ?_
                    refine KC.region ?_
                    refine KO.pv (PV.assign rfl) rfl rfl ?_
                    refine KO.nil ?_
                    exact KC.ret ⟨rfl, _, (.tmp rfl .nil), 8, rfl, m16.pick [] (by decide) rfl, (by first | omega | (intro h; omega) | (simp only [List.length_nil, true_and, and_true, or_true, true_or] <;> omega)), (by first | omega | (intro h; omega) | (simp only [List.length_nil, true_and, and_true, or_true, true_or] <;> omega) | (exact fun _ => ⟨hkl, by omega, by omega⟩))⟩
                  · refine KO.pv (PV.lssD rfl rfl (decide_eq_false h19)) rfl rfl ?_
                    refine KO.pv (PV.move rfl) rfl rfl ?_
                    refine KO.pv (PV.move rfl) rfl rfl ?_
                    refine KO.pv (PV.fieldAddr fo82_0_B8 rfl) rfl rfl ?_
                    refine KO.load1 ag3_B8 rfl (m16.row (i := 0) rfl) rfl rfl rfl ?_
                    refine KO.pv (PV.mul rfl rfl (wrap64 (by omega) (by omega))) rfl rfl ?_
                    refine KO.pv (PV.add rfl rfl (wrap64 (by omega) (by omega))) rfl rfl ?_
                    refine KO.pv (PV.gtrD rfl rfl rfl) rfl rfl ?_
                    refine KO.pv (PV.pickF rfl rfl rfl) rfl rfl ?_
                    refine KO.nil ?_
                    refine KC.condD rfl (fun h20 => ?_) (fun h20 => ?_)
                    · refine KC.seq ?_
                      refine KC.region ?_
                      refine KO.pv (PV.assign rfl) rfl rfl ?_
                      refine KO.nil ?_
                      exact KC.ret ⟨rfl, _, (.tmp rfl .nil), 8, rfl, m16.pick [] (by decide) rfl, (by first | omega | (intro h; omega) | (simp only [List.length_nil, true_and, and_true, or_true, true_or] <;> omega)), (by first | omega | (intro h; omega) | (simp only [List.length_nil, true_and, and_true, or_true, true_or] <;> omega) | (exact fun _ => ⟨hkl, by omega, by omega⟩))⟩
                    · refine KC.skip ?_
                      refine KC.region ?_
                      refine KO.pv (PV.add rfl rfl (wrap64 (by omega) (by omega))) rfl rfl ?_
                      refine KO.pv (PV.move rfl) rfl rfl ?_
                      refine KO.nil ?_
                      exact ⟨_, _, (by omega), (.cons rfl (.cons rfl (.cons rfl (.cons rfl (.cons rfl (.cons rfl (.cons rfl (.cons rfl (.cons rfl (.cons rfl (.cons rfl (.cons rfl (.cons rfl (.cons rfl (.cons rfl (.cons rfl (.cons rfl (.cons rfl (.cons rfl .nil))))))))))))))))))), (x49 + 1), rfl, rfl, (m16.pick [0] (by decide) rfl), (by first | omega | assumption | (constructor <;> omega)), (hrow.step (by assumption) (by omega) (by constructor <;> omega))⟩
                · refine KC.exit ?_
                  have hkr := hrow.mem len9 (by omega)
                  refine KC.region ?_
                  refine KO.pv (PV.add rfl rfl (wrap64 (by omega) (by omega))) rfl rfl ?_
                  refine KO.pv (PV.move rfl) rfl rfl ?_
                  refine KO.nil ?_
                  exact ⟨_, _, (by omega), (.cons rfl (.cons rfl (.cons rfl (.cons rfl .nil)))), (x24 + 1), rfl, rfl, (m16.pick [0] (by decide) rfl), (by first | omega | assumption | (constructor <;> omega)), (hrows.step hxs9 (by omega) hkr)⟩
        · refine KC.exit ?_
          have hkl := hrows.mem len3_xL (by omega)
          refine KC.seq ?_
          refine KC.seq ?_
          refine KC.region ?_
          refine KO.pv (PV.fieldAddr fo82_2_B8 rfl) rfl rfl ?_
          refine KO.load1 ag25_B8 rfl (m7.row (i := 0) rfl) rfl rfl rfl ?_
          refine KO.pv (PV.len un25_B8 rfl) rfl rfl ?_
          refine KO.pv (PV.move rfl) rfl rfl ?_
          refine KO.nil ?_
          refine KC.block ?_
          refine KC.sub (l' := [(1, .pointer (some ⟨H.next, 0, none⟩)), (66, .slice a_xC n_xC c_xC), (67, .int .i64 (n_xC : Int)), (68, .int .i64 0)]) (.cons rfl (.cons rfl (.cons rfl (.cons rfl .nil)))) ?_
          refine KC.loopN (fun kq lq A => ∃ (x68 : Int), kq = ((n_xC : Int) - x68).toNat ∧ lq = [(1, .pointer (some ⟨H.next, 0, none⟩)), (66, .slice a_xC n_xC c_xC), (67, .int .i64 (n_xC : Int)), (68, .int .i64 x68)] ∧ Mem [] H A [R.row H.next 82 true [.int .i64 xv, .slice a_xL n_xL c_xL, .slice a_xC n_xC c_xC]] ∧ (0 ≤ x68 ∧ x68 ≤ (n_xC : Int))) ?_ (((n_xC : Int) - 0).toNat) ⟨0, rfl, rfl, (m7.pick [0] (by decide) rfl), (by first | omega | assumption | (constructor <;> omega))⟩
          rintro kq lq A21 ⟨x68, rfl, rfl, m22, hr18⟩
          refine KC.seq ?_
          refine KC.region ?_
          refine KO.pv (PV.lssD rfl rfl rfl) rfl rfl ?_
          refine KO.nil ?_
          refine KC.seq ?_
          refine KC.condD rfl (fun h23 => ?_) (fun h23 => ?_)
          · refine KC.skip ?_
            refine KC.seq ?_
            refine KC.block ?_
            refine KC.seq ?_
            refine KC.region ?_
            obtain ⟨b24, o24, p24, r24, e24, ha24, hb24, hr24, hx24, hw24, hc24, ht24⟩ := V.at_ h_xC (z := x68) (by omega) (by omega)
            have hc24_0 : r24.cs[o24 + (x68).toNat * 1 + 0]? = some (.slice e24.1 e24.2.1 e24.2.2) := hc24 0 (by decide)
            obtain ⟨xs24, hxs24, hV24⟩ := VV.at_ i_xC hx24
            obtain ⟨len24, cap24, max24, wf24⟩ := hV24.len
            refine KO.pv (PV.indexAddrZ un25_B8 sz22_B8 rfl ha24 rfl (by omega) (by omega)) rfl rfl ?_
            refine KO.load1 ag22_B8 rfl (m22.row0 hb24 hr24) hc24_0 rfl rfl ?_
            refine KO.pv (PV.assign rfl) rfl rfl ?_
            refine KO.nil ?_
            refine KC.seq ?_
            refine KC.region ?_
            refine KO.pv (PV.fieldAddr fo82_0_B8 rfl) rfl rfl ?_
            refine KO.load1 ag3_B8 rfl (m22.row (i := 0) rfl) rfl rfl rfl ?_
            refine KO.pv (PV.move rfl) rfl rfl ?_
            refine KO.call rfl rfl rfl rfl (cl_Check A21 xv e24.1 e24.2.1 e24.2.2 _ (wrap64 (by omega) (by omega)) (V.mem m22 hV24)) fun v25 H25 q25 => ?_
            obtain ⟨e25, hv25, mc25, p25_0, p25_1⟩ := q25
            dsimp only at hv25 mc25
            subst hv25
            have m26 := m22.seq mc25
            refine KO.pv (PV.neqD rfl rfl rfl) rfl rfl ?_
            refine KO.nil ?_
            refine KC.condD rfl (fun h27 => ?_) (fun h27 => ?_)
            · refine KC.seq ?_
              refine KC.region ?_
              refine KO.pv (PV.assign rfl) rfl rfl ?_
              refine KO.nil ?_
              exact KC.ret ⟨rfl, _, (.tmp rfl .nil), 8, rfl, m26.pick [] (by decide) rfl, (by first | omega | (intro h; omega) | (simp only [List.length_nil, true_and, and_true, or_true, true_or] <;> omega)), (by first | omega | (intro h; omega) | (simp only [List.length_nil, true_and, and_true, or_true, true_or] <;> omega) | (exact fun _ => ⟨hkl, by omega, by omega⟩))⟩
            · have p25_0t := p25_0 (by omega)
              obtain ⟨p25_0_v0, p25_0_v1, p25_0_l, p25_0_lt, p25_0_n⟩ := id p25_0t
              refine KC.skip ?_
              refine KC.region ?_
              refine KO.pv (PV.add rfl rfl (wrap64 (by omega) (by omega))) rfl rfl ?_
              refine KO.pv (PV.move rfl) rfl rfl ?_
              refine KO.nil ?_
              exact ⟨_, _, (by omega), (.cons rfl (.cons rfl (.cons rfl (.cons rfl .nil)))), (x68 + 1), rfl, rfl, (m26.pick [0] (by decide) rfl), (by first | omega | assumption | (constructor <;> omega))⟩
          · refine KC.exit ?_
            refine KC.seq ?_
            refine KC.region ?_
            refine KO.pv (PV.assign rfl) rfl rfl ?_
            refine KO.nil ?_
            exact KC.ret ⟨rfl, _, (.tmp rfl .nil), 0, rfl, m22.pick [] (by decide) rfl, (by first | omega | (intro h; omega) | (simp only [List.length_nil, true_and, and_true, or_true, true_or] <;> omega)), (by first | omega | (intro h; omega) | (simp only [List.length_nil, true_and, and_true, or_true, true_or] <;> omega) | (exact fun _ => ⟨hkl, by omega, by omega⟩))⟩
end Go.Eng
