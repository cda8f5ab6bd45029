/- Functions of the program and of the library keep their contracts. Conditions: none beyond each theorem's own. -/
import Derived.Test.YtjmmbonjfaifnaaGreatDoorUnrollB8
import Derived.KernelRfl
set_option linter.all false
namespace Go.Eng
open Go Go.Proofs
theorem ag4_B9 : isAggT E0.P 4 = some false := by kernel_rfl
theorem ag3_B9 : isAggT E0.P 3 = some false := by kernel_rfl
theorem sz3_B9 : sizeT E0.P 3 = some 1 := by kernel_rfl
theorem ag22_B9 : isAggT E0.P 22 = some false := by kernel_rfl
theorem el22_B9 : elemT E0.P 22 = some 3 := by kernel_rfl
theorem ez3_B9 : elemZ E0.P 3 = some (1, [.int .i64 0]) := by kernel_rfl
theorem sb3_B9 : smallBytes E0.P 3 = true := by kernel_rfl
theorem un22_B9 : E0.P.underlying 22 = some (.slice 3) := by kernel_rfl
theorem sz22_B9 : sizeT E0.P 22 = some 1 := by kernel_rfl
theorem un4_B9 : E0.P.underlying 4 = some TypeDesc.bool := by kernel_rfl
theorem sz4_B9 : sizeT E0.P 4 = some 1 := by kernel_rfl
theorem el46_B9 : elemT E0.P 46 = some 4 := by kernel_rfl
theorem ez4_B9 : elemZ E0.P 4 = some (1, [.bool false]) := by kernel_rfl
theorem sb4_B9 : smallBytes E0.P 4 = true := by kernel_rfl
theorem un46_B9 : E0.P.underlying 46 = some (.slice 4) := by kernel_rfl
theorem un25_B9 : E0.P.underlying 25 = some (.slice 22) := by kernel_rfl
theorem el25_B9 : elemT E0.P 25 = some 22 := by kernel_rfl
theorem ez22_B9 : elemZ E0.P 22 = some (1, [.slice none 0 0]) := by kernel_rfl
theorem fo80_0_B9 : foff E0.P 80 0 = some 0 := by kernel_rfl
theorem fo80_1_B9 : foff E0.P 80 1 = some 1 := by kernel_rfl
theorem ag77_B9 : isAggT E0.P 77 = some false := by kernel_rfl
theorem un77_B9 : E0.P.underlying 77 = some (.slice 166) := by kernel_rfl
theorem fo80_2_B9 : foff E0.P 80 2 = some 2 := by kernel_rfl
theorem ag78_B9 : isAggT E0.P 78 = some false := by kernel_rfl
theorem un78_B9 : E0.P.underlying 78 = some (.slice 162) := by kernel_rfl
theorem sz166_B9 : sizeT E0.P 166 = some 2 := by kernel_rfl
theorem ag166_B9 : isAggT E0.P 166 = some true := by kernel_rfl
theorem fo166_0_B9 : foff E0.P 166 0 = some 0 := by kernel_rfl
theorem fo166_1_B9 : foff E0.P 166 1 = some 1 := by kernel_rfl
theorem ag80_B9 : isAggT E0.P 80 = some true := by kernel_rfl
theorem sz80_B9 : sizeT E0.P 80 = some 5 := by kernel_rfl
theorem sz162_B9 : sizeT E0.P 162 = some 2 := by kernel_rfl
theorem ag162_B9 : isAggT E0.P 162 = some true := by kernel_rfl
theorem zt162_B9 : zeroT E0.P 162 = some [.int .i64 0, .int .i64 0] := by kernel_rfl
theorem fo162_1_B9 : foff E0.P 162 1 = some 1 := by kernel_rfl
theorem fo162_0_B9 : foff E0.P 162 0 = some 0 := by kernel_rfl
theorem ag46_B9 : isAggT E0.P 46 = some false := by kernel_rfl
theorem sz46_B9 : sizeT E0.P 46 = some 1 := by kernel_rfl
theorem ag25_B9 : isAggT E0.P 25 = some false := by kernel_rfl
theorem sb22_B9 : smallBytes E0.P 22 = true := by kernel_rfl
theorem sz25_B9 : sizeT E0.P 25 = some 1 := by kernel_rfl
theorem zt82_B9 : zeroT E0.P 82 = some [.int .i64 0, .slice none 0 0, .slice none 0 0] := by kernel_rfl
theorem bl82__B9  : buildA E0.P 82 [] = some (.agg #[.int .i64 0, .slice none 0 0, .slice none 0 0]) := by kernel_rfl
theorem sz82_B9 : sizeT E0.P 82 = some 3 := by kernel_rfl
theorem ag82_B9 : isAggT E0.P 82 = some true := by kernel_rfl
theorem fo82_0_B9 : foff E0.P 82 0 = some 0 := by kernel_rfl
theorem fo82_2_B9 : foff E0.P 82 2 = some 2 := by kernel_rfl
theorem fo82_1_B9 : foff E0.P 82 1 = some 1 := by kernel_rfl
theorem fo215_0_B9 : foff E0.P 215 0 = some 0 := by kernel_rfl
theorem zt215_B9 : zeroT E0.P 215 = some [.int .i64 0, .slice none 0 0, .slice none 0 0] := by kernel_rfl
theorem zt166_B9 : zeroT E0.P 166 = some [.int .i64 0, .int .i64 0] := by kernel_rfl
theorem zt107_B9 : zeroT E0.P 107 = some [.slice none 0 0, .slice none 0 0] := by kernel_rfl
theorem bl107__B9  : buildA E0.P 107 [] = some (.agg #[.slice none 0 0, .slice none 0 0]) := by kernel_rfl
theorem sz107_B9 : sizeT E0.P 107 = some 2 := by kernel_rfl
theorem ag107_B9 : isAggT E0.P 107 = some true := by kernel_rfl
theorem fo107_0_B9 : foff E0.P 107 0 = some 0 := by kernel_rfl
theorem fo107_1_B9 : foff E0.P 107 1 = some 1 := by kernel_rfl
theorem ag105_B9 : isAggT E0.P 105 = some false := by kernel_rfl
theorem el105_B9 : elemT E0.P 105 = some 46 := by kernel_rfl
theorem ez46_B9 : elemZ E0.P 46 = some (1, [.slice none 0 0]) := by kernel_rfl
theorem sb46_B9 : smallBytes E0.P 46 = true := by kernel_rfl
theorem un105_B9 : E0.P.underlying 105 = some (.slice 46) := by kernel_rfl
theorem sz105_B9 : sizeT E0.P 105 = some 1 := by kernel_rfl
theorem un_lit (H : AHeap) (a_r : Option Addr) (n_r c_r : Nat) (r : List Int) (l : Int) (h_r : V (EI .i64) H a_r n_r c_r r) (w_l : IntKind.i64.wrap l = l) (h0 : 0 ≤ l ∧ l / 2 < n_r) (hr : ∀ u ∈ r, 0 ≤ u ∧ u / 2 ≤ 6001) : WF E0 131 [.slice a_r n_r c_r, .int .i64 l] H fun q => ∃ (z : Int), q.1 = .int .i64 z ∧ Mem [] H q.2 [] ∧ (0 ≤ z ∧ z / 2 ≤ 6001) := by
  obtain ⟨len_r, cap_r, max_r, wf_r⟩ := h_r.len
  obtain ⟨lo_l, hi_l⟩ := rangei64 w_l
  have m0 : Mem [] H H [] := Mem.start
  refine WF.kg Tryz.func131 rfl rfl ?_
  refine KC.seq ?_
  refine KC.region ?_
  refine KO.pv (PV.assign rfl) rfl rfl ?_
  refine KO.nil ?_
  refine KC.seq ?_
  refine KC.region ?_
  refine KO.pv (PV.move rfl) rfl rfl ?_
  refine KO.pv (PV.move rfl) rfl rfl ?_
  refine KO.pv (PV.quo rfl rfl (by omega) (quoN (by omega) (by omega))) rfl rfl ?_
  obtain ⟨b1, o1, p1, r1, e1, ha1, hb1, hr1, hx1, hw1, hc1, ht1⟩ := V.at_ h_r (z := (l / 2)) (by omega) (by omega)
  have hc1_0 : r1.cs[o1 + ((l / 2)).toNat * 1 + 0]? = some (.int .i64 e1) := hc1 0 (by decide)
  have hw1 : IntKind.i64.wrap e1 = e1 := hw1
  obtain ⟨lo1, hi1⟩ := rangei64 hw1
  have h1 := hr _ (List.mem_of_getElem? hx1)
  refine KO.pv (PV.indexAddrZ un22_B9 sz3_B9 rfl ha1 rfl (by omega) (by omega)) rfl rfl ?_
  refine KO.load1 ag3_B9 rfl (m0.row0 hb1 hr1) hc1_0 rfl rfl ?_
  refine KO.pv (PV.move rfl) rfl rfl ?_
  refine KO.pv (PV.and1 rfl rfl (by omega) (by omega)) rfl rfl ?_
  obtain ⟨x2, rx2, dx2, zx2, qx2⟩ := xorB (e1) ((l % 2)) (by omega) (by omega) (by omega) (by omega)
  refine KO.pv (PV.xorB rfl rfl qx2) rfl rfl ?_
  refine KO.pv (PV.assign rfl) rfl rfl ?_
  refine KO.nil ?_
  exact KC.ret ⟨rfl, _, (.tmp rfl .nil), x2, rfl, m0.pick [] (by decide) rfl, (by first | omega | (intro h; omega) | (simp only [List.length_nil, true_and, and_true, or_true, true_or] <;> omega))⟩
theorem un_fresh (H : AHeap) (b_f : Nat) (fv : Int) (a_fL : Option Addr) (n_fL : Nat) (v_fL : List (Option Addr × Nat × Nat)) (D_fL : List Nat) (fL : List (List Int)) (E_fL : List Nat) (a_fC : Option Addr) (n_fC : Nat) (v_fC : List (Option Addr × Nat × Nat)) (D_fC : List Nat) (fC : List (List Int)) (E_fC : List Nat) (h_f : Mem ([b_f] ++ (D_fL ++ (E_fL ++ (D_fC ++ (E_fC ++ []))))) H H [R.row b_f 215 true [.int .i64 fv, .slice a_fL n_fL n_fL, .slice a_fC n_fC n_fC], R.lst 22 1 a_fL n_fL (cells ES v_fL) D_fL, R.inn (EI .i64) v_fL fL E_fL, R.lst 22 1 a_fC n_fC (cells ES v_fC) D_fC, R.inn (EI .i64) v_fC fC E_fC]) (w_fv : IntKind.i64.wrap fv = fv) (h0 : 0 ≤ fv ∧ fv ≤ 1000000) : WF E0 156 [.pointer (some ⟨b_f, 0, none⟩)] H fun q => q.1 = .int .i64 (2 * (fv + 1)) ∧ Mem ([b_f] ++ (D_fL ++ (E_fL ++ (D_fC ++ (E_fC ++ []))))) H q.2 [R.row b_f 215 true [.int .i64 (fv + 1), .slice a_fL n_fL n_fL, .slice a_fC n_fC n_fC], R.lst 22 1 a_fL n_fL (cells ES v_fL) D_fL, R.inn (EI .i64) v_fL fL E_fL, R.lst 22 1 a_fC n_fC (cells ES v_fC) D_fC, R.inn (EI .i64) v_fC fC E_fC] := by
  obtain ⟨lo_fv, hi_fv⟩ := rangei64 w_fv
  have len_fL : v_fL.length = n_fL := h_f.lstLen (E := ES) (i := 1) rfl
  have len2_fL := h_f.innLen (i := 2) rfl
  have len_fC : v_fC.length = n_fC := h_f.lstLen (E := ES) (i := 3) rfl
  have len2_fC := h_f.innLen (i := 4) rfl
  have m0 := h_f
  refine WF.kg Tryz.func156 rfl rfl ?_
  refine KC.seq ?_
  refine KC.region ?_
  refine KO.pv (PV.assign rfl) rfl rfl ?_
  refine KO.nil ?_
  refine KC.seq ?_
  refine KC.region ?_
  refine KO.pv (PV.move rfl) rfl rfl ?_
  refine KO.pv (PV.nilCheck rfl) rfl rfl ?_
  refine KO.pv (PV.fieldAddr fo215_0_B9 rfl) rfl rfl ?_
  refine KO.pv (PV.fieldAddr fo82_0_B9 rfl) rfl rfl ?_
  refine KO.load1 ag3_B9 rfl (m0.row (i := 0) rfl) rfl rfl rfl ?_
  refine KO.pv (PV.add rfl rfl (wrap64 (by omega) (by omega))) rfl rfl ?_
  refine KO.pv (PV.nilCheck rfl) rfl rfl ?_
  refine KO.pv (PV.fieldAddr fo215_0_B9 rfl) rfl rfl ?_
  refine KO.pv (PV.fieldAddr fo82_0_B9 rfl) rfl rfl ?_
  refine KO.storeM m0 (i := 0) rfl sz3_B9 rfl rfl rfl (show 0 + 1 ≤ 3 by decide) (show _ = [.int .i64 (fv + 1), .slice a_fL n_fL n_fL, .slice a_fC n_fC n_fC] from rfl) rfl fun H1 m2 => ?_
  refine KO.nil ?_
  refine KC.seq ?_
  refine KC.region ?_
  refine KO.pv (PV.move rfl) rfl rfl ?_
  refine KO.pv (PV.nilCheck rfl) rfl rfl ?_
  refine KO.pv (PV.fieldAddr fo215_0_B9 rfl) rfl rfl ?_
  refine KO.pv (PV.fieldAddr fo82_0_B9 rfl) rfl rfl ?_
  refine KO.load1 ag3_B9 rfl (m2.row (i := 0) rfl) rfl rfl rfl ?_
  refine KO.pv (PV.mul rfl rfl (wrap64 (by omega) (by omega))) rfl rfl ?_
  refine KO.pv (PV.assign rfl) rfl rfl ?_
  refine KO.nil ?_
  exact KC.ret ⟨rfl, _, (.tmp rfl .nil), rfl, m2.pick [0, 1, 2, 3, 4] (by decide) rfl⟩
theorem un_add (H : AHeap) (b_f : Nat) (fv : Int) (a_fL : Option Addr) (n_fL : Nat) (v_fL : List (Option Addr × Nat × Nat)) (D_fL : List Nat) (fL : List (List Int)) (E_fL : List Nat) (a_fC : Option Addr) (n_fC : Nat) (v_fC : List (Option Addr × Nat × Nat)) (D_fC : List Nat) (fC : List (List Int)) (E_fC : List Nat) (a_x : Option Addr) (n_x c_x : Nat) (x : List Int) (h_f : Mem ([b_f] ++ (D_fL ++ (E_fL ++ (D_fC ++ (E_fC ++ []))))) H H [R.row b_f 215 true [.int .i64 fv, .slice a_fL n_fL n_fL, .slice a_fC n_fC n_fC], R.lst 22 1 a_fL n_fL (cells ES v_fL) D_fL, R.inn (EI .i64) v_fL fL E_fL, R.lst 22 1 a_fC n_fC (cells ES v_fC) D_fC, R.inn (EI .i64) v_fC fC E_fC]) (w_fv : IntKind.i64.wrap fv = fv) (h_x : V (EI .i64) H a_x n_x c_x x) (s_x : 0 < n_x → ∀ y, a_x = some y → y.block ∉ ([b_f] ++ (D_fL ++ (E_fL ++ (D_fC ++ (E_fC ++ [])))))) (hx : n_x ≤ 3) (hl : ∀ c ∈ fC, c.length ≤ 3) (hn : n_fC ≤ 1000000) : WF E0 157 [.pointer (some ⟨b_f, 0, none⟩), .slice a_x n_x c_x] H fun q => ∃ (ka : Option Addr) (kn : Nat) (kv : List (Option Addr × Nat × Nat)) (kD : List Nat) (kx : List (List Int)) (kE : List Nat), q.1 = .tuple #[] ∧ Mem ([b_f] ++ (D_fL ++ (E_fL ++ (D_fC ++ (E_fC ++ []))))) H q.2 [R.row b_f 215 true [.int .i64 fv, .slice a_fL n_fL n_fL, .slice ka kn kn], R.lst 22 1 a_fL n_fL (cells ES v_fL) D_fL, R.inn (EI .i64) v_fL fL E_fL, R.lst 22 1 ka kn (cells ES kv) kD, R.inn (EI .i64) kv kx kE] ∧ (kv.length = kn ∧ kn ≤ n_fC + 1) ∧ (∀ c ∈ kx, c.length ≤ 3) := by
  obtain ⟨lo_fv, hi_fv⟩ := rangei64 w_fv
  have len_fL : v_fL.length = n_fL := h_f.lstLen (E := ES) (i := 1) rfl
  have len2_fL := h_f.innLen (i := 2) rfl
  have len_fC : v_fC.length = n_fC := h_f.lstLen (E := ES) (i := 3) rfl
  have len2_fC := h_f.innLen (i := 4) rfl
  obtain ⟨len_x, cap_x, max_x, wf_x⟩ := h_x.len
  have m0 := h_f
  refine WF.kg Tryz.func157 rfl rfl ?_
  refine KC.seq ?_
  refine KC.region ?_
  refine KO.pv (PV.assign rfl) rfl rfl ?_
  refine KO.nil ?_
  refine KC.seq ?_
  refine KC.seq ?_
  refine KC.region ?_
  refine KO.pv (PV.move rfl) rfl rfl ?_
  refine KO.pv (PV.len un22_B9 rfl) rfl rfl ?_
  refine KO.pv (PV.move rfl) rfl rfl ?_
  refine KO.nil ?_
  refine KC.block ?_
  refine KC.sub (l' := [(0, .pointer (some ⟨b_f, 0, none⟩)), (4, .slice none 0 0), (10, .slice a_x n_x c_x), (11, .int .i64 (n_x : Int)), (12, .int .i64 0)]) (.cons rfl (.cons rfl (.cons rfl (.cons rfl (.cons rfl .nil))))) ?_
  have m1 := m0.lnilC (EI .i64) (e := 3) none rfl
  refine KC.loopN (fun kq lq A => ∃ (a4 : Option Addr) (n4 : Nat) (l4 : List Int) (D4 : List Nat) (x12 : Int), kq = ((n_x : Int) - x12).toNat ∧ lq = [(0, .pointer (some ⟨b_f, 0, none⟩)), (4, .slice a4 n4 n4), (10, .slice a_x n_x c_x), (11, .int .i64 (n_x : Int)), (12, .int .i64 x12)] ∧ Mem ([b_f] ++ (D_fL ++ (E_fL ++ (D_fC ++ (E_fC ++ []))))) H A [R.lst 3 1 a4 n4 (cells (EI .i64) l4) D4, R.row b_f 215 true [.int .i64 fv, .slice a_fL n_fL n_fL, .slice a_fC n_fC n_fC], R.lst 22 1 a_fL n_fL (cells ES v_fL) D_fL, R.inn (EI .i64) v_fL fL E_fL, R.lst 22 1 a_fC n_fC (cells ES v_fC) D_fC, R.inn (EI .i64) v_fC fC E_fC] ∧ (0 ≤ x12 ∧ x12 ≤ (n_x : Int)) ∧ (l4.length = n4) ∧ (∀ u ∈ l4, (EI .i64).wf u) ∧ ((n4 : Int) ≤ x12)) ?_ (((n_x : Int) - 0).toNat) ⟨none, 0, [], [], 0, rfl, rfl, (m1.pick [0, 1, 2, 3, 4, 5] (by decide) rfl), (by first | omega | assumption | (constructor <;> omega)), (by first | omega | (simp only [splice, List.length_append, List.length_set, List.length_replicate, List.length_map, List.length_take, List.length_drop, List.length_cons, List.length_nil] <;> omega)), (fun _ h => absurd h List.not_mem_nil), (by first | omega | (simp only [splice, List.length_append, List.length_set, List.length_replicate, List.length_map, List.length_take, List.length_drop, List.length_cons, List.length_nil] <;> omega))⟩
  rintro kq lq A2 ⟨a4, n4, l4, D4, x12, rfl, rfl, m3, hr2, hl_l4, hw_l4, hn4⟩
  refine KC.seq ?_
  refine KC.region ?_
  refine KO.pv (PV.lssD rfl rfl rfl) rfl rfl ?_
  refine KO.nil ?_
  refine KC.seq ?_
  refine KC.condD rfl (fun h4 => ?_) (fun h4 => ?_)
  · refine KC.skip ?_
    refine KC.seq ?_
    refine KC.block ?_
    refine KC.seq ?_
    refine KC.region ?_
    obtain ⟨b5, o5, p5, r5, e5, ha5, hb5, hr5, hx5, hw5, hc5, ht5⟩ := V.at_ h_x (z := x12) (by omega) (by omega)
    have hs5 : b5 ∉ ([b_f] ++ (D_fL ++ (E_fL ++ (D_fC ++ (E_fC ++ []))))) := s_x (by omega) _ ha5
    have hc5_0 : r5.cs[o5 + (x12).toNat * 1 + 0]? = some (.int .i64 e5) := hc5 0 (by decide)
    have hw5 : IntKind.i64.wrap e5 = e5 := hw5
    obtain ⟨lo5, hi5⟩ := rangei64 hw5
    refine KO.pv (PV.indexAddrZ un22_B9 sz3_B9 rfl ha5 rfl (by omega) (by omega)) rfl rfl ?_
    refine KO.load1 ag3_B9 rfl (m3.row0M hb5 (by assumption) hr5) hc5_0 rfl rfl ?_
    refine KO.pv (PV.assign rfl) rfl rfl ?_
    refine KO.nil ?_
    refine KC.seq ?_
    refine KC.seq ?_
    refine KC.region ?_
    refine KO.pv (PV.move rfl) rfl rfl ?_
    refine KO.pv (PV.eqlD rfl rfl rfl) rfl rfl ?_
    refine KO.nil ?_
    refine KC.condD rfl (fun h6 => ?_) (fun h6 => ?_)
    · exact KC.ret ⟨rfl, _, .nil, a_fC, n_fC, v_fC, D_fC, fC, E_fC, rfl, m3.pick [1, 2, 3, 4, 5] (by decide) rfl, (by first | omega | (intro h; omega) | (simp only [List.length_nil, true_and, and_true, or_true, true_or] <;> omega) | (exact ⟨len_fC, by omega⟩) | (exact ⟨by simp only [List.length_append, List.length_cons, List.length_nil]; omega, by omega⟩)), (by first | omega | (intro h; omega) | (simp only [List.length_nil, true_and, and_true, or_true, true_or] <;> omega) | exact hl | (exact all_app hl (all_one (by omega))))⟩
    · refine KC.skip ?_
      refine KC.seq ?_
      refine KC.region ?_
      refine KO.pv (PV.move rfl) rfl rfl ?_
      refine KO.pv (PV.gtrD rfl rfl rfl) rfl rfl ?_
      refine KO.nil ?_
      refine KC.condD rfl (fun h7 => ?_) (fun h7 => ?_)
      · refine KC.region ?_
        refine KO.pv (PV.move rfl) rfl rfl ?_
        refine KO.pv (PV.move rfl) rfl rfl ?_
        refine KO.buildSliceM m3 el22_B9 ez3_B9 rfl rfl (show _ = some [.int .i64 e5] from rfl) rfl rfl fun H8 m9 => ?_
        refine KO.appendC (C := (EI .i64)) m9 (i := 1) rfl el22_B9 ez3_B9 sb3_B9 un22_B9 rfl rfl (newElems_row1 (C := (EI .i64)) (y := e5) (m9.row (i := 0) rfl) rfl) rfl (by first | omega | (simp only [splice, List.length_append, List.length_set, List.length_replicate, List.length_map, List.length_take, List.length_drop, List.length_cons, List.length_nil] <;> omega)) rfl rfl fun a11 D12 H10 m13 => ?_
        refine KO.pv (PV.assign rfl) rfl rfl ?_
        refine KO.nil ?_
        refine KC.region ?_
        refine KO.pv (PV.add rfl rfl (wrap64 (by omega) (by omega))) rfl rfl ?_
        refine KO.pv (PV.move rfl) rfl rfl ?_
        refine KO.nil ?_
        exact ⟨_, _, (by omega), (.cons rfl (.cons rfl (.cons rfl (.cons rfl (.cons rfl .nil))))), a11, (n4 + 1), (l4 ++ [e5]), D12, (x12 + 1), rfl, rfl, (m13.pick [1, 2, 3, 4, 5, 6] (by decide) rfl), (by first | omega | assumption | (constructor <;> omega)), (by first | omega | (simp only [splice, List.length_append, List.length_set, List.length_replicate, List.length_map, List.length_take, List.length_drop, List.length_cons, List.length_nil] <;> omega)), (all_app hw_l4 (all_one (wf64 (by omega) (by omega)))), (by first | omega | (simp only [splice, List.length_append, List.length_set, List.length_replicate, List.length_map, List.length_take, List.length_drop, List.length_cons, List.length_nil] <;> omega))⟩
      · refine KC.skip ?_
        refine KC.region ?_
        refine KO.pv (PV.add rfl rfl (wrap64 (by omega) (by omega))) rfl rfl ?_
        refine KO.pv (PV.move rfl) rfl rfl ?_
        refine KO.nil ?_
        exact ⟨_, _, (by omega), (.cons rfl (.cons rfl (.cons rfl (.cons rfl (.cons rfl .nil))))), a4, n4, l4, D4, (x12 + 1), rfl, rfl, (m3.pick [0, 1, 2, 3, 4, 5] (by decide) rfl), (by first | omega | assumption | (constructor <;> omega)), (by first | omega | (simp only [splice, List.length_append, List.length_set, List.length_replicate, List.length_map, List.length_take, List.length_drop, List.length_cons, List.length_nil] <;> omega)), hw_l4, (by first | omega | (simp only [splice, List.length_append, List.length_set, List.length_replicate, List.length_map, List.length_take, List.length_drop, List.length_cons, List.length_nil] <;> omega))⟩
  · refine KC.exit ?_
    refine KC.seq ?_
    refine KC.region ?_
    refine KO.pv (PV.move rfl) rfl rfl ?_
    refine KO.pv (PV.nilCheck rfl) rfl rfl ?_
    refine KO.pv (PV.fieldAddr fo215_0_B9 rfl) rfl rfl ?_
    refine KO.pv (PV.fieldAddr fo82_0_B9 rfl) rfl rfl ?_
    refine KO.load1 ag3_B9 rfl (m3.row (i := 1) rfl) rfl rfl rfl ?_
    refine KO.pv (PV.move rfl) rfl rfl ?_
    refine KO.call rfl rfl rfl rfl (cl_Make A2 fv a4 n4 n4 _ (wrap64 (by omega) (by omega)) (m3.vlst (i := 0) rfl hw_l4 (by first | omega | (simp only [splice, List.length_append, List.length_set, List.length_replicate, List.length_map, List.length_take, List.length_drop, List.length_cons, List.length_nil] <;> omega))) (by first | omega | assumption)) fun v14 H14 q14 => ?_
    obtain ⟨a14, k14, n14, ys14, D14, o14, e14, hv14, mc14, p14_0, p14_1, p14_2, p14_3⟩ := q14
    dsimp only at hv14 mc14
    subst hv14
    have m15 := m3.seq mc14
    refine KO.pv (PV.move rfl) rfl rfl ?_
    refine KO.pv (PV.extract rfl rfl) rfl rfl ?_
    refine KO.pv (PV.extract rfl rfl) rfl rfl ?_
    refine KO.pv (PV.extract rfl rfl) rfl rfl ?_
    refine KO.pv (PV.assign rfl) rfl rfl ?_
    refine KO.pv (PV.assign rfl) rfl rfl ?_
    refine KO.pv (PV.assign rfl) rfl rfl ?_
    refine KO.nil ?_
    refine KC.seq ?_
    refine KC.region ?_
    refine KO.pv (PV.move rfl) rfl rfl ?_
    by_cases h16 : e14 = 0
    · refine KO.pv (PV.eqlD rfl rfl (decide_eq_true h16)) rfl rfl ?_
      refine KO.pv (PV.move rfl) rfl rfl ?_
      refine KO.pv (PV.move rfl) rfl rfl ?_
      rcases Bool.eq_false_or_eq_true o14 with h17 | h17
      · subst h17
        refine KO.pv (PV.notB rfl rfl) rfl rfl ?_
        refine KO.pv (PV.pickT rfl rfl rfl) rfl rfl ?_
        refine KO.nil ?_
        refine KC.condF rfl ?_
        refine KC.skip ?_
        exact ⟨rfl, _, .nil, a_fC, n_fC, v_fC, D_fC, fC, E_fC, rfl, m15.pick [2, 3, 4, 5, 6] (by decide) rfl, (by first | omega | (intro h; omega) | (simp only [List.length_nil, true_and, and_true, or_true, true_or] <;> omega) | (exact ⟨len_fC, by omega⟩) | (exact ⟨by simp only [List.length_append, List.length_cons, List.length_nil]; omega, by omega⟩)), (by first | omega | (intro h; omega) | (simp only [List.length_nil, true_and, and_true, or_true, true_or] <;> omega) | exact hl | (exact all_app hl (all_one (by omega))))⟩
      · subst h17
        refine KO.pv (PV.notB rfl rfl) rfl rfl ?_
        refine KO.pv (PV.pickT rfl rfl rfl) rfl rfl ?_
        refine KO.nil ?_
        refine KC.condT rfl ?_
        refine KC.region ?_
        refine KO.pv (PV.move rfl) rfl rfl ?_
        refine KO.pv (PV.move rfl) rfl rfl ?_
        refine KO.pv (PV.nilCheck rfl) rfl rfl ?_
        refine KO.pv (PV.fieldAddr fo215_0_B9 rfl) rfl rfl ?_
        refine KO.pv (PV.fieldAddr fo82_2_B9 rfl) rfl rfl ?_
        refine KO.load1 ag25_B9 rfl (m15.row (i := 2) rfl) rfl rfl rfl ?_
        refine KO.pv (PV.move rfl) rfl rfl ?_
        refine KO.buildSliceM m15 el25_B9 ez22_B9 rfl rfl (show _ = some [.slice a14 k14 n14] from rfl) rfl rfl fun H18 m19 => ?_
        refine KO.appendC (C := ES) m19 (i := 6) rfl el25_B9 ez22_B9 sb22_B9 un25_B9 rfl rfl (newElems_row1 (C := ES) (y := (a14, k14, n14)) (m19.row (i := 0) rfl) rfl) rfl (by first | omega | (simp only [splice, List.length_append, List.length_set, List.length_replicate, List.length_map, List.length_take, List.length_drop, List.length_cons, List.length_nil] <;> omega)) rfl rfl fun a21 D22 H20 m23 => ?_
        have m24 : Mem ([b_f] ++ (D_fL ++ (E_fL ++ (D_fC ++ (E_fC ++ []))))) H H20 [R.inn (EI .i64) v_fC fC E_fC, R.own (EI .i64) a14 k14 n14 ys14 D14, R.row H14.next 22 true [.slice a14 k14 n14], R.lst 3 1 a4 n4 (cells (EI .i64) l4) D4, R.row b_f 215 true [.int .i64 fv, .slice a_fL n_fL n_fL, .slice a_fC n_fC n_fC], R.lst 22 1 a_fL n_fL (cells ES v_fL) D_fL, R.inn (EI .i64) v_fL fL E_fL, R.lst 22 1 a21 (n_fC + 1) (cells ES (v_fC ++ [(a14, k14, n14)])) D22] := m23.pick [7, 1, 0, 2, 3, 4, 5, 6] (by decide) rfl
        have m25 := m24.push
        refine KO.pv (PV.nilCheck rfl) rfl rfl ?_
        refine KO.pv (PV.fieldAddr fo215_0_B9 rfl) rfl rfl ?_
        refine KO.pv (PV.fieldAddr fo82_2_B9 rfl) rfl rfl ?_
        refine KO.storeM m25 (i := 3) rfl sz25_B9 rfl rfl rfl (show 2 + 1 ≤ 3 by decide) (show _ = [.int .i64 fv, .slice a_fL n_fL n_fL, .slice a21 (n_fC + 1) (n_fC + 1)] from rfl) rfl fun H26 m27 => ?_
        refine KO.nil ?_
        exact ⟨rfl, _, .nil, a21, (n_fC + 1), (v_fC ++ [(a14, k14, n14)]), D22, (fC ++ [ys14]), (E_fC ++ D14), rfl, m27.pick [3, 4, 5, 6, 0] (by decide) rfl, (by first | omega | (intro h; omega) | (simp only [List.length_nil, true_and, and_true, or_true, true_or] <;> omega) | (exact ⟨len_fC, by omega⟩) | (exact ⟨by simp only [List.length_append, List.length_cons, List.length_nil]; omega, by omega⟩)), (by first | omega | (intro h; omega) | (simp only [List.length_nil, true_and, and_true, or_true, true_or] <;> omega) | exact hl | (exact all_app hl (all_one (by omega))))⟩
    · refine KO.pv (PV.eqlD rfl rfl (decide_eq_false h16)) rfl rfl ?_
      refine KO.pv (PV.move rfl) rfl rfl ?_
      refine KO.no rfl rfl rfl ?_
      refine KO.no rfl rfl rfl ?_
      refine KO.pv (PV.pickF rfl rfl rfl) rfl rfl ?_
      refine KO.nil ?_
      refine KC.condF rfl ?_
      refine KC.skip ?_
      exact ⟨rfl, _, .nil, a_fC, n_fC, v_fC, D_fC, fC, E_fC, rfl, m15.pick [2, 3, 4, 5, 6] (by decide) rfl, (by first | omega | (intro h; omega) | (simp only [List.length_nil, true_and, and_true, or_true, true_or] <;> omega) | (exact ⟨len_fC, by omega⟩) | (exact ⟨by simp only [List.length_append, List.length_cons, List.length_nil]; omega, by omega⟩)), (by first | omega | (intro h; omega) | (simp only [List.length_nil, true_and, and_true, or_true, true_or] <;> omega) | exact hl | (exact all_app hl (all_one (by omega))))⟩
/-- The literals of a frame. -/
structure FrRow (m : Int) (c : List Int) : Prop where
  n : (c.length : Int) = m
  b : ∀ u ∈ c, 0 ≤ u ∧ u / 2 ≤ 6001

theorem un_frame (H : AHeap) (b_f : Nat) (fv : Int) (a_fL : Option Addr) (n_fL : Nat) (v_fL : List (Option Addr × Nat × Nat)) (D_fL : List Nat) (fL : List (List Int)) (E_fL : List Nat) (a_fC : Option Addr) (n_fC : Nat) (v_fC : List (Option Addr × Nat × Nat)) (D_fC : List Nat) (fC : List (List Int)) (E_fC : List Nat) (ci : Int) (a_cL : Option Addr) (n_cL c_cL : Nat) (cL : List (Int × Int)) (a_cA : Option Addr) (n_cA c_cA : Nat) (cA : List (Int × Int)) (a_cB : Option Addr) (n_cB c_cB : Nat) (cB : List Int) (a_cC : Option Addr) (n_cC c_cC : Nat) (cC : List Int) (a_q : Option Addr) (n_q c_q : Nat) (q : List Int) (h_f : Mem ([b_f] ++ (D_fL ++ (E_fL ++ (D_fC ++ (E_fC ++ []))))) H H [R.row b_f 215 true [.int .i64 fv, .slice a_fL n_fL n_fL, .slice a_fC n_fC n_fC], R.lst 22 1 a_fL n_fL (cells ES v_fL) D_fL, R.inn (EI .i64) v_fL fL E_fL, R.lst 22 1 a_fC n_fC (cells ES v_fC) D_fC, R.inn (EI .i64) v_fC fC E_fC]) (w_fv : IntKind.i64.wrap fv = fv) (w_ci : IntKind.i64.wrap ci = ci) (h_cL : V EP H a_cL n_cL c_cL cL) (s_cL : 0 < n_cL → ∀ y, a_cL = some y → y.block ∉ ([b_f] ++ (D_fL ++ (E_fL ++ (D_fC ++ (E_fC ++ [])))))) (h_cA : V EP H a_cA n_cA c_cA cA) (s_cA : 0 < n_cA → ∀ y, a_cA = some y → y.block ∉ ([b_f] ++ (D_fL ++ (E_fL ++ (D_fC ++ (E_fC ++ [])))))) (h_cB : V (EI .i64) H a_cB n_cB c_cB cB) (s_cB : 0 < n_cB → ∀ y, a_cB = some y → y.block ∉ ([b_f] ++ (D_fL ++ (E_fL ++ (D_fC ++ (E_fC ++ [])))))) (h_cC : V (EI .i64) H a_cC n_cC c_cC cC) (s_cC : 0 < n_cC → ∀ y, a_cC = some y → y.block ∉ ([b_f] ++ (D_fL ++ (E_fL ++ (D_fC ++ (E_fC ++ [])))))) (h_q : V (EI .i64) H a_q n_q c_q q) (s_q : 0 < n_q → ∀ y, a_q = some y → y.block ∉ ([b_f] ++ (D_fL ++ (E_fL ++ (D_fC ++ (E_fC ++ [])))))) (ok : CirOK ci cL cA cB cC) (hq : n_q = n_cL) (hv : 0 ≤ fv ∧ fv ≤ 4000) (hqb : ∀ u ∈ q, -1 ≤ u ∧ u / 2 ≤ 6001) (hfl : ∀ c ∈ fL, FrRow (1 + ci + n_cL + n_cA) c) (hfc : ∀ c ∈ fC, c.length ≤ 3) (hnl : n_fL ≤ 1000) (hnc : n_fC ≤ 20000) : WF E0 130 [.pointer (some ⟨b_f, 0, none⟩), .agg #[.int .i64 ci, .slice a_cL n_cL c_cL, .slice a_cA n_cA c_cA, .slice a_cB n_cB c_cB, .slice a_cC n_cC c_cC], .slice a_q n_q c_q] H fun q => ∃ (o : Bool) (v : Int) (la : Option Addr) (ln : Nat) (lv : List (Option Addr × Nat × Nat)) (lD : List Nat) (lx : List (List Int)) (lE : List Nat) (ka : Option Addr) (kn : Nat) (kv : List (Option Addr × Nat × Nat)) (kD : List Nat) (kx : List (List Int)) (kE : List Nat), q.1 = .bool o ∧ Mem ([b_f] ++ (D_fL ++ (E_fL ++ (D_fC ++ (E_fC ++ []))))) H q.2 [R.row b_f 215 true [.int .i64 v, .slice la ln ln, .slice ka kn kn], R.lst 22 1 la ln (cells ES lv) lD, R.inn (EI .i64) lv lx lE, R.lst 22 1 ka kn (cells ES kv) kD, R.inn (EI .i64) kv kx kE] ∧ (0 ≤ v ∧ v ≤ 6001 ∧ ln ≤ n_fL + 1 ∧ kn ≤ n_fC + 3000) ∧ (o = true → v ≤ 4000 ∧ kn ≤ 20000 ∧ ln = n_fL + 1) ∧ (∀ c ∈ lx, FrRow (1 + ci + n_cL + n_cA) c) ∧ (∀ c ∈ kx, c.length ≤ 3) ∧ (∀ c ∈ lx, c.length ≤ 1001) ∧ (lv.length = ln ∧ kv.length = kn) := by
  obtain ⟨lo_fv, hi_fv⟩ := rangei64 w_fv
  have len_fL : v_fL.length = n_fL := h_f.lstLen (E := ES) (i := 1) rfl
  have len2_fL := h_f.innLen (i := 2) rfl
  have len_fC : v_fC.length = n_fC := h_f.lstLen (E := ES) (i := 3) rfl
  have len2_fC := h_f.innLen (i := 4) rfl
  obtain ⟨lo_ci, hi_ci⟩ := rangei64 w_ci
  obtain ⟨len_cL, cap_cL, max_cL, wf_cL⟩ := h_cL.len
  obtain ⟨len_cA, cap_cA, max_cA, wf_cA⟩ := h_cA.len
  obtain ⟨len_cB, cap_cB, max_cB, wf_cB⟩ := h_cB.len
  obtain ⟨len_cC, cap_cC, max_cC, wf_cC⟩ := h_cC.len
  obtain ⟨len_q, cap_q, max_q, wf_q⟩ := h_q.len
  obtain ⟨ok_i0, ok_al, ok_b, ok_c, ok_hb, ok_hc, ok_hl, ok_ha⟩ := id ok
  have m0 := h_f
  refine WF.kg Tryz.func130 rfl rfl ?_
  refine KC.seq ?_
  refine KC.region ?_
  refine KO.boxM m0 rfl rfl (show _ = [.int .i64 ci, .slice a_cL n_cL c_cL, .slice a_cA n_cA c_cA, .slice a_cB n_cB c_cB, .slice a_cC n_cC c_cC] from rfl) rfl rfl fun H1 m2 => ?_
  refine KO.pv (PV.assign rfl) rfl rfl ?_
  refine KO.nil ?_
  refine KC.seq ?_
  refine KC.region ?_
  refine KO.buildSliceM m2 el22_B9 ez3_B9 rfl rfl (show _ = some [.int .i64 0] from rfl) rfl rfl fun H3 m4 => ?_
  refine KO.pv (PV.assign rfl) rfl rfl ?_
  have m5 := m4.lxRow (C := (EI .i64)) 3 [0] (i := 0) (n := 1) rfl rfl
  refine KO.nil ?_
  refine KC.seq ?_
  refine KC.seq ?_
  refine KC.region ?_
  refine KO.pv (PV.fieldAddr fo80_0_B9 rfl) rfl rfl ?_
  refine KO.load1 ag3_B9 rfl (m5.row (i := 1) rfl) rfl rfl rfl ?_
  refine KO.pv (PV.move rfl) rfl rfl ?_
  refine KO.nil ?_
  refine KC.block ?_
  refine KC.sub (l' := [(0, .pointer (some ⟨b_f, 0, none⟩)), (2, .slice a_q n_q c_q), (4, .pointer (some ⟨H.next, 0, none⟩)), (7, .slice (some ⟨H1.next, 0, none⟩) 1 1), (17, .int .i64 ci), (18, .int .i64 0)]) (.cons rfl (.cons rfl (.cons rfl (.cons rfl (.cons rfl (.cons rfl .nil)))))) ?_
  refine KC.loopN (fun kq lq A => ∃ (a7 : Option Addr) (n7 : Nat) (l7 : List Int) (D7 : List Nat) (x18 : Int) (c0_0 : Int), kq = (ci - x18).toNat ∧ lq = [(0, .pointer (some ⟨b_f, 0, none⟩)), (2, .slice a_q n_q c_q), (4, .pointer (some ⟨H.next, 0, none⟩)), (7, .slice a7 n7 n7), (17, .int .i64 ci), (18, .int .i64 x18)] ∧ Mem ([b_f] ++ (D_fL ++ (E_fL ++ (D_fC ++ (E_fC ++ []))))) H A [R.lx 3 1 a7 n7 (cells (EI .i64) l7) D7, R.row H.next 80 true [.int .i64 ci, .slice a_cL n_cL c_cL, .slice a_cA n_cA c_cA, .slice a_cB n_cB c_cB, .slice a_cC n_cC c_cC], R.row b_f 215 true [.int .i64 c0_0, .slice a_fL n_fL n_fL, .slice a_fC n_fC n_fC], R.lst 22 1 a_fL n_fL (cells ES v_fL) D_fL, R.inn (EI .i64) v_fL fL E_fL, R.lst 22 1 a_fC n_fC (cells ES v_fC) D_fC, R.inn (EI .i64) v_fC fC E_fC] ∧ (0 ≤ x18 ∧ x18 ≤ ci) ∧ (l7.length = n7) ∧ (∀ u ∈ l7, (EI .i64).wf u) ∧ (∀ u ∈ l7, 0 ≤ u ∧ u / 2 ≤ 6001) ∧ ((n7 : Int) = 1 + x18) ∧ (0 ≤ c0_0 ∧ c0_0 ≤ 4000 + x18)) ?_ ((ci - 0).toNat) ⟨(some ⟨H1.next, 0, none⟩), 1, [0], [H1.next], 0, fv, rfl, rfl, (m5.pick [0, 1, 2, 3, 4, 5, 6] (by decide) rfl), (by first | omega | assumption | (constructor <;> omega)), (by first | omega | (simp only [splice, List.length_append, List.length_set, List.length_replicate, List.length_map, List.length_take, List.length_drop, List.length_cons, List.length_nil] <;> omega)), (all_one (wf64 (by omega) (by omega))), (all_one (by first | omega | assumption | (constructor <;> omega))), (by first | omega | (simp only [splice, List.length_append, List.length_set, List.length_replicate, List.length_map, List.length_take, List.length_drop, List.length_cons, List.length_nil] <;> omega)), (by first | omega | (simp only [splice, List.length_append, List.length_set, List.length_replicate, List.length_map, List.length_take, List.length_drop, List.length_cons, List.length_nil] <;> omega))⟩
  rintro kq lq A6 ⟨a7, n7, l7, D7, x18, c0_0, rfl, rfl, m7, hr3, hl_l7, hw_l7, hb, hn7, hc0⟩
  refine KC.seq ?_
  refine KC.region ?_
  refine KO.pv (PV.lssD rfl rfl rfl) rfl rfl ?_
  refine KO.nil ?_
  refine KC.seq ?_
  refine KC.condD rfl (fun h8 => ?_) (fun h8 => ?_)
  · refine KC.skip ?_
    refine KC.seq ?_
    refine KC.block ?_
    refine KC.region ?_
    refine KO.pv (PV.move rfl) rfl rfl ?_
    refine KO.pv (PV.move rfl) rfl rfl ?_
    have m9 : Mem ([b_f] ++ (D_fL ++ (E_fL ++ (D_fC ++ (E_fC ++ []))))) H A6 [R.row b_f 215 true [.int .i64 c0_0, .slice a_fL n_fL n_fL, .slice a_fC n_fC n_fC], R.lst 22 1 a_fL n_fL (cells ES v_fL) D_fL, R.inn (EI .i64) v_fL fL E_fL, R.lst 22 1 a_fC n_fC (cells ES v_fC) D_fC, R.inn (EI .i64) v_fC fC E_fC, R.lx 3 1 a7 n7 (cells (EI .i64) l7) D7, R.row H.next 80 true [.int .i64 ci, .slice a_cL n_cL c_cL, .slice a_cA n_cA c_cA, .slice a_cB n_cB c_cB, .slice a_cC n_cC c_cC]] := m7.pick [2, 3, 4, 5, 6, 0, 1] (by decide) rfl
    refine KO.call rfl rfl rfl rfl (un_fresh A6 b_f c0_0 _ _ _ D_fL _ E_fL _ _ _ D_fC _ E_fC (m9.ownK (Rs := [R.row b_f 215 true [.int .i64 c0_0, .slice a_fL n_fL n_fL, .slice a_fC n_fC n_fC], R.lst 22 1 a_fL n_fL (cells ES v_fL) D_fL, R.inn (EI .i64) v_fL fL E_fL, R.lst 22 1 a_fC n_fC (cells ES v_fC) D_fC, R.inn (EI .i64) v_fC fC E_fC])) (wrap64 (by omega) (by omega)) (by first | omega | assumption)) fun v10 H10 q10 => ?_
    obtain ⟨hv10, mc10⟩ := q10
    dsimp only at hv10 mc10
    subst hv10
    have m11 := m9.seqK (Rs := [R.row b_f 215 true [.int .i64 c0_0, .slice a_fL n_fL n_fL, .slice a_fC n_fC n_fC], R.lst 22 1 a_fL n_fL (cells ES v_fL) D_fL, R.inn (EI .i64) v_fL fL E_fL, R.lst 22 1 a_fC n_fC (cells ES v_fC) D_fC, R.inn (EI .i64) v_fC fC E_fC]) mc10
    refine KO.buildSliceM m11 el22_B9 ez3_B9 rfl rfl (show _ = some [.int .i64 (2 * (c0_0 + 1))] from rfl) rfl rfl fun H12 m13 => ?_
    refine KO.appendX (C := (EI .i64)) m13 (i := 6) rfl hw_l7 el22_B9 ez3_B9 sb3_B9 un22_B9 rfl rfl (newElems_row1 (C := (EI .i64)) (y := (2 * (c0_0 + 1))) (m13.row (i := 0) rfl) rfl) rfl (by omega) (by first | omega | (simp only [splice, List.length_append, List.length_set, List.length_replicate, List.length_map, List.length_take, List.length_drop, List.length_cons, List.length_nil] <;> omega)) rfl rfl fun a15 D16 H14 m17 => ?_
    refine KO.pv (PV.assign rfl) rfl rfl ?_
    refine KO.nil ?_
    refine KC.region ?_
    refine KO.pv (PV.add rfl rfl (wrap64 (by omega) (by omega))) rfl rfl ?_
    refine KO.pv (PV.move rfl) rfl rfl ?_
    refine KO.nil ?_
    have m18 := m17.lxLst (i := 6) rfl
    exact ⟨_, _, (by omega), (.cons rfl (.cons rfl (.cons rfl (.cons rfl (.cons rfl (.cons rfl .nil)))))), a15, (n7 + 1), (l7 ++ [(2 * (c0_0 + 1))]), D16, (x18 + 1), (c0_0 + 1), rfl, rfl, (m18.pick [6, 7, 1, 2, 3, 4, 5] (by decide) rfl), (by first | omega | assumption | (constructor <;> omega)), (by first | omega | (simp only [splice, List.length_append, List.length_set, List.length_replicate, List.length_map, List.length_take, List.length_drop, List.length_cons, List.length_nil] <;> omega)), (all_app hw_l7 (all_one (wf64 (by omega) (by omega)))), (all_app hb (all_one (by first | omega | assumption | (constructor <;> omega)))), (by first | omega | (simp only [splice, List.length_append, List.length_set, List.length_replicate, List.length_map, List.length_take, List.length_drop, List.length_cons, List.length_nil] <;> omega)), (by first | omega | (simp only [splice, List.length_append, List.length_set, List.length_replicate, List.length_map, List.length_take, List.length_drop, List.length_cons, List.length_nil] <;> omega))⟩
  · refine KC.exit ?_
    refine KC.seq ?_
    refine KC.seq ?_
    refine KC.region ?_
    refine KO.pv (PV.move rfl) rfl rfl ?_
    refine KO.pv (PV.len un22_B9 rfl) rfl rfl ?_
    refine KO.pv (PV.move rfl) rfl rfl ?_
    refine KO.nil ?_
    refine KC.block ?_
    refine KC.sub (l' := [(0, .pointer (some ⟨b_f, 0, none⟩)), (4, .pointer (some ⟨H.next, 0, none⟩)), (7, .slice a7 n7 n7), (26, .slice a_q n_q c_q), (27, .int .i64 (n_q : Int)), (28, .int .i64 0)]) (.cons rfl (.cons rfl (.cons rfl (.cons rfl (.cons rfl (.cons rfl .nil)))))) ?_
    refine KC.loopN (fun kq lq A => ∃ (a7 : Option Addr) (n7 : Nat) (l7 : List Int) (D7 : List Nat) (x28 : Int) (c0_0b : Int), kq = ((n_q : Int) - x28).toNat ∧ lq = [(0, .pointer (some ⟨b_f, 0, none⟩)), (4, .pointer (some ⟨H.next, 0, none⟩)), (7, .slice a7 n7 n7), (26, .slice a_q n_q c_q), (27, .int .i64 (n_q : Int)), (28, .int .i64 x28)] ∧ Mem ([b_f] ++ (D_fL ++ (E_fL ++ (D_fC ++ (E_fC ++ []))))) H A [R.lx 3 1 a7 n7 (cells (EI .i64) l7) D7, R.row H.next 80 true [.int .i64 ci, .slice a_cL n_cL c_cL, .slice a_cA n_cA c_cA, .slice a_cB n_cB c_cB, .slice a_cC n_cC c_cC], R.row b_f 215 true [.int .i64 c0_0b, .slice a_fL n_fL n_fL, .slice a_fC n_fC n_fC], R.lst 22 1 a_fL n_fL (cells ES v_fL) D_fL, R.inn (EI .i64) v_fL fL E_fL, R.lst 22 1 a_fC n_fC (cells ES v_fC) D_fC, R.inn (EI .i64) v_fC fC E_fC] ∧ (0 ≤ x28 ∧ x28 ≤ (n_q : Int)) ∧ (l7.length = n7) ∧ (∀ u ∈ l7, (EI .i64).wf u) ∧ (∀ u ∈ l7, 0 ≤ u ∧ u / 2 ≤ 6001) ∧ ((n7 : Int) = 1 + ci + x28) ∧ (0 ≤ c0_0b ∧ c0_0b ≤ 4000 + ci + x28)) ?_ (((n_q : Int) - 0).toNat) ⟨a7, n7, l7, D7, 0, c0_0, rfl, rfl, (m7.pick [0, 1, 2, 3, 4, 5, 6] (by decide) rfl), (by first | omega | assumption | (constructor <;> omega)), (by first | omega | (simp only [splice, List.length_append, List.length_set, List.length_replicate, List.length_map, List.length_take, List.length_drop, List.length_cons, List.length_nil] <;> omega)), hw_l7, hb, (by first | omega | (simp only [splice, List.length_append, List.length_set, List.length_replicate, List.length_map, List.length_take, List.length_drop, List.length_cons, List.length_nil] <;> omega)), (by first | omega | (simp only [splice, List.length_append, List.length_set, List.length_replicate, List.length_map, List.length_take, List.length_drop, List.length_cons, List.length_nil] <;> omega))⟩
    rintro kq lq A19 ⟨a7, n7, l7, D7, x28, c0_0b, rfl, rfl, m20, hr7, hl_l7, hw_l7, hb, hn7b, hc0b⟩
    refine KC.seq ?_
    refine KC.region ?_
    refine KO.pv (PV.lssD rfl rfl rfl) rfl rfl ?_
    refine KO.nil ?_
    refine KC.seq ?_
    refine KC.condD rfl (fun h21 => ?_) (fun h21 => ?_)
    · refine KC.skip ?_
      refine KC.seq ?_
      refine KC.block ?_
      refine KC.seq ?_
      refine KC.region ?_
      obtain ⟨b22, o22, p22, r22, e22, ha22, hb22, hr22, hx22, hw22, hc22, ht22⟩ := V.at_ h_q (z := x28) (by omega) (by omega)
      have hs22 : b22 ∉ ([b_f] ++ (D_fL ++ (E_fL ++ (D_fC ++ (E_fC ++ []))))) := s_q (by omega) _ ha22
      have hc22_0 : r22.cs[o22 + (x28).toNat * 1 + 0]? = some (.int .i64 e22) := hc22 0 (by decide)
      have hw22 : IntKind.i64.wrap e22 = e22 := hw22
      obtain ⟨lo22, hi22⟩ := rangei64 hw22
      have b22 := hqb _ (List.mem_of_getElem? hx22)
      refine KO.pv (PV.indexAddrZ un22_B9 sz3_B9 rfl ha22 rfl (by omega) (by omega)) rfl rfl ?_
      refine KO.load1 ag3_B9 rfl (m20.row0M hb22 (by assumption) hr22) hc22_0 rfl rfl ?_
      refine KO.pv (PV.assign rfl) rfl rfl ?_
      refine KO.nil ?_
      refine KC.seq ?_
      refine KC.seq ?_
      refine KC.region ?_
      refine KO.pv (PV.move rfl) rfl rfl ?_
      refine KO.pv (PV.lssD rfl rfl rfl) rfl rfl ?_
      refine KO.nil ?_
      refine KC.condD rfl (fun h23 => ?_) (fun h23 => ?_)
      · refine KC.region ?_
        refine KO.pv (PV.move rfl) rfl rfl ?_
        have m24 : Mem ([b_f] ++ (D_fL ++ (E_fL ++ (D_fC ++ (E_fC ++ []))))) H A19 [R.row b_f 215 true [.int .i64 c0_0b, .slice a_fL n_fL n_fL, .slice a_fC n_fC n_fC], R.lst 22 1 a_fL n_fL (cells ES v_fL) D_fL, R.inn (EI .i64) v_fL fL E_fL, R.lst 22 1 a_fC n_fC (cells ES v_fC) D_fC, R.inn (EI .i64) v_fC fC E_fC, R.lx 3 1 a7 n7 (cells (EI .i64) l7) D7, R.row H.next 80 true [.int .i64 ci, .slice a_cL n_cL c_cL, .slice a_cA n_cA c_cA, .slice a_cB n_cB c_cB, .slice a_cC n_cC c_cC]] := m20.pick [2, 3, 4, 5, 6, 0, 1] (by decide) rfl
        refine KO.call rfl rfl rfl rfl (un_fresh A19 b_f c0_0b _ _ _ D_fL _ E_fL _ _ _ D_fC _ E_fC (m24.ownK (Rs := [R.row b_f 215 true [.int .i64 c0_0b, .slice a_fL n_fL n_fL, .slice a_fC n_fC n_fC], R.lst 22 1 a_fL n_fL (cells ES v_fL) D_fL, R.inn (EI .i64) v_fL fL E_fL, R.lst 22 1 a_fC n_fC (cells ES v_fC) D_fC, R.inn (EI .i64) v_fC fC E_fC])) (wrap64 (by omega) (by omega)) (by first | omega | assumption)) fun v25 H25 q25 => ?_
        obtain ⟨hv25, mc25⟩ := q25
        dsimp only at hv25 mc25
        subst hv25
        have m26 := m24.seqK (Rs := [R.row b_f 215 true [.int .i64 c0_0b, .slice a_fL n_fL n_fL, .slice a_fC n_fC n_fC], R.lst 22 1 a_fL n_fL (cells ES v_fL) D_fL, R.inn (EI .i64) v_fL fL E_fL, R.lst 22 1 a_fC n_fC (cells ES v_fC) D_fC, R.inn (EI .i64) v_fC fC E_fC]) mc25
        refine KO.pv (PV.assign rfl) rfl rfl ?_
        refine KO.nil ?_
        refine KC.region ?_
        refine KO.pv (PV.move rfl) rfl rfl ?_
        refine KO.pv (PV.move rfl) rfl rfl ?_
        refine KO.buildSliceM m26 el22_B9 ez3_B9 rfl rfl (show _ = some [.int .i64 (2 * (c0_0b + 1))] from rfl) rfl rfl fun H27 m28 => ?_
        refine KO.appendX (C := (EI .i64)) m28 (i := 6) rfl hw_l7 el22_B9 ez3_B9 sb3_B9 un22_B9 rfl rfl (newElems_row1 (C := (EI .i64)) (y := (2 * (c0_0b + 1))) (m28.row (i := 0) rfl) rfl) rfl (by omega) (by first | omega | (simp only [splice, List.length_append, List.length_set, List.length_replicate, List.length_map, List.length_take, List.length_drop, List.length_cons, List.length_nil] <;> omega)) rfl rfl fun a30 D31 H29 m32 => ?_
        refine KO.pv (PV.assign rfl) rfl rfl ?_
        refine KO.nil ?_
        refine KC.region ?_
        refine KO.pv (PV.add rfl rfl (wrap64 (by omega) (by omega))) rfl rfl ?_
        refine KO.pv (PV.move rfl) rfl rfl ?_
        refine KO.nil ?_
        have m33 := m32.lxLst (i := 6) rfl
        exact ⟨_, _, (by omega), (.cons rfl (.cons rfl (.cons rfl (.cons rfl (.cons rfl (.cons rfl .nil)))))), a30, (n7 + 1), (l7 ++ [(2 * (c0_0b + 1))]), D31, (x28 + 1), (c0_0b + 1), rfl, rfl, (m33.pick [6, 7, 1, 2, 3, 4, 5] (by decide) rfl), (by first | omega | assumption | (constructor <;> omega)), (by first | omega | (simp only [splice, List.length_append, List.length_set, List.length_replicate, List.length_map, List.length_take, List.length_drop, List.length_cons, List.length_nil] <;> omega)), (all_app hw_l7 (all_one (wf64 (by omega) (by omega)))), (all_app hb (all_one (by first | omega | assumption | (constructor <;> omega)))), (by first | omega | (simp only [splice, List.length_append, List.length_set, List.length_replicate, List.length_map, List.length_take, List.length_drop, List.length_cons, List.length_nil] <;> omega)), (by first | omega | (simp only [splice, List.length_append, List.length_set, List.length_replicate, List.length_map, List.length_take, List.length_drop, List.length_cons, List.length_nil] <;> omega))⟩
      · refine KC.skip ?_
        refine KC.region ?_
        refine KO.pv (PV.move rfl) rfl rfl ?_
        refine KO.pv (PV.move rfl) rfl rfl ?_
        refine KO.buildSliceM m20 el22_B9 ez3_B9 rfl rfl (show _ = some [.int .i64 e22] from rfl) rfl rfl fun H34 m35 => ?_
        refine KO.appendX (C := (EI .i64)) m35 (i := 1) rfl hw_l7 el22_B9 ez3_B9 sb3_B9 un22_B9 rfl rfl (newElems_row1 (C := (EI .i64)) (y := e22) (m35.row (i := 0) rfl) rfl) rfl (by omega) (by first | omega | (simp only [splice, List.length_append, List.length_set, List.length_replicate, List.length_map, List.length_take, List.length_drop, List.length_cons, List.length_nil] <;> omega)) rfl rfl fun a37 D38 H36 m39 => ?_
        refine KO.pv (PV.assign rfl) rfl rfl ?_
        refine KO.nil ?_
        refine KC.region ?_
        refine KO.pv (PV.add rfl rfl (wrap64 (by omega) (by omega))) rfl rfl ?_
        refine KO.pv (PV.move rfl) rfl rfl ?_
        refine KO.nil ?_
        have m40 := m39.lxLst (i := 1) rfl
        exact ⟨_, _, (by omega), (.cons rfl (.cons rfl (.cons rfl (.cons rfl (.cons rfl (.cons rfl .nil)))))), a37, (n7 + 1), (l7 ++ [e22]), D38, (x28 + 1), c0_0b, rfl, rfl, (m40.pick [1, 2, 3, 4, 5, 6, 7] (by decide) rfl), (by first | omega | assumption | (constructor <;> omega)), (by first | omega | (simp only [splice, List.length_append, List.length_set, List.length_replicate, List.length_map, List.length_take, List.length_drop, List.length_cons, List.length_nil] <;> omega)), (all_app hw_l7 (all_one (wf64 (by omega) (by omega)))), (all_app hb (all_one (by first | omega | assumption | (constructor <;> omega)))), (by first | omega | (simp only [splice, List.length_append, List.length_set, List.length_replicate, List.length_map, List.length_take, List.length_drop, List.length_cons, List.length_nil] <;> omega)), (by first | omega | (simp only [splice, List.length_append, List.length_set, List.length_replicate, List.length_map, List.length_take, List.length_drop, List.length_cons, List.length_nil] <;> omega))⟩
    · refine KC.exit ?_
      refine KC.seq ?_
      refine KC.seq ?_
      refine KC.region ?_
      refine KO.pv (PV.fieldAddr fo80_2_B9 rfl) rfl rfl ?_
      refine KO.load1 ag78_B9 rfl (m20.row (i := 1) rfl) rfl rfl rfl ?_
      refine KO.pv (PV.len un78_B9 rfl) rfl rfl ?_
      refine KO.pv (PV.move rfl) rfl rfl ?_
      refine KO.nil ?_
      refine KC.block ?_
      refine KC.sub (l' := [(0, .pointer (some ⟨b_f, 0, none⟩)), (7, .slice a7 n7 n7), (42, .slice a_cA n_cA c_cA), (43, .int .i64 (n_cA : Int)), (44, .int .i64 0)]) (.cons rfl (.cons rfl (.cons rfl (.cons rfl (.cons rfl .nil))))) ?_
      refine KC.loopN (fun kq lq A => ∃ (a7 : Option Addr) (n7 : Nat) (l7 : List Int) (D7 : List Nat) (x44 : Int) (c0_0 : Int) (a_c0_2 : Option Addr) (n_c0_2 : Nat) (l_c0_2 : List (Option Addr × Nat × Nat)) (D_c0_2 : List Nat) (i_c0_2 : List (List Int)) (E_c0_2 : List Nat), kq = ((n_cA : Int) - x44).toNat ∧ lq = [(0, .pointer (some ⟨b_f, 0, none⟩)), (7, .slice a7 n7 n7), (42, .slice a_cA n_cA c_cA), (43, .int .i64 (n_cA : Int)), (44, .int .i64 x44)] ∧ Mem ([b_f] ++ (D_fL ++ (E_fL ++ (D_fC ++ (E_fC ++ []))))) H A [R.lx 3 1 a7 n7 (cells (EI .i64) l7) D7, R.row H.next 80 true [.int .i64 ci, .slice a_cL n_cL c_cL, .slice a_cA n_cA c_cA, .slice a_cB n_cB c_cB, .slice a_cC n_cC c_cC], R.row b_f 215 true [.int .i64 c0_0, .slice a_fL n_fL n_fL, .slice a_c0_2 n_c0_2 n_c0_2], R.lst 22 1 a_fL n_fL (cells ES v_fL) D_fL, R.inn (EI .i64) v_fL fL E_fL, R.lst 22 1 a_c0_2 n_c0_2 (cells ES l_c0_2) D_c0_2, R.inn (EI .i64) l_c0_2 i_c0_2 E_c0_2] ∧ (0 ≤ x44 ∧ x44 ≤ (n_cA : Int)) ∧ (l7.length = n7) ∧ (∀ u ∈ l7, (EI .i64).wf u) ∧ (∀ u ∈ l7, 0 ≤ u ∧ u / 2 ≤ 6001) ∧ ((n7 : Int) = 1 + ci + n_cL + x44) ∧ (0 ≤ c0_0 ∧ c0_0 ≤ 6000) ∧ ((n_c0_2 : Int) ≤ n_fC + 3 * x44) ∧ (l_c0_2.length = n_c0_2) ∧ (∀ c ∈ i_c0_2, c.length ≤ 3)) ?_ (((n_cA : Int) - 0).toNat) ⟨a7, n7, l7, D7, 0, c0_0b, a_fC, n_fC, v_fC, D_fC, fC, E_fC, rfl, rfl, (m20.pick [0, 1, 2, 3, 4, 5, 6] (by decide) rfl), (by first | omega | assumption | (constructor <;> omega)), (by first | omega | (simp only [splice, List.length_append, List.length_set, List.length_replicate, List.length_map, List.length_take, List.length_drop, List.length_cons, List.length_nil] <;> omega)), hw_l7, hb, (by first | omega | (simp only [splice, List.length_append, List.length_set, List.length_replicate, List.length_map, List.length_take, List.length_drop, List.length_cons, List.length_nil] <;> omega)), (by first | omega | (simp only [splice, List.length_append, List.length_set, List.length_replicate, List.length_map, List.length_take, List.length_drop, List.length_cons, List.length_nil] <;> omega)), (by first | omega | (simp only [splice, List.length_append, List.length_set, List.length_replicate, List.length_map, List.length_take, List.length_drop, List.length_cons, List.length_nil] <;> omega)), (by first | omega | (simp only [splice, List.length_append, List.length_set, List.length_replicate, List.length_map, List.length_take, List.length_drop, List.length_cons, List.length_nil] <;> omega)), (by assumption)⟩
      rintro kq lq A41 ⟨a7, n7, l7, D7, x44, c0_0, a_c0_2, n_c0_2, l_c0_2, D_c0_2, i_c0_2, E_c0_2, rfl, rfl, m42, hr14, hl_l7, hw_l7, hb, hn7c, hc0c, hkc, hl_l_c0_2, hk_l_c0_2⟩
      refine KC.seq ?_
      refine KC.region ?_
      refine KO.pv (PV.lssD rfl rfl rfl) rfl rfl ?_
      refine KO.nil ?_
      refine KC.seq ?_
      refine KC.condD rfl (fun h43 => ?_) (fun h43 => ?_)
      · refine KC.skip ?_
        refine KC.seq ?_
        refine KC.block ?_
        refine KC.seq ?_
        refine KC.region ?_
        obtain ⟨b44, o44, p44, r44, e44, ha44, hb44, hr44, hx44, hw44, hc44, ht44⟩ := V.at_ h_cA (z := x44) (by omega) (by omega)
        have hs44 : b44 ∉ ([b_f] ++ (D_fL ++ (E_fL ++ (D_fC ++ (E_fC ++ []))))) := s_cA (by omega) _ ha44
        have hc44_0 : r44.cs[o44 + (x44).toNat * 2 + 0]? = some (.int .i64 e44.1) := hc44 0 (by decide)
        have hc44_1 : r44.cs[o44 + (x44).toNat * 2 + 1]? = some (.int .i64 e44.2) := hc44 1 (by decide)
        obtain ⟨hwa44, hwb44⟩ := hw44
        obtain ⟨loa44, hia44⟩ := rangei64 hwa44
        obtain ⟨lob44, hib44⟩ := rangei64 hwb44
        have gok_ha_44 := ok_ha _ _ hx44
        refine KO.pv (PV.indexAddrZ un78_B9 sz162_B9 rfl ha44 rfl (by omega) (by omega)) rfl rfl ?_
        refine KO.loadN ag162_B9 sz162_B9 rfl (m42.row0M hb44 (by assumption) hr44) ht44 rfl rfl ?_
        refine KO.allocM m42 zt162_B9 rfl rfl fun H45 m46 => ?_
        refine KO.storeM m46 (i := 0) rfl sz162_B9 rfl rfl rfl (show 0 + 2 ≤ 2 by decide) (show _ = [.int .i64 e44.1, .int .i64 e44.2] from rfl) rfl fun H47 m48 => ?_
        refine KO.nil ?_
        refine KC.seq ?_
        refine KC.region ?_
        refine KO.pv (PV.move rfl) rfl rfl ?_
        have m49 : Mem ([b_f] ++ (D_fL ++ (E_fL ++ (D_fC ++ (E_fC ++ []))))) H H47 [R.row b_f 215 true [.int .i64 c0_0, .slice a_fL n_fL n_fL, .slice a_c0_2 n_c0_2 n_c0_2], R.lst 22 1 a_fL n_fL (cells ES v_fL) D_fL, R.inn (EI .i64) v_fL fL E_fL, R.lst 22 1 a_c0_2 n_c0_2 (cells ES l_c0_2) D_c0_2, R.inn (EI .i64) l_c0_2 i_c0_2 E_c0_2, R.row A41.next 162 true [.int .i64 e44.1, .int .i64 e44.2], R.lx 3 1 a7 n7 (cells (EI .i64) l7) D7, R.row H.next 80 true [.int .i64 ci, .slice a_cL n_cL c_cL, .slice a_cA n_cA c_cA, .slice a_cB n_cB c_cB, .slice a_cC n_cC c_cC]] := m48.pick [3, 4, 5, 6, 7, 0, 1, 2] (by decide) rfl
        refine KO.call rfl rfl rfl rfl (un_fresh H47 b_f c0_0 _ _ _ D_fL _ E_fL _ _ _ D_c0_2 _ E_c0_2 (m49.ownK (Rs := [R.row b_f 215 true [.int .i64 c0_0, .slice a_fL n_fL n_fL, .slice a_c0_2 n_c0_2 n_c0_2], R.lst 22 1 a_fL n_fL (cells ES v_fL) D_fL, R.inn (EI .i64) v_fL fL E_fL, R.lst 22 1 a_c0_2 n_c0_2 (cells ES l_c0_2) D_c0_2, R.inn (EI .i64) l_c0_2 i_c0_2 E_c0_2])) (wrap64 (by omega) (by omega)) (by first | omega | assumption)) fun v50 H50 q50 => ?_
        obtain ⟨hv50, mc50⟩ := q50
        dsimp only at hv50 mc50
        subst hv50
        have m51 := m49.seqK (Rs := [R.row b_f 215 true [.int .i64 c0_0, .slice a_fL n_fL n_fL, .slice a_c0_2 n_c0_2 n_c0_2], R.lst 22 1 a_fL n_fL (cells ES v_fL) D_fL, R.inn (EI .i64) v_fL fL E_fL, R.lst 22 1 a_c0_2 n_c0_2 (cells ES l_c0_2) D_c0_2, R.inn (EI .i64) l_c0_2 i_c0_2 E_c0_2]) mc50
        refine KO.pv (PV.assign rfl) rfl rfl ?_
        refine KO.nil ?_
        refine KC.seq ?_
        refine KC.seq ?_
        refine KC.region ?_
        refine KO.pv (PV.move rfl) rfl rfl ?_
        refine KO.pv (PV.nilCheck rfl) rfl rfl ?_
        refine KO.pv (PV.fieldAddr fo215_0_B9 rfl) rfl rfl ?_
        refine KO.pv (PV.fieldAddr fo82_0_B9 rfl) rfl rfl ?_
        refine KO.load1 ag3_B9 rfl (m51.row (i := 0) rfl) rfl rfl rfl ?_
        refine KO.pv (PV.gtrD rfl rfl rfl) rfl rfl ?_
        refine KO.nil ?_
        refine KC.condD rfl (fun h52 => ?_) (fun h52 => ?_)
        · refine KC.seq ?_
          refine KC.region ?_
          refine KO.pv (PV.assign rfl) rfl rfl ?_
          refine KO.nil ?_
          exact KC.ret ⟨rfl, _, (.tmp rfl .nil), false, (c0_0 + 1), a_fL, n_fL, v_fL, D_fL, fL, E_fL, a_c0_2, n_c0_2, l_c0_2, D_c0_2, i_c0_2, E_c0_2, rfl, m51.pick [0, 1, 2, 3, 4] (by decide) rfl, (by first | omega | (intro h; omega) | (simp only [List.length_nil, true_and, and_true, or_true, true_or] <;> omega)), (by first | omega | (intro h; omega) | (simp only [List.length_nil, true_and, and_true, or_true, true_or] <;> omega) | (exact fun h => by have := of_decide_eq_true h; omega) | (exact fun h => by cases h)), (by first | omega | (intro h; omega) | (simp only [List.length_nil, true_and, and_true, or_true, true_or] <;> omega) | exact hfl | (exact all_app hfl (all_one ⟨by omega, hb⟩))), (by first | omega | (intro h; omega) | (simp only [List.length_nil, true_and, and_true, or_true, true_or] <;> omega)), (by first | omega | (intro h; omega) | (simp only [List.length_nil, true_and, and_true, or_true, true_or] <;> omega) | (exact fun c hc => by have := (hfl c hc).n; omega) | (exact all_app (fun c hc => by have := (hfl c hc).n; omega) (all_one (by omega)))), (by first | omega | (intro h; omega) | (simp only [List.length_nil, true_and, and_true, or_true, true_or] <;> omega) | (exact ⟨by first | omega | (simp only [List.length_append, List.length_cons, List.length_nil]; omega), by omega⟩))⟩
        · refine KC.skip ?_
          refine KC.seq ?_
          refine KC.drawG (n := 10) (anc := [0, 0, 2, 7, 0, 0, 32, 127, 255, 511]) (hv := [3, 7]) (ord := [0, 1, 2, 3, 4, 5, 6, 7, 8, 9]) (by kernel_rfl) (by kernel_rfl) (by kernel_rfl) (by kernel_rfl) (by kernel_rfl) fun H53 n54 g55 => ?_
          have m56 := m51.room n54 g55 [] (by decide) (by decide)
          refine KD.pv 1 (PV.move rfl) rfl rfl rfl (by kernel_rfl) rfl rfl rfl ?_
          refine KD.pv 3 (PV.fieldAddr fo162_0_B9 rfl) rfl rfl rfl (by kernel_rfl) rfl rfl rfl ?_
          refine KD.load 7 rfl (m56.row (i := 5) rfl) (by rw [read1 ag3_B9]; exact rfl) (pastGo (k := 1) (l := [H53]) (by kernel_rfl) rfl (pastCons ⟨_, (m56.row (i := 5) rfl), (by rw [read1 ag3_B9]; exact rfl)⟩ pastNil)) veq_int rfl (by kernel_rfl) rfl rfl rfl ?_
          refine KD.call 15 rfl rfl rfl (by kernel_rfl) rfl rfl rfl (un_lit H53 a7 n7 n7 _ e44.1 (m56.lxV (i := 6) rfl hw_l7 (by first | omega | (simp only [splice, List.length_append, List.length_set, List.length_replicate, List.length_map, List.length_take, List.length_drop, List.length_cons, List.length_nil] <;> omega))) (wrap64 (by omega) (by omega)) (by first | omega | assumption) (by assumption)) fun v57 H57 q57 => ?_
          obtain ⟨z57, hv57, mc57, p57_0⟩ := q57
          dsimp only at hv57 mc57
          subst hv57
          have m58 := m56.seq mc57
          refine KD.pv 31 (PV.move rfl) rfl rfl rfl (by kernel_rfl) rfl rfl rfl ?_
          refine KD.pv 63 (PV.fieldAddr fo162_1_B9 rfl) rfl rfl rfl (by kernel_rfl) rfl rfl rfl ?_
          refine KD.load 127 rfl (m58.row (i := 5) rfl) (by rw [read1 ag3_B9]; exact rfl) (pastGo (k := 2) (l := [H57, H53]) (by kernel_rfl) rfl (pastCons ⟨_, (m58.row (i := 5) rfl), (by rw [read1 ag3_B9]; exact rfl)⟩ (pastCons ⟨_, (m56.row (i := 5) rfl), (by rw [read1 ag3_B9]; exact rfl)⟩ pastNil))) veq_int rfl (by kernel_rfl) rfl rfl rfl ?_
          refine KD.call 255 rfl rfl rfl (by kernel_rfl) rfl rfl rfl (un_lit H57 a7 n7 n7 _ e44.2 (m58.lxV (i := 6) rfl hw_l7 (by first | omega | (simp only [splice, List.length_append, List.length_set, List.length_replicate, List.length_map, List.length_take, List.length_drop, List.length_cons, List.length_nil] <;> omega))) (wrap64 (by omega) (by omega)) (by first | omega | assumption) (by assumption)) fun v59 H59 q59 => ?_
          obtain ⟨z59, hv59, mc59, p59_0⟩ := q59
          dsimp only at hv59 mc59
          subst hv59
          have m60 := m58.seq mc59
          refine KD.pv 511 (PV.assign rfl) rfl rfl rfl (by kernel_rfl) rfl rfl rfl ?_
          refine KD.pv 1023 (PV.assign rfl) rfl rfl rfl (by kernel_rfl) rfl rfl rfl ?_
          refine KD.nil ⟨rfl, ?_⟩
          refine KC.seq ?_
          refine KC.region ?_
          refine KO.pv (PV.move rfl) rfl rfl ?_
          refine KO.pv (PV.move rfl) rfl rfl ?_
          refine KO.buildSliceM m60 el22_B9 ez3_B9 rfl rfl (show _ = some [.int .i64 (2 * (c0_0 + 1))] from rfl) rfl rfl fun H61 m62 => ?_
          refine KO.appendX (C := (EI .i64)) m62 (i := 7) rfl hw_l7 el22_B9 ez3_B9 sb3_B9 un22_B9 rfl rfl (newElems_row1 (C := (EI .i64)) (y := (2 * (c0_0 + 1))) (m62.row (i := 0) rfl) rfl) rfl (by omega) (by first | omega | (simp only [splice, List.length_append, List.length_set, List.length_replicate, List.length_map, List.length_take, List.length_drop, List.length_cons, List.length_nil] <;> omega)) rfl rfl fun a64 D65 H63 m66 => ?_
          refine KO.pv (PV.assign rfl) rfl rfl ?_
          refine KO.nil ?_
          refine KC.seq ?_
          refine KC.region ?_
          refine KO.pv (PV.move rfl) rfl rfl ?_
          refine KO.pv (PV.move rfl) rfl rfl ?_
          obtain ⟨x67, rx67, dx67, zx67, qx67⟩ := xorB ((2 * (c0_0 + 1))) (1) (by omega) (by omega) (by omega) (by omega)
          refine KO.pv (PV.xorB rfl rfl qx67) rfl rfl ?_
          refine KO.pv (PV.move rfl) rfl rfl ?_
          refine KO.buildSliceM m66 el22_B9 ez3_B9 rfl rfl (show _ = some [.int .i64 x67, .int .i64 z57] from rfl) rfl rfl fun H68 m69 => ?_
          have m70 : Mem ([b_f] ++ (D_fL ++ (E_fL ++ (D_fC ++ (E_fC ++ []))))) H H68 [R.row b_f 215 true [.int .i64 (c0_0 + 1), .slice a_fL n_fL n_fL, .slice a_c0_2 n_c0_2 n_c0_2], R.lst 22 1 a_fL n_fL (cells ES v_fL) D_fL, R.inn (EI .i64) v_fL fL E_fL, R.lst 22 1 a_c0_2 n_c0_2 (cells ES l_c0_2) D_c0_2, R.inn (EI .i64) l_c0_2 i_c0_2 E_c0_2, R.row H63.next 3 true [.int .i64 x67, .int .i64 z57], R.row H59.next 3 true [.int .i64 (2 * (c0_0 + 1))], R.row A41.next 162 true [.int .i64 e44.1, .int .i64 e44.2], R.lst 3 1 a64 (n7 + 1) (cells (EI .i64) (l7 ++ [(2 * (c0_0 + 1))])) D65, R.row H.next 80 true [.int .i64 ci, .slice a_cL n_cL c_cL, .slice a_cA n_cA c_cA, .slice a_cB n_cB c_cB, .slice a_cC n_cC c_cC]] := m69.pick [2, 3, 4, 5, 6, 0, 1, 7, 8, 9] (by decide) rfl
          refine KO.call rfl rfl rfl rfl (un_add H68 b_f (c0_0 + 1) _ _ _ D_fL _ E_fL _ _ _ D_c0_2 _ E_c0_2 (some ⟨H63.next, 0, none⟩) 2 2 _ (m70.ownK (Rs := [R.row b_f 215 true [.int .i64 (c0_0 + 1), .slice a_fL n_fL n_fL, .slice a_c0_2 n_c0_2 n_c0_2], R.lst 22 1 a_fL n_fL (cells ES v_fL) D_fL, R.inn (EI .i64) v_fL fL E_fL, R.lst 22 1 a_c0_2 n_c0_2 (cells ES l_c0_2) D_c0_2, R.inn (EI .i64) l_c0_2 i_c0_2 E_c0_2])) (wrap64 (by omega) (by omega)) (m70.vrow (E := (EI .i64)) (xs := [x67, z57]) (i := 5) rfl (by simp only [List.mem_cons, List.not_mem_nil, or_false, forall_eq_or_imp, forall_eq]; first | exact wfI (by first | decide | (constructor <;> omega)) | (refine ⟨?_, ?_⟩ <;> exact wfI (by constructor <;> omega)) | (refine ⟨?_, ?_, ?_⟩ <;> exact wfI (by constructor <;> omega))) rfl (by decide) (by decide)) (sepCons (m70.sepRow (k := 5) (i := 0) rfl rfl (by decide)) (sepCons (m70.sepRow (k := 5) (i := 1) rfl rfl (by decide)) (sepCons (m70.sepRow (k := 5) (i := 2) rfl rfl (by decide)) (sepCons (m70.sepRow (k := 5) (i := 3) rfl rfl (by decide)) (sepCons (m70.sepRow (k := 5) (i := 4) rfl rfl (by decide)) sepEnd))))) (by first | omega | assumption) (by first | assumption | exact all_nil) (by first | omega | assumption)) fun v71 H71 q71 => ?_
          obtain ⟨ka71, kn71, kv71, kD71, kx71, kE71, hv71, mc71, p71_0, p71_1⟩ := q71
          dsimp only at hv71 mc71
          subst hv71
          have m72 := m70.seqK (Rs := [R.row b_f 215 true [.int .i64 (c0_0 + 1), .slice a_fL n_fL n_fL, .slice a_c0_2 n_c0_2 n_c0_2], R.lst 22 1 a_fL n_fL (cells ES v_fL) D_fL, R.inn (EI .i64) v_fL fL E_fL, R.lst 22 1 a_c0_2 n_c0_2 (cells ES l_c0_2) D_c0_2, R.inn (EI .i64) l_c0_2 i_c0_2 E_c0_2]) mc71
          refine KO.nil ?_
          refine KC.seq ?_
          refine KC.region ?_
          refine KO.pv (PV.move rfl) rfl rfl ?_
          refine KO.pv (PV.move rfl) rfl rfl ?_
          obtain ⟨x73, rx73, dx73, zx73, qx73⟩ := xorB ((2 * (c0_0 + 1))) (1) (by omega) (by omega) (by omega) (by omega)
          refine KO.pv (PV.xorB rfl rfl qx73) rfl rfl ?_
          refine KO.pv (PV.move rfl) rfl rfl ?_
          refine KO.buildSliceM m72 el22_B9 ez3_B9 rfl rfl (show _ = some [.int .i64 x73, .int .i64 z59] from rfl) rfl rfl fun H74 m75 => ?_
          have m76 : Mem ([b_f] ++ (D_fL ++ (E_fL ++ (D_fC ++ (E_fC ++ []))))) H H74 [R.row b_f 215 true [.int .i64 (c0_0 + 1), .slice a_fL n_fL n_fL, .slice ka71 kn71 kn71], R.lst 22 1 a_fL n_fL (cells ES v_fL) D_fL, R.inn (EI .i64) v_fL fL E_fL, R.lst 22 1 ka71 kn71 (cells ES kv71) kD71, R.inn (EI .i64) kv71 kx71 kE71, R.row H71.next 3 true [.int .i64 x73, .int .i64 z59], R.row H63.next 3 true [.int .i64 x67, .int .i64 z57], R.row H59.next 3 true [.int .i64 (2 * (c0_0 + 1))], R.row A41.next 162 true [.int .i64 e44.1, .int .i64 e44.2], R.lst 3 1 a64 (n7 + 1) (cells (EI .i64) (l7 ++ [(2 * (c0_0 + 1))])) D65, R.row H.next 80 true [.int .i64 ci, .slice a_cL n_cL c_cL, .slice a_cA n_cA c_cA, .slice a_cB n_cB c_cB, .slice a_cC n_cC c_cC]] := m75.pick [1, 2, 3, 4, 5, 0, 6, 7, 8, 9, 10] (by decide) rfl
          refine KO.call rfl rfl rfl rfl (un_add H74 b_f (c0_0 + 1) _ _ _ D_fL _ E_fL _ _ _ kD71 _ kE71 (some ⟨H71.next, 0, none⟩) 2 2 _ (m76.ownK (Rs := [R.row b_f 215 true [.int .i64 (c0_0 + 1), .slice a_fL n_fL n_fL, .slice ka71 kn71 kn71], R.lst 22 1 a_fL n_fL (cells ES v_fL) D_fL, R.inn (EI .i64) v_fL fL E_fL, R.lst 22 1 ka71 kn71 (cells ES kv71) kD71, R.inn (EI .i64) kv71 kx71 kE71])) (wrap64 (by omega) (by omega)) (m76.vrow (E := (EI .i64)) (xs := [x73, z59]) (i := 5) rfl (by simp only [List.mem_cons, List.not_mem_nil, or_false, forall_eq_or_imp, forall_eq]; first | exact wfI (by first | decide | (constructor <;> omega)) | (refine ⟨?_, ?_⟩ <;> exact wfI (by constructor <;> omega)) | (refine ⟨?_, ?_, ?_⟩ <;> exact wfI (by constructor <;> omega))) rfl (by decide) (by decide)) (sepCons (m76.sepRow (k := 5) (i := 0) rfl rfl (by decide)) (sepCons (m76.sepRow (k := 5) (i := 1) rfl rfl (by decide)) (sepCons (m76.sepRow (k := 5) (i := 2) rfl rfl (by decide)) (sepCons (m76.sepRow (k := 5) (i := 3) rfl rfl (by decide)) (sepCons (m76.sepRow (k := 5) (i := 4) rfl rfl (by decide)) sepEnd))))) (by first | omega | assumption) (by first | assumption | exact all_nil) (by first | omega | assumption)) fun v77 H77 q77 => ?_
          obtain ⟨ka77, kn77, kv77, kD77, kx77, kE77, hv77, mc77, p77_0, p77_1⟩ := q77
          dsimp only at hv77 mc77
          subst hv77
          have m78 := m76.seqK (Rs := [R.row b_f 215 true [.int .i64 (c0_0 + 1), .slice a_fL n_fL n_fL, .slice ka71 kn71 kn71], R.lst 22 1 a_fL n_fL (cells ES v_fL) D_fL, R.inn (EI .i64) v_fL fL E_fL, R.lst 22 1 ka71 kn71 (cells ES kv71) kD71, R.inn (EI .i64) kv71 kx71 kE71]) mc77
          refine KO.nil ?_
          refine KC.region ?_
          refine KO.pv (PV.move rfl) rfl rfl ?_
          refine KO.pv (PV.move rfl) rfl rfl ?_
          refine KO.pv (PV.move rfl) rfl rfl ?_
          obtain ⟨x79, rx79, dx79, zx79, qx79⟩ := xorB (z57) (1) (by omega) (by omega) (by omega) (by omega)
          refine KO.pv (PV.xorB rfl rfl qx79) rfl rfl ?_
          refine KO.pv (PV.move rfl) rfl rfl ?_
          obtain ⟨x80, rx80, dx80, zx80, qx80⟩ := xorB (z59) (1) (by omega) (by omega) (by omega) (by omega)
          refine KO.pv (PV.xorB rfl rfl qx80) rfl rfl ?_
          refine KO.buildSliceM m78 el22_B9 ez3_B9 rfl rfl (show _ = some [.int .i64 (2 * (c0_0 + 1)), .int .i64 x79, .int .i64 x80] from rfl) rfl rfl fun H81 m82 => ?_
          have m83 : Mem ([b_f] ++ (D_fL ++ (E_fL ++ (D_fC ++ (E_fC ++ []))))) H H81 [R.row b_f 215 true [.int .i64 (c0_0 + 1), .slice a_fL n_fL n_fL, .slice ka77 kn77 kn77], R.lst 22 1 a_fL n_fL (cells ES v_fL) D_fL, R.inn (EI .i64) v_fL fL E_fL, R.lst 22 1 ka77 kn77 (cells ES kv77) kD77, R.inn (EI .i64) kv77 kx77 kE77, R.row H77.next 3 true [.int .i64 (2 * (c0_0 + 1)), .int .i64 x79, .int .i64 x80], R.row H71.next 3 true [.int .i64 x73, .int .i64 z59], R.row H63.next 3 true [.int .i64 x67, .int .i64 z57], R.row H59.next 3 true [.int .i64 (2 * (c0_0 + 1))], R.row A41.next 162 true [.int .i64 e44.1, .int .i64 e44.2], R.lst 3 1 a64 (n7 + 1) (cells (EI .i64) (l7 ++ [(2 * (c0_0 + 1))])) D65, R.row H.next 80 true [.int .i64 ci, .slice a_cL n_cL c_cL, .slice a_cA n_cA c_cA, .slice a_cB n_cB c_cB, .slice a_cC n_cC c_cC]] := m82.pick [1, 2, 3, 4, 5, 0, 6, 7, 8, 9, 10, 11] (by decide) rfl
          refine KO.call rfl rfl rfl rfl (un_add H81 b_f (c0_0 + 1) _ _ _ D_fL _ E_fL _ _ _ kD77 _ kE77 (some ⟨H77.next, 0, none⟩) 3 3 _ (m83.ownK (Rs := [R.row b_f 215 true [.int .i64 (c0_0 + 1), .slice a_fL n_fL n_fL, .slice ka77 kn77 kn77], R.lst 22 1 a_fL n_fL (cells ES v_fL) D_fL, R.inn (EI .i64) v_fL fL E_fL, R.lst 22 1 ka77 kn77 (cells ES kv77) kD77, R.inn (EI .i64) kv77 kx77 kE77])) (wrap64 (by omega) (by omega)) (m83.vrow (E := (EI .i64)) (xs := [(2 * (c0_0 + 1)), x79, x80]) (i := 5) rfl (by simp only [List.mem_cons, List.not_mem_nil, or_false, forall_eq_or_imp, forall_eq]; first | exact wfI (by first | decide | (constructor <;> omega)) | (refine ⟨?_, ?_⟩ <;> exact wfI (by constructor <;> omega)) | (refine ⟨?_, ?_, ?_⟩ <;> exact wfI (by constructor <;> omega))) rfl (by decide) (by decide)) (sepCons (m83.sepRow (k := 5) (i := 0) rfl rfl (by decide)) (sepCons (m83.sepRow (k := 5) (i := 1) rfl rfl (by decide)) (sepCons (m83.sepRow (k := 5) (i := 2) rfl rfl (by decide)) (sepCons (m83.sepRow (k := 5) (i := 3) rfl rfl (by decide)) (sepCons (m83.sepRow (k := 5) (i := 4) rfl rfl (by decide)) sepEnd))))) (by first | omega | assumption) (by first | assumption | exact all_nil) (by first | omega | assumption)) fun v84 H84 q84 => ?_
          obtain ⟨ka84, kn84, kv84, kD84, kx84, kE84, hv84, mc84, p84_0, p84_1⟩ := q84
          dsimp only at hv84 mc84
          subst hv84
          have m85 := m83.seqK (Rs := [R.row b_f 215 true [.int .i64 (c0_0 + 1), .slice a_fL n_fL n_fL, .slice ka77 kn77 kn77], R.lst 22 1 a_fL n_fL (cells ES v_fL) D_fL, R.inn (EI .i64) v_fL fL E_fL, R.lst 22 1 ka77 kn77 (cells ES kv77) kD77, R.inn (EI .i64) kv77 kx77 kE77]) mc84
          refine KO.nil ?_
          refine KC.region ?_
          refine KO.pv (PV.add rfl rfl (wrap64 (by omega) (by omega))) rfl rfl ?_
          refine KO.pv (PV.move rfl) rfl rfl ?_
          refine KO.nil ?_
          have m86 := m85.lxLst (i := 10) rfl
          exact ⟨_, _, (by omega), (.cons rfl (.cons rfl (.cons rfl (.cons rfl (.cons rfl .nil))))), a64, (n7 + 1), (l7 ++ [(2 * (c0_0 + 1))]), D65, (x44 + 1), (c0_0 + 1), ka84, kn84, kv84, kD84, kx84, kE84, rfl, rfl, (m86.pick [10, 11, 0, 1, 2, 3, 4] (by decide) rfl), (by first | omega | assumption | (constructor <;> omega)), (by first | omega | (simp only [splice, List.length_append, List.length_set, List.length_replicate, List.length_map, List.length_take, List.length_drop, List.length_cons, List.length_nil] <;> omega)), (all_app hw_l7 (all_one (wf64 (by omega) (by omega)))), (all_app hb (all_one (by first | omega | assumption | (constructor <;> omega)))), (by first | omega | (simp only [splice, List.length_append, List.length_set, List.length_replicate, List.length_map, List.length_take, List.length_drop, List.length_cons, List.length_nil] <;> omega)), (by first | omega | (simp only [splice, List.length_append, List.length_set, List.length_replicate, List.length_map, List.length_take, List.length_drop, List.length_cons, List.length_nil] <;> omega)), (by first | omega | (simp only [splice, List.length_append, List.length_set, List.length_replicate, List.length_map, List.length_take, List.length_drop, List.length_cons, List.length_nil] <;> omega)), (by first | omega | (simp only [splice, List.length_append, List.length_set, List.length_replicate, List.length_map, List.length_take, List.length_drop, List.length_cons, List.length_nil] <;> omega)), (by assumption)⟩
      · refine KC.exit ?_
        refine KC.seq ?_
        refine KC.region ?_
        refine KO.pv (PV.move rfl) rfl rfl ?_
        refine KO.pv (PV.move rfl) rfl rfl ?_
        refine KO.pv (PV.nilCheck rfl) rfl rfl ?_
        refine KO.pv (PV.fieldAddr fo215_0_B9 rfl) rfl rfl ?_
        refine KO.pv (PV.fieldAddr fo82_1_B9 rfl) rfl rfl ?_
        refine KO.load1 ag25_B9 rfl (m42.row (i := 2) rfl) rfl rfl rfl ?_
        refine KO.pv (PV.move rfl) rfl rfl ?_
        refine KO.buildSliceM m42 el25_B9 ez22_B9 rfl rfl (show _ = some [.slice a7 n7 n7] from rfl) rfl rfl fun H87 m88 => ?_
        refine KO.appendC (C := ES) m88 (i := 4) rfl el25_B9 ez22_B9 sb22_B9 un25_B9 rfl rfl (newElems_row1 (C := ES) (y := (a7, n7, n7)) (m88.row (i := 0) rfl) rfl) rfl (by first | omega | (simp only [splice, List.length_append, List.length_set, List.length_replicate, List.length_map, List.length_take, List.length_drop, List.length_cons, List.length_nil] <;> omega)) rfl rfl fun a90 D91 H89 m92 => ?_
        have m93 := m92.lxOwn (C := (EI .i64)) (i := 1) rfl hw_l7 (by first | omega | (simp only [splice, List.length_append, List.length_set, List.length_replicate, List.length_map, List.length_take, List.length_drop, List.length_cons, List.length_nil] <;> omega))
        have m94 : Mem ([b_f] ++ (D_fL ++ (E_fL ++ (D_fC ++ (E_fC ++ []))))) H H89 [R.inn (EI .i64) v_fL fL E_fL, R.own (EI .i64) a7 n7 n7 l7 D7, R.row A41.next 22 true [.slice a7 n7 n7], R.row H.next 80 true [.int .i64 ci, .slice a_cL n_cL c_cL, .slice a_cA n_cA c_cA, .slice a_cB n_cB c_cB, .slice a_cC n_cC c_cC], R.row b_f 215 true [.int .i64 c0_0, .slice a_fL n_fL n_fL, .slice a_c0_2 n_c0_2 n_c0_2], R.lst 22 1 a90 (n_fL + 1) (cells ES (v_fL ++ [(a7, n7, n7)])) D91, R.lst 22 1 a_c0_2 n_c0_2 (cells ES l_c0_2) D_c0_2, R.inn (EI .i64) l_c0_2 i_c0_2 E_c0_2] := m93.pick [5, 1, 0, 2, 3, 4, 6, 7] (by decide) rfl
        have m95 := m94.push
        refine KO.pv (PV.nilCheck rfl) rfl rfl ?_
        refine KO.pv (PV.fieldAddr fo215_0_B9 rfl) rfl rfl ?_
        refine KO.pv (PV.fieldAddr fo82_1_B9 rfl) rfl rfl ?_
        refine KO.storeM m95 (i := 3) rfl sz25_B9 rfl rfl rfl (show 1 + 1 ≤ 3 by decide) (show _ = [.int .i64 c0_0, .slice a90 (n_fL + 1) (n_fL + 1), .slice a_c0_2 n_c0_2 n_c0_2] from rfl) rfl fun H96 m97 => ?_
        refine KO.nil ?_
        refine KC.seq ?_
        refine KC.region ?_
        refine KO.pv (PV.move rfl) rfl rfl ?_
        refine KO.pv (PV.nilCheck rfl) rfl rfl ?_
        refine KO.pv (PV.fieldAddr fo215_0_B9 rfl) rfl rfl ?_
        refine KO.pv (PV.fieldAddr fo82_0_B9 rfl) rfl rfl ?_
        refine KO.load1 ag3_B9 rfl (m97.row (i := 3) rfl) rfl rfl rfl ?_
        by_cases h98 : c0_0 ≤ 4000
        · refine KO.pv (PV.leqD rfl rfl (decide_eq_true h98)) rfl rfl ?_
          refine KO.pv (PV.move rfl) rfl rfl ?_
          refine KO.pv (PV.move rfl) rfl rfl ?_
          refine KO.pv (PV.nilCheck rfl) rfl rfl ?_
          refine KO.pv (PV.fieldAddr fo215_0_B9 rfl) rfl rfl ?_
          refine KO.pv (PV.fieldAddr fo82_2_B9 rfl) rfl rfl ?_
          refine KO.load1 ag25_B9 rfl (m97.row (i := 3) rfl) rfl rfl rfl ?_
          refine KO.pv (PV.len un25_B9 rfl) rfl rfl ?_
          refine KO.pv (PV.leqD rfl rfl rfl) rfl rfl ?_
          refine KO.pv (PV.pickT rfl rfl rfl) rfl rfl ?_
          refine KO.pv (PV.assign rfl) rfl rfl ?_
          refine KO.nil ?_
          exact KC.ret ⟨rfl, _, (.tmp rfl .nil), (decide ((n_c0_2 : Int) ≤ 20000)), c0_0, a90, (n_fL + 1), (v_fL ++ [(a7, n7, n7)]), D91, (fL ++ [l7]), (E_fL ++ D7), a_c0_2, n_c0_2, l_c0_2, D_c0_2, i_c0_2, E_c0_2, rfl, m97.pick [3, 4, 0, 5, 6] (by decide) rfl, (by first | omega | (intro h; omega) | (simp only [List.length_nil, true_and, and_true, or_true, true_or] <;> omega)), (by first | omega | (intro h; omega) | (simp only [List.length_nil, true_and, and_true, or_true, true_or] <;> omega) | (exact fun h => by have := of_decide_eq_true h; omega) | (exact fun h => by cases h)), (by first | omega | (intro h; omega) | (simp only [List.length_nil, true_and, and_true, or_true, true_or] <;> omega) | exact hfl | (exact all_app hfl (all_one ⟨by omega, hb⟩))), (by first | omega | (intro h; omega) | (simp only [List.length_nil, true_and, and_true, or_true, true_or] <;> omega)), (by first | omega | (intro h; omega) | (simp only [List.length_nil, true_and, and_true, or_true, true_or] <;> omega) | (exact fun c hc => by have := (hfl c hc).n; omega) | (exact all_app (fun c hc => by have := (hfl c hc).n; omega) (all_one (by omega)))), (by first | omega | (intro h; omega) | (simp only [List.length_nil, true_and, and_true, or_true, true_or] <;> omega) | (exact ⟨by first | omega | (simp only [List.length_append, List.length_cons, List.length_nil]; omega), by omega⟩))⟩
        · refine KO.pv (PV.leqD rfl rfl (decide_eq_false h98)) rfl rfl ?_
          refine KO.pv (PV.move rfl) rfl rfl ?_
          refine KO.no rfl rfl rfl ?_
          refine KO.no rfl rfl rfl ?_
          refine KO.no rfl rfl rfl ?_
          refine KO.no rfl rfl rfl ?_
          refine KO.no rfl rfl rfl ?_
          refine KO.no rfl rfl rfl ?_
          refine KO.no rfl rfl rfl ?_
          refine KO.pv (PV.pickF rfl rfl rfl) rfl rfl ?_
          refine KO.pv (PV.assign rfl) rfl rfl ?_
          refine KO.nil ?_
          exact KC.ret ⟨rfl, _, (.tmp rfl .nil), false, c0_0, a90, (n_fL + 1), (v_fL ++ [(a7, n7, n7)]), D91, (fL ++ [l7]), (E_fL ++ D7), a_c0_2, n_c0_2, l_c0_2, D_c0_2, i_c0_2, E_c0_2, rfl, m97.pick [3, 4, 0, 5, 6] (by decide) rfl, (by first | omega | (intro h; omega) | (simp only [List.length_nil, true_and, and_true, or_true, true_or] <;> omega)), (by first | omega | (intro h; omega) | (simp only [List.length_nil, true_and, and_true, or_true, true_or] <;> omega) | (exact fun h => by have := of_decide_eq_true h; omega) | (exact fun h => by cases h)), (by first | omega | (intro h; omega) | (simp only [List.length_nil, true_and, and_true, or_true, true_or] <;> omega) | exact hfl | (exact all_app hfl (all_one ⟨by omega, hb⟩))), (by first | omega | (intro h; omega) | (simp only [List.length_nil, true_and, and_true, or_true, true_or] <;> omega)), (by first | omega | (intro h; omega) | (simp only [List.length_nil, true_and, and_true, or_true, true_or] <;> omega) | (exact fun c hc => by have := (hfl c hc).n; omega) | (exact all_app (fun c hc => by have := (hfl c hc).n; omega) (all_one (by omega)))), (by first | omega | (intro h; omega) | (simp only [List.length_nil, true_and, and_true, or_true, true_or] <;> omega) | (exact ⟨by first | omega | (simp only [List.length_append, List.length_cons, List.length_nil]; omega), by omega⟩))⟩
theorem un_made (H : AHeap) (ci : Int) (a_cL : Option Addr) (n_cL c_cL : Nat) (cL : List (Int × Int)) (a_cA : Option Addr) (n_cA c_cA : Nat) (cA : List (Int × Int)) (a_cB : Option Addr) (n_cB c_cB : Nat) (cB : List Int) (a_cC : Option Addr) (n_cC c_cC : Nat) (cC : List Int) (n : Int) (a_q : Option Addr) (n_q c_q : Nat) (q : List Int) (w_ci : IntKind.i64.wrap ci = ci) (h_cL : V EP H a_cL n_cL c_cL cL) (h_cA : V EP H a_cA n_cA c_cA cA) (h_cB : V (EI .i64) H a_cB n_cB c_cB cB) (h_cC : V (EI .i64) H a_cC n_cC c_cC cC) (w_n : IntKind.i64.wrap n = n) (h_q : V (EI .i64) H a_q n_q c_q q) (ok : CirOK ci cL cA cB cC) (hq : n_q = n_cL) (hqb : ∀ u ∈ q, -1 ≤ u ∧ u / 2 ≤ 6001) : WF E0 103 [.agg #[.int .i64 ci, .slice a_cL n_cL c_cL, .slice a_cA n_cA c_cA, .slice a_cB n_cB c_cB, .slice a_cC n_cC c_cC], .int .i64 n, .slice a_q n_q c_q] H fun q => ∃ (v : Int) (a1 : Option Addr) (n1 : Nat) (c1 : Nat) (v1 : List (Option Addr × Nat × Nat)) (D1 : List Nat) (l1 : List (List Int)) (E1 : List Nat) (a2 : Option Addr) (n2 : Nat) (c2 : Nat) (v2 : List (Option Addr × Nat × Nat)) (D2 : List Nat) (l2 : List (List Int)) (E2 : List Nat) (e : Int), q.1 = .tuple #[.agg #[.int .i64 v, .slice a1 n1 c1, .slice a2 n2 c2], .int .i64 e] ∧ Mem [] H q.2 [R.own ES a1 n1 c1 v1 D1, R.inn (EI .i64) v1 l1 E1, R.own ES a2 n2 c2 v2 D2, R.inn (EI .i64) v2 l2 E2] ∧ (0 ≤ v ∧ v ≤ 4000 ∧ n1 ≤ 100 ∧ n2 ≤ 20000) ∧ (∀ c ∈ l1, c.length ≤ 1001) ∧ (∀ c ∈ l2, c.length ≤ 3) := by
  obtain ⟨lo_ci, hi_ci⟩ := rangei64 w_ci
  obtain ⟨len_cL, cap_cL, max_cL, wf_cL⟩ := h_cL.len
  obtain ⟨len_cA, cap_cA, max_cA, wf_cA⟩ := h_cA.len
  obtain ⟨len_cB, cap_cB, max_cB, wf_cB⟩ := h_cB.len
  obtain ⟨len_cC, cap_cC, max_cC, wf_cC⟩ := h_cC.len
  obtain ⟨lo_n, hi_n⟩ := rangei64 w_n
  obtain ⟨len_q, cap_q, max_q, wf_q⟩ := h_q.len
  obtain ⟨ok_i0, ok_al, ok_b, ok_c, ok_hb, ok_hc, ok_hl, ok_ha⟩ := id ok
  have m0 : Mem [] H H [] := Mem.start
  refine WF.kg Tryz.func103 rfl rfl ?_
  refine KC.seq ?_
  refine KC.region ?_
  refine KO.boxM m0 rfl rfl (show _ = [.int .i64 ci, .slice a_cL n_cL c_cL, .slice a_cA n_cA c_cA, .slice a_cB n_cB c_cB, .slice a_cC n_cC c_cC] from rfl) rfl rfl fun H1 m2 => ?_
  refine KO.allocM m2 zt82_B9 rfl rfl fun H3 m4 => ?_
  refine KO.pv (PV.assign rfl) rfl rfl ?_
  refine KO.nil ?_
  refine KC.seq ?_
  refine KC.seq ?_
  refine KC.region ?_
  refine KO.pv (PV.move rfl) rfl rfl ?_
  by_cases h5 : n < 1
  · refine KO.pv (PV.lssD rfl rfl (decide_eq_true h5)) rfl rfl ?_
    refine KO.pv (PV.move rfl) rfl rfl ?_
    refine KO.no rfl rfl rfl ?_
    refine KO.no rfl rfl rfl ?_
    refine KO.pv (PV.pickT rfl rfl rfl) rfl rfl ?_
    refine KO.nil ?_
    refine KC.condT rfl ?_
    refine KC.seq ?_
    refine KC.region ?_
    refine KO.pv (PV.build rfl bl82__B9) rfl rfl ?_
    refine KO.storeM m4 (i := 0) rfl sz82_B9 rfl rfl rfl (show 0 + 3 ≤ 3 by decide) (show _ = [.int .i64 0, .slice none 0 0, .slice none 0 0] from rfl) rfl fun H6 m7 => ?_
    refine KO.pv (PV.assign rfl) rfl rfl ?_
    refine KO.nil ?_
    have m8 := m7.ownNil (C := ES)
    have m9 := m8.ownNil (C := ES)
    have m10 := m9.innNil (C := (EI .i64))
    have m11 := m10.innNil (C := (EI .i64))
    exact KC.ret ⟨rfl, _, (.cell rfl (ldN (m7.row (i := 0) rfl) ag82_B9 sz82_B9 rfl rfl) (.tmp rfl .nil)), 0, none, 0, 0, [], [], [], [], none, 0, 0, [], [], [], [], 2, rfl, m11.pick [3, 1, 2, 0] (by decide) rfl, (by first | omega | (intro h; omega) | (simp only [List.length_nil, true_and, and_true, or_true, true_or] <;> omega)), (by first | omega | (intro h; omega) | (simp only [List.length_nil, true_and, and_true, or_true, true_or] <;> omega) | exact all_nil | assumption), (by first | omega | (intro h; omega) | (simp only [List.length_nil, true_and, and_true, or_true, true_or] <;> omega) | exact all_nil | assumption)⟩
  · refine KO.pv (PV.lssD rfl rfl (decide_eq_false h5)) rfl rfl ?_
    refine KO.pv (PV.move rfl) rfl rfl ?_
    refine KO.pv (PV.move rfl) rfl rfl ?_
    refine KO.pv (PV.gtrD rfl rfl rfl) rfl rfl ?_
    refine KO.pv (PV.pickF rfl rfl rfl) rfl rfl ?_
    refine KO.nil ?_
    refine KC.condD rfl (fun h12 => ?_) (fun h12 => ?_)
    · refine KC.seq ?_
      refine KC.region ?_
      refine KO.pv (PV.build rfl bl82__B9) rfl rfl ?_
      refine KO.storeM m4 (i := 0) rfl sz82_B9 rfl rfl rfl (show 0 + 3 ≤ 3 by decide) (show _ = [.int .i64 0, .slice none 0 0, .slice none 0 0] from rfl) rfl fun H13 m14 => ?_
      refine KO.pv (PV.assign rfl) rfl rfl ?_
      refine KO.nil ?_
      have m15 := m14.ownNil (C := ES)
      have m16 := m15.ownNil (C := ES)
      have m17 := m16.innNil (C := (EI .i64))
      have m18 := m17.innNil (C := (EI .i64))
      exact KC.ret ⟨rfl, _, (.cell rfl (ldN (m14.row (i := 0) rfl) ag82_B9 sz82_B9 rfl rfl) (.tmp rfl .nil)), 0, none, 0, 0, [], [], [], [], none, 0, 0, [], [], [], [], 2, rfl, m18.pick [3, 1, 2, 0] (by decide) rfl, (by first | omega | (intro h; omega) | (simp only [List.length_nil, true_and, and_true, or_true, true_or] <;> omega)), (by first | omega | (intro h; omega) | (simp only [List.length_nil, true_and, and_true, or_true, true_or] <;> omega) | exact all_nil | assumption), (by first | omega | (intro h; omega) | (simp only [List.length_nil, true_and, and_true, or_true, true_or] <;> omega) | exact all_nil | assumption)⟩
    · refine KC.skip ?_
      refine KC.seq ?_
      refine KC.region ?_
      refine KO.allocM m4 zt215_B9 rfl rfl fun H19 m20 => ?_
      refine KO.nil ?_
      refine KC.seq ?_
      refine KC.seq ?_
      refine KC.region ?_
      refine KO.pv (PV.move rfl) rfl rfl ?_
      refine KO.pv (PV.move rfl) rfl rfl ?_
      refine KO.nil ?_
      refine KC.block ?_
      refine KC.loop ?_
      refine KC.seq ?_
      refine KC.region ?_
      refine KO.pv (PV.lssD rfl rfl rfl) rfl rfl ?_
      refine KO.nil ?_
      refine KC.seq ?_
      refine KC.condD rfl (fun h21 => ?_) (fun h21 => ?_)
      · refine KC.skip ?_
        refine KC.seq ?_
        refine KC.block ?_
        refine KC.seq ?_
        refine KC.seq ?_
        refine KC.region ?_
        refine KO.loadN ag80_B9 sz80_B9 rfl (m20.row (i := 2) rfl) (takeN_of (p := [.int .i64 ci, .slice a_cL n_cL c_cL, .slice a_cA n_cA c_cA, .slice a_cB n_cB c_cB, .slice a_cC n_cC c_cC]) rfl rfl) rfl rfl ?_
        refine KO.pv (PV.move rfl) rfl rfl ?_
        have m22 := m20.lnilC ES (e := 22) none rfl
        have m23 := m22.innNil (C := (EI .i64))
        have m24 := m23.lnilC ES (e := 22) none rfl
        have m25 := m24.innNil (C := (EI .i64))
        have m26 : Mem [] H H19 [R.row H3.next 215 true [.int .i64 0, .slice none 0 0, .slice none 0 0], R.lst 22 1 none 0 (cells ES []) [], R.inn (EI .i64) [] [] [], R.lst 22 1 none 0 (cells ES []) [], R.inn (EI .i64) [] [] [], R.row H1.next 82 true [.int .i64 0, .slice none 0 0, .slice none 0 0], R.row H.next 80 true [.int .i64 ci, .slice a_cL n_cL c_cL, .slice a_cA n_cA c_cA, .slice a_cB n_cB c_cB, .slice a_cC n_cC c_cC]] := m25.pick [4, 3, 2, 1, 0, 5, 6] (by decide) rfl
        refine KO.call rfl rfl rfl rfl (un_frame H19 H3.next 0 _ _ _ [] _ [] _ _ _ [] _ [] ci a_cL n_cL c_cL _ a_cA n_cA c_cA _ a_cB n_cB c_cB _ a_cC n_cC c_cC _ a_q n_q c_q _ (m26.ownK (Rs := [R.row H3.next 215 true [.int .i64 0, .slice none 0 0, .slice none 0 0], R.lst 22 1 none 0 (cells ES []) [], R.inn (EI .i64) [] [] [], R.lst 22 1 none 0 (cells ES []) [], R.inn (EI .i64) [] [] []])) (wrap64 (by omega) (by omega)) (wrap64 (by omega) (by omega)) (V.mem m26 h_cL) (sepCons (V.sep m26 h_cL (i := 0) rfl) (sepCons (V.sep m26 h_cL (i := 1) rfl) (sepCons (V.sep m26 h_cL (i := 2) rfl) (sepCons (V.sep m26 h_cL (i := 3) rfl) (sepCons (V.sep m26 h_cL (i := 4) rfl) sepEnd))))) (V.mem m26 h_cA) (sepCons (V.sep m26 h_cA (i := 0) rfl) (sepCons (V.sep m26 h_cA (i := 1) rfl) (sepCons (V.sep m26 h_cA (i := 2) rfl) (sepCons (V.sep m26 h_cA (i := 3) rfl) (sepCons (V.sep m26 h_cA (i := 4) rfl) sepEnd))))) (V.mem m26 h_cB) (sepCons (V.sep m26 h_cB (i := 0) rfl) (sepCons (V.sep m26 h_cB (i := 1) rfl) (sepCons (V.sep m26 h_cB (i := 2) rfl) (sepCons (V.sep m26 h_cB (i := 3) rfl) (sepCons (V.sep m26 h_cB (i := 4) rfl) sepEnd))))) (V.mem m26 h_cC) (sepCons (V.sep m26 h_cC (i := 0) rfl) (sepCons (V.sep m26 h_cC (i := 1) rfl) (sepCons (V.sep m26 h_cC (i := 2) rfl) (sepCons (V.sep m26 h_cC (i := 3) rfl) (sepCons (V.sep m26 h_cC (i := 4) rfl) sepEnd))))) (V.mem m26 h_q) (sepCons (V.sep m26 h_q (i := 0) rfl) (sepCons (V.sep m26 h_q (i := 1) rfl) (sepCons (V.sep m26 h_q (i := 2) rfl) (sepCons (V.sep m26 h_q (i := 3) rfl) (sepCons (V.sep m26 h_q (i := 4) rfl) sepEnd))))) (by first | omega | assumption) (by first | omega | assumption) (by first | omega | assumption) (by assumption) (by first | assumption | exact all_nil) (by first | assumption | exact all_nil) (by first | omega | assumption) (by first | omega | assumption)) fun v27 H27 q27 => ?_
        obtain ⟨o27, v27, la27, ln27, lv27, lD27, lx27, lE27, ka27, kn27, kv27, kD27, kx27, kE27, hv27, mc27, p27_0, p27_1, p27_2, p27_3, p27_4, p27_5⟩ := q27
        dsimp only at hv27 mc27
        subst hv27
        have m28 := m26.seqK (Rs := [R.row H3.next 215 true [.int .i64 0, .slice none 0 0, .slice none 0 0], R.lst 22 1 none 0 (cells ES []) [], R.inn (EI .i64) [] [] [], R.lst 22 1 none 0 (cells ES []) [], R.inn (EI .i64) [] [] []]) mc27
        rcases Bool.eq_false_or_eq_true o27 with h29 | h29
        · subst h29
          have p27_1t := p27_1 rfl
          refine KO.pv (PV.notB rfl rfl) rfl rfl ?_
          refine KO.nil ?_
          refine KC.condF rfl ?_
          refine KC.skip ?_
          refine KC.seq ?_
          refine KC.region ?_
          refine KO.pv (PV.fieldAddr fo215_0_B9 rfl) rfl rfl ?_
          refine KO.pv (PV.fieldAddr fo82_1_B9 rfl) rfl rfl ?_
          refine KO.load1 ag25_B9 rfl (m28.row (i := 0) rfl) rfl rfl rfl ?_
          refine KO.pv (PV.fieldAddr fo215_0_B9 rfl) rfl rfl ?_
          refine KO.pv (PV.fieldAddr fo82_1_B9 rfl) rfl rfl ?_
          refine KO.load1 ag25_B9 rfl (m28.row (i := 0) rfl) rfl rfl rfl ?_
          refine KO.pv (PV.len un25_B9 rfl) rfl rfl ?_
          refine KO.pv (PV.sub rfl rfl (wrap64 (by omega) (by omega))) rfl rfl ?_
          obtain ⟨b30, o30, p30, r30, e30, ha30, hb30, hr30, hx30, hw30, hc30, ht30⟩ := V.at_ (m28.vlst (i := 1) rfl (fun _ _ => trivial) (by first | omega | (simp only [splice, List.length_append, List.length_set, List.length_replicate, List.length_map, List.length_take, List.length_drop, List.length_cons, List.length_nil] <;> omega))) (z := ((ln27 : Int) - 1)) (by omega) (by omega)
          have hc30_0 : r30.cs[o30 + (((ln27 : Int) - 1)).toNat * 1 + 0]? = some (.slice e30.1 e30.2.1 e30.2.2) := hc30 0 (by decide)
          obtain ⟨xs30, hxs30, hV30⟩ := VV.at_ (m28.vinn (i := 2) rfl) hx30
          obtain ⟨len30, cap30, max30, wf30⟩ := hV30.len
          have a27_2_30 := p27_2 _ (List.mem_of_getElem? hxs30)
          have a27_4_30 := p27_4 _ (List.mem_of_getElem? hxs30)
          refine KO.pv (PV.indexAddrZ un25_B9 sz22_B9 rfl ha30 rfl (by omega) (by omega)) rfl rfl ?_
          refine KO.load1 ag22_B9 rfl hr30 hc30_0 rfl rfl ?_
          have hfr30 := FrRow.n (m := (1 + ci + n_cL + n_cA)) (c := xs30) (by assumption)
          have hfb30 := FrRow.b (m := (1 + ci + n_cL + n_cA)) (c := xs30) (by assumption)
          refine KO.pv (PV.assign rfl) rfl rfl ?_
          refine KO.nil ?_
          refine KC.seq ?_
          refine KC.region ?_
          refine KO.pv (PV.assign rfl) rfl rfl ?_
          refine KO.nil ?_
          refine KC.seq ?_
          refine KC.region ?_
          refine KO.pv (PV.fieldAddr fo80_1_B9 rfl) rfl rfl ?_
          refine KO.load1 ag77_B9 rfl (m28.row (i := 6) rfl) rfl rfl rfl ?_
          refine KO.pv (PV.len un77_B9 rfl) rfl rfl ?_
          refine KO.pv (PV.move rfl) rfl rfl ?_
          refine KO.nil ?_
          refine KC.block ?_
          refine KC.sub (l' := [(2, .slice none 0 0), (3, .pointer (some ⟨H.next, 0, none⟩)), (6, .pointer (some ⟨H1.next, 0, none⟩)), (8, .pointer (some ⟨H3.next, 0, none⟩)), (9, .slice e30.1 e30.2.1 e30.2.2), (19, .int .i64 n), (20, .int .i64 0), (38, .slice a_cL n_cL c_cL), (39, .int .i64 (n_cL : Int)), (40, .int .i64 0)]) (.cons rfl (.cons rfl (.cons rfl (.cons rfl (.cons rfl (.cons rfl (.cons rfl (.cons rfl (.cons rfl (.cons rfl .nil)))))))))) ?_
          have m31 := m28.lnilC (EI .i64) (e := 3) none rfl
          refine KC.loopN (fun kq lq A => ∃ (a2 : Option Addr) (n2 : Nat) (l2 : List Int) (D2 : List Nat) (x40 : Int), kq = ((n_cL : Int) - x40).toNat ∧ lq = [(2, .slice a2 n2 n2), (3, .pointer (some ⟨H.next, 0, none⟩)), (6, .pointer (some ⟨H1.next, 0, none⟩)), (8, .pointer (some ⟨H3.next, 0, none⟩)), (9, .slice e30.1 e30.2.1 e30.2.2), (19, .int .i64 n), (20, .int .i64 0), (38, .slice a_cL n_cL c_cL), (39, .int .i64 (n_cL : Int)), (40, .int .i64 x40)] ∧ Mem [] H A [R.lst 3 1 a2 n2 (cells (EI .i64) l2) D2, R.row H3.next 215 true [.int .i64 v27, .slice la27 ln27 ln27, .slice ka27 kn27 kn27], R.lst 22 1 la27 ln27 (cells ES lv27) lD27, R.inn (EI .i64) lv27 lx27 lE27, R.lst 22 1 ka27 kn27 (cells ES kv27) kD27, R.inn (EI .i64) kv27 kx27 kE27, R.row H1.next 82 true [.int .i64 0, .slice none 0 0, .slice none 0 0], R.row H.next 80 true [.int .i64 ci, .slice a_cL n_cL c_cL, .slice a_cA n_cA c_cA, .slice a_cB n_cB c_cB, .slice a_cC n_cC c_cC]] ∧ (0 ≤ x40 ∧ x40 ≤ (n_cL : Int)) ∧ (l2.length = n2) ∧ (∀ u ∈ l2, (EI .i64).wf u) ∧ (∀ u ∈ l2, -1 ≤ u ∧ u / 2 ≤ 6001) ∧ ((n2 : Int) = x40)) ?_ (((n_cL : Int) - 0).toNat) ⟨none, 0, [], [], 0, rfl, rfl, (m31.pick [0, 1, 2, 3, 4, 5, 6, 7] (by decide) rfl), (by first | omega | assumption | (constructor <;> omega)), (by first | omega | (simp only [splice, List.length_append, List.length_set, List.length_replicate, List.length_map, List.length_take, List.length_drop, List.length_cons, List.length_nil] <;> omega)), (fun _ h => absurd h List.not_mem_nil), all_nil, (by first | omega | (simp only [splice, List.length_append, List.length_set, List.length_replicate, List.length_map, List.length_take, List.length_drop, List.length_cons, List.length_nil] <;> omega))⟩
          rintro kq lq A32 ⟨a2, n2, l2, D2, x40, rfl, rfl, m33, hr11, hl_l2, hw_l2, hlq, hn2i⟩
          refine KC.seq ?_
          refine KC.region ?_
          refine KO.pv (PV.lssD rfl rfl rfl) rfl rfl ?_
          refine KO.nil ?_
          refine KC.seq ?_
          refine KC.condD rfl (fun h34 => ?_) (fun h34 => ?_)
          · refine KC.skip ?_
            refine KC.seq ?_
            refine KC.block ?_
            refine KC.seq ?_
            refine KC.region ?_
            obtain ⟨b35, o35, p35, r35, e35, ha35, hb35, hr35, hx35, hw35, hc35, ht35⟩ := V.at_ h_cL (z := x40) (by omega) (by omega)
            have hc35_0 : r35.cs[o35 + (x40).toNat * 2 + 0]? = some (.int .i64 e35.1) := hc35 0 (by decide)
            have hc35_1 : r35.cs[o35 + (x40).toNat * 2 + 1]? = some (.int .i64 e35.2) := hc35 1 (by decide)
            obtain ⟨hwa35, hwb35⟩ := hw35
            obtain ⟨loa35, hia35⟩ := rangei64 hwa35
            obtain ⟨lob35, hib35⟩ := rangei64 hwb35
            have gok_hl_35 := ok_hl _ (List.mem_of_getElem? hx35)
            refine KO.pv (PV.indexAddrZ un77_B9 sz166_B9 rfl ha35 rfl (by omega) (by omega)) rfl rfl ?_
            refine KO.loadN ag166_B9 sz166_B9 rfl (m33.row0 hb35 hr35) ht35 rfl rfl ?_
            refine KO.allocM m33 zt166_B9 rfl rfl fun H36 m37 => ?_
            refine KO.storeM m37 (i := 0) rfl sz166_B9 rfl rfl rfl (show 0 + 2 ≤ 2 by decide) (show _ = [.int .i64 e35.1, .int .i64 e35.2] from rfl) rfl fun H38 m39 => ?_
            refine KO.nil ?_
            refine KC.region ?_
            refine KO.pv (PV.move rfl) rfl rfl ?_
            refine KO.pv (PV.move rfl) rfl rfl ?_
            refine KO.pv (PV.fieldAddr fo166_0_B9 rfl) rfl rfl ?_
            refine KO.load1 ag3_B9 rfl (m39.row (i := 0) rfl) rfl rfl rfl ?_
            refine KO.call rfl rfl rfl rfl (un_lit H38 e30.1 e30.2.1 e30.2.2 _ e35.1 (VV.atv (m39.vinn (i := 4) rfl) hx30 hxs30) (wrap64 (by omega) (by omega)) (by first | omega | assumption) (by assumption)) fun v40 H40 q40 => ?_
            obtain ⟨z40, hv40, mc40, p40_0⟩ := q40
            dsimp only at hv40 mc40
            subst hv40
            have m41 := m39.seq mc40
            refine KO.buildSliceM m41 el22_B9 ez3_B9 rfl rfl (show _ = some [.int .i64 z40] from rfl) rfl rfl fun H42 m43 => ?_
            refine KO.appendC (C := (EI .i64)) m43 (i := 2) rfl el22_B9 ez3_B9 sb3_B9 un22_B9 rfl rfl (newElems_row1 (C := (EI .i64)) (y := z40) (m43.row (i := 0) rfl) rfl) rfl (by first | omega | (simp only [splice, List.length_append, List.length_set, List.length_replicate, List.length_map, List.length_take, List.length_drop, List.length_cons, List.length_nil] <;> omega)) rfl rfl fun a45 D46 H44 m47 => ?_
            refine KO.pv (PV.assign rfl) rfl rfl ?_
            refine KO.nil ?_
            refine KC.region ?_
            refine KO.pv (PV.add rfl rfl (wrap64 (by omega) (by omega))) rfl rfl ?_
            refine KO.pv (PV.move rfl) rfl rfl ?_
            refine KO.nil ?_
            exact ⟨_, _, (by omega), (.cons rfl (.cons rfl (.cons rfl (.cons rfl (.cons rfl (.cons rfl (.cons rfl (.cons rfl (.cons rfl (.cons rfl .nil)))))))))), a45, (n2 + 1), (l2 ++ [z40]), D46, (x40 + 1), rfl, rfl, (m47.pick [2, 3, 4, 5, 6, 7, 8, 9] (by decide) rfl), (by first | omega | assumption | (constructor <;> omega)), (by first | omega | (simp only [splice, List.length_append, List.length_set, List.length_replicate, List.length_map, List.length_take, List.length_drop, List.length_cons, List.length_nil] <;> omega)), (all_app hw_l2 (all_one (wf64 (by omega) (by omega)))), (all_app hlq (all_one (by first | omega | assumption | (constructor <;> omega)))), (by first | omega | (simp only [splice, List.length_append, List.length_set, List.length_replicate, List.length_map, List.length_take, List.length_drop, List.length_cons, List.length_nil] <;> omega))⟩
          · refine KC.exit ?_
            refine KC.region ?_
            refine KO.pv (PV.add rfl rfl (wrap64 (by omega) (by omega))) rfl rfl ?_
            refine KO.pv (PV.move rfl) rfl rfl ?_
            refine KO.nil ?_
            refine KC.sub (l' := [(2, .slice a2 n2 n2), (3, .pointer (some ⟨H.next, 0, none⟩)), (6, .pointer (some ⟨H1.next, 0, none⟩)), (8, .pointer (some ⟨H3.next, 0, none⟩)), (19, .int .i64 n), (20, .int .i64 1)]) (.cons rfl (.cons rfl (.cons rfl (.cons rfl (.cons rfl (.cons rfl .nil)))))) ?_
            refine KC.loopN (fun kq lq A => ∃ (a2 : Option Addr) (n2 : Nat) (l2 : List Int) (D2 : List Nat) (x20 : Int) (c8_0 : Int) (a_c8_1 : Option Addr) (n_c8_1 : Nat) (l_c8_1 : List (Option Addr × Nat × Nat)) (D_c8_1 : List Nat) (i_c8_1 : List (List Int)) (E_c8_1 : List Nat) (a_c8_2 : Option Addr) (n_c8_2 : Nat) (l_c8_2 : List (Option Addr × Nat × Nat)) (D_c8_2 : List Nat) (i_c8_2 : List (List Int)) (E_c8_2 : List Nat), kq = (n - x20).toNat ∧ lq = [(2, .slice a2 n2 n2), (3, .pointer (some ⟨H.next, 0, none⟩)), (6, .pointer (some ⟨H1.next, 0, none⟩)), (8, .pointer (some ⟨H3.next, 0, none⟩)), (19, .int .i64 n), (20, .int .i64 x20)] ∧ Mem [] H A [R.lst 3 1 a2 n2 (cells (EI .i64) l2) D2, R.row H3.next 215 true [.int .i64 c8_0, .slice a_c8_1 n_c8_1 n_c8_1, .slice a_c8_2 n_c8_2 n_c8_2], R.lst 22 1 a_c8_1 n_c8_1 (cells ES l_c8_1) D_c8_1, R.inn (EI .i64) l_c8_1 i_c8_1 E_c8_1, R.lst 22 1 a_c8_2 n_c8_2 (cells ES l_c8_2) D_c8_2, R.inn (EI .i64) l_c8_2 i_c8_2 E_c8_2, R.row H1.next 82 true [.int .i64 0, .slice none 0 0, .slice none 0 0], R.row H.next 80 true [.int .i64 ci, .slice a_cL n_cL c_cL, .slice a_cA n_cA c_cA, .slice a_cB n_cB c_cB, .slice a_cC n_cC c_cC]] ∧ (1 ≤ x20 ∧ x20 ≤ n) ∧ (l2.length = n2) ∧ (∀ u ∈ l2, (EI .i64).wf u) ∧ (∀ u ∈ l2, -1 ≤ u ∧ u / 2 ≤ 6001) ∧ (n2 = n_cL) ∧ (0 ≤ c8_0 ∧ c8_0 ≤ 4000) ∧ ((n_c8_1 : Int) ≤ x20) ∧ (n_c8_2 ≤ 20000) ∧ (l_c8_1.length = n_c8_1) ∧ (∀ c ∈ i_c8_1, c.length ≤ 1001) ∧ (∀ c ∈ i_c8_1, FrRow (1 + ci + n_cL + n_cA) c) ∧ (l_c8_2.length = n_c8_2) ∧ (∀ c ∈ i_c8_2, c.length ≤ 3)) ?_ ((n - 1).toNat) ⟨a2, n2, l2, D2, 1, v27, la27, ln27, lv27, lD27, lx27, lE27, ka27, kn27, kv27, kD27, kx27, kE27, rfl, rfl, (m33.pick [0, 1, 2, 3, 4, 5, 6, 7] (by decide) rfl), (by first | omega | assumption | (constructor <;> omega)), (by first | omega | (simp only [splice, List.length_append, List.length_set, List.length_replicate, List.length_map, List.length_take, List.length_drop, List.length_cons, List.length_nil] <;> omega)), hw_l2, hlq, (by first | omega | (simp only [splice, List.length_append, List.length_set, List.length_replicate, List.length_map, List.length_take, List.length_drop, List.length_cons, List.length_nil] <;> omega)), (by first | omega | (simp only [splice, List.length_append, List.length_set, List.length_replicate, List.length_map, List.length_take, List.length_drop, List.length_cons, List.length_nil] <;> omega)), (by first | omega | (simp only [splice, List.length_append, List.length_set, List.length_replicate, List.length_map, List.length_take, List.length_drop, List.length_cons, List.length_nil] <;> omega)), (by first | omega | (simp only [splice, List.length_append, List.length_set, List.length_replicate, List.length_map, List.length_take, List.length_drop, List.length_cons, List.length_nil] <;> omega)), (by first | omega | (simp only [splice, List.length_append, List.length_set, List.length_replicate, List.length_map, List.length_take, List.length_drop, List.length_cons, List.length_nil] <;> omega)), (by assumption), (by assumption), (by first | omega | (simp only [splice, List.length_append, List.length_set, List.length_replicate, List.length_map, List.length_take, List.length_drop, List.length_cons, List.length_nil] <;> omega)), (by assumption)⟩
            rintro kq lq A48 ⟨a2, n2, l2, D2, x20, c8_0, a_c8_1, n_c8_1, l_c8_1, D_c8_1, i_c8_1, E_c8_1, a_c8_2, n_c8_2, l_c8_2, D_c8_2, i_c8_2, E_c8_2, rfl, rfl, m49, hr5, hl_l2, hw_l2, hlq, hn2o, hc8, hl8, hk8, hl_l_c8_1, hk_l_c8_1, hfrr, hl_l_c8_2, hk_l_c8_2⟩
            refine KC.seq ?_
            refine KC.region ?_
            refine KO.pv (PV.lssD rfl rfl rfl) rfl rfl ?_
            refine KO.nil ?_
            refine KC.seq ?_
            refine KC.condD rfl (fun h50 => ?_) (fun h50 => ?_)
            · refine KC.skip ?_
              refine KC.seq ?_
              refine KC.block ?_
              refine KC.seq ?_
              refine KC.seq ?_
              refine KC.region ?_
              refine KO.loadN ag80_B9 sz80_B9 rfl (m49.row (i := 7) rfl) (takeN_of (p := [.int .i64 ci, .slice a_cL n_cL c_cL, .slice a_cA n_cA c_cA, .slice a_cB n_cB c_cB, .slice a_cC n_cC c_cC]) rfl rfl) rfl rfl ?_
              refine KO.pv (PV.move rfl) rfl rfl ?_
              have m51 : Mem [] H A48 [R.row H3.next 215 true [.int .i64 c8_0, .slice a_c8_1 n_c8_1 n_c8_1, .slice a_c8_2 n_c8_2 n_c8_2], R.lst 22 1 a_c8_1 n_c8_1 (cells ES l_c8_1) D_c8_1, R.inn (EI .i64) l_c8_1 i_c8_1 E_c8_1, R.lst 22 1 a_c8_2 n_c8_2 (cells ES l_c8_2) D_c8_2, R.inn (EI .i64) l_c8_2 i_c8_2 E_c8_2, R.lst 3 1 a2 n2 (cells (EI .i64) l2) D2, R.row H1.next 82 true [.int .i64 0, .slice none 0 0, .slice none 0 0], R.row H.next 80 true [.int .i64 ci, .slice a_cL n_cL c_cL, .slice a_cA n_cA c_cA, .slice a_cB n_cB c_cB, .slice a_cC n_cC c_cC]] := m49.pick [1, 2, 3, 4, 5, 0, 6, 7] (by decide) rfl
              refine KO.call rfl rfl rfl rfl (un_frame A48 H3.next c8_0 _ _ _ D_c8_1 _ E_c8_1 _ _ _ D_c8_2 _ E_c8_2 ci a_cL n_cL c_cL _ a_cA n_cA c_cA _ a_cB n_cB c_cB _ a_cC n_cC c_cC _ a2 n2 n2 _ (m51.ownK (Rs := [R.row H3.next 215 true [.int .i64 c8_0, .slice a_c8_1 n_c8_1 n_c8_1, .slice a_c8_2 n_c8_2 n_c8_2], R.lst 22 1 a_c8_1 n_c8_1 (cells ES l_c8_1) D_c8_1, R.inn (EI .i64) l_c8_1 i_c8_1 E_c8_1, R.lst 22 1 a_c8_2 n_c8_2 (cells ES l_c8_2) D_c8_2, R.inn (EI .i64) l_c8_2 i_c8_2 E_c8_2])) (wrap64 (by omega) (by omega)) (wrap64 (by omega) (by omega)) (V.mem m51 h_cL) (sepCons (V.sep m51 h_cL (i := 0) rfl) (sepCons (V.sep m51 h_cL (i := 1) rfl) (sepCons (V.sep m51 h_cL (i := 2) rfl) (sepCons (V.sep m51 h_cL (i := 3) rfl) (sepCons (V.sep m51 h_cL (i := 4) rfl) sepEnd))))) (V.mem m51 h_cA) (sepCons (V.sep m51 h_cA (i := 0) rfl) (sepCons (V.sep m51 h_cA (i := 1) rfl) (sepCons (V.sep m51 h_cA (i := 2) rfl) (sepCons (V.sep m51 h_cA (i := 3) rfl) (sepCons (V.sep m51 h_cA (i := 4) rfl) sepEnd))))) (V.mem m51 h_cB) (sepCons (V.sep m51 h_cB (i := 0) rfl) (sepCons (V.sep m51 h_cB (i := 1) rfl) (sepCons (V.sep m51 h_cB (i := 2) rfl) (sepCons (V.sep m51 h_cB (i := 3) rfl) (sepCons (V.sep m51 h_cB (i := 4) rfl) sepEnd))))) (V.mem m51 h_cC) (sepCons (V.sep m51 h_cC (i := 0) rfl) (sepCons (V.sep m51 h_cC (i := 1) rfl) (sepCons (V.sep m51 h_cC (i := 2) rfl) (sepCons (V.sep m51 h_cC (i := 3) rfl) (sepCons (V.sep m51 h_cC (i := 4) rfl) sepEnd))))) (m51.vlst (i := 5) rfl hw_l2 (by first | omega | (simp only [splice, List.length_append, List.length_set, List.length_replicate, List.length_map, List.length_take, List.length_drop, List.length_cons, List.length_nil] <;> omega))) (sepCons (m51.sepLst (k := 5) (i := 0) rfl rfl (by decide)) (sepCons (m51.sepLst (k := 5) (i := 1) rfl rfl (by decide)) (sepCons (m51.sepLst (k := 5) (i := 2) rfl rfl (by decide)) (sepCons (m51.sepLst (k := 5) (i := 3) rfl rfl (by decide)) (sepCons (m51.sepLst (k := 5) (i := 4) rfl rfl (by decide)) sepEnd))))) (by first | omega | assumption) (by first | omega | assumption) (by first | omega | assumption) (by assumption) (by first | assumption | exact all_nil) (by first | assumption | exact all_nil) (by first | omega | assumption) (by first | omega | assumption)) fun v52 H52 q52 => ?_
              obtain ⟨o52, v52, la52, ln52, lv52, lD52, lx52, lE52, ka52, kn52, kv52, kD52, kx52, kE52, hv52, mc52, p52_0, p52_1, p52_2, p52_3, p52_4, p52_5⟩ := q52
              dsimp only at hv52 mc52
              subst hv52
              have m53 := m51.seqK (Rs := [R.row H3.next 215 true [.int .i64 c8_0, .slice a_c8_1 n_c8_1 n_c8_1, .slice a_c8_2 n_c8_2 n_c8_2], R.lst 22 1 a_c8_1 n_c8_1 (cells ES l_c8_1) D_c8_1, R.inn (EI .i64) l_c8_1 i_c8_1 E_c8_1, R.lst 22 1 a_c8_2 n_c8_2 (cells ES l_c8_2) D_c8_2, R.inn (EI .i64) l_c8_2 i_c8_2 E_c8_2]) mc52
              rcases Bool.eq_false_or_eq_true o52 with h54 | h54
              · subst h54
                have p52_1t := p52_1 rfl
                refine KO.pv (PV.notB rfl rfl) rfl rfl ?_
                refine KO.nil ?_
                refine KC.condF rfl ?_
                refine KC.skip ?_
                refine KC.seq ?_
                refine KC.region ?_
                refine KO.pv (PV.fieldAddr fo215_0_B9 rfl) rfl rfl ?_
                refine KO.pv (PV.fieldAddr fo82_1_B9 rfl) rfl rfl ?_
                refine KO.load1 ag25_B9 rfl (m53.row (i := 0) rfl) rfl rfl rfl ?_
                refine KO.pv (PV.fieldAddr fo215_0_B9 rfl) rfl rfl ?_
                refine KO.pv (PV.fieldAddr fo82_1_B9 rfl) rfl rfl ?_
                refine KO.load1 ag25_B9 rfl (m53.row (i := 0) rfl) rfl rfl rfl ?_
                refine KO.pv (PV.len un25_B9 rfl) rfl rfl ?_
                refine KO.pv (PV.sub rfl rfl (wrap64 (by omega) (by omega))) rfl rfl ?_
                obtain ⟨b55, o55, p55, r55, e55, ha55, hb55, hr55, hx55, hw55, hc55, ht55⟩ := V.at_ (m53.vlst (i := 1) rfl (fun _ _ => trivial) (by first | omega | (simp only [splice, List.length_append, List.length_set, List.length_replicate, List.length_map, List.length_take, List.length_drop, List.length_cons, List.length_nil] <;> omega))) (z := ((ln52 : Int) - 1)) (by omega) (by omega)
                have hc55_0 : r55.cs[o55 + (((ln52 : Int) - 1)).toNat * 1 + 0]? = some (.slice e55.1 e55.2.1 e55.2.2) := hc55 0 (by decide)
                obtain ⟨xs55, hxs55, hV55⟩ := VV.at_ (m53.vinn (i := 2) rfl) hx55
                obtain ⟨len55, cap55, max55, wf55⟩ := hV55.len
                have a52_2_55 := p52_2 _ (List.mem_of_getElem? hxs55)
                have a52_4_55 := p52_4 _ (List.mem_of_getElem? hxs55)
                refine KO.pv (PV.indexAddrZ un25_B9 sz22_B9 rfl ha55 rfl (by omega) (by omega)) rfl rfl ?_
                refine KO.load1 ag22_B9 rfl hr55 hc55_0 rfl rfl ?_
                have hfr55 := FrRow.n (m := (1 + ci + n_cL + n_cA)) (c := xs55) (by assumption)
                have hfb55 := FrRow.b (m := (1 + ci + n_cL + n_cA)) (c := xs55) (by assumption)
                refine KO.pv (PV.assign rfl) rfl rfl ?_
                refine KO.nil ?_
                refine KC.seq ?_
                refine KC.region ?_
                refine KO.pv (PV.assign rfl) rfl rfl ?_
                refine KO.nil ?_
                refine KC.seq ?_
                refine KC.region ?_
                refine KO.pv (PV.fieldAddr fo80_1_B9 rfl) rfl rfl ?_
                refine KO.load1 ag77_B9 rfl (m53.row (i := 7) rfl) rfl rfl rfl ?_
                refine KO.pv (PV.len un77_B9 rfl) rfl rfl ?_
                refine KO.pv (PV.move rfl) rfl rfl ?_
                refine KO.nil ?_
                refine KC.block ?_
                refine KC.sub (l' := [(2, .slice none 0 0), (3, .pointer (some ⟨H.next, 0, none⟩)), (6, .pointer (some ⟨H1.next, 0, none⟩)), (8, .pointer (some ⟨H3.next, 0, none⟩)), (9, .slice e55.1 e55.2.1 e55.2.2), (19, .int .i64 n), (20, .int .i64 x20), (38, .slice a_cL n_cL c_cL), (39, .int .i64 (n_cL : Int)), (40, .int .i64 0)]) (.cons rfl (.cons rfl (.cons rfl (.cons rfl (.cons rfl (.cons rfl (.cons rfl (.cons rfl (.cons rfl (.cons rfl .nil)))))))))) ?_
                have m56 := m53.lnilC (EI .i64) (e := 3) none rfl
                refine KC.loopN (fun kq lq A => ∃ (a2 : Option Addr) (n2 : Nat) (l2 : List Int) (D2 : List Nat) (x40 : Int), kq = ((n_cL : Int) - x40).toNat ∧ lq = [(2, .slice a2 n2 n2), (3, .pointer (some ⟨H.next, 0, none⟩)), (6, .pointer (some ⟨H1.next, 0, none⟩)), (8, .pointer (some ⟨H3.next, 0, none⟩)), (9, .slice e55.1 e55.2.1 e55.2.2), (19, .int .i64 n), (20, .int .i64 x20), (38, .slice a_cL n_cL c_cL), (39, .int .i64 (n_cL : Int)), (40, .int .i64 x40)] ∧ Mem [] H A [R.lst 3 1 a2 n2 (cells (EI .i64) l2) D2, R.row H3.next 215 true [.int .i64 v52, .slice la52 ln52 ln52, .slice ka52 kn52 kn52], R.lst 22 1 la52 ln52 (cells ES lv52) lD52, R.inn (EI .i64) lv52 lx52 lE52, R.lst 22 1 ka52 kn52 (cells ES kv52) kD52, R.inn (EI .i64) kv52 kx52 kE52, R.row H1.next 82 true [.int .i64 0, .slice none 0 0, .slice none 0 0], R.row H.next 80 true [.int .i64 ci, .slice a_cL n_cL c_cL, .slice a_cA n_cA c_cA, .slice a_cB n_cB c_cB, .slice a_cC n_cC c_cC]] ∧ (0 ≤ x40 ∧ x40 ≤ (n_cL : Int)) ∧ (l2.length = n2) ∧ (∀ u ∈ l2, (EI .i64).wf u) ∧ (∀ u ∈ l2, -1 ≤ u ∧ u / 2 ≤ 6001) ∧ ((n2 : Int) = x40)) ?_ (((n_cL : Int) - 0).toNat) ⟨none, 0, [], [], 0, rfl, rfl, (m56.pick [0, 1, 2, 3, 4, 5, 7, 8] (by decide) rfl), (by first | omega | assumption | (constructor <;> omega)), (by first | omega | (simp only [splice, List.length_append, List.length_set, List.length_replicate, List.length_map, List.length_take, List.length_drop, List.length_cons, List.length_nil] <;> omega)), (fun _ h => absurd h List.not_mem_nil), all_nil, (by first | omega | (simp only [splice, List.length_append, List.length_set, List.length_replicate, List.length_map, List.length_take, List.length_drop, List.length_cons, List.length_nil] <;> omega))⟩
                rintro kq lq A57 ⟨a2, n2, l2, D2, x40, rfl, rfl, m58, hr11, hl_l2, hw_l2, hlq, hn2i⟩
                refine KC.seq ?_
                refine KC.region ?_
                refine KO.pv (PV.lssD rfl rfl rfl) rfl rfl ?_
                refine KO.nil ?_
                refine KC.seq ?_
                refine KC.condD rfl (fun h59 => ?_) (fun h59 => ?_)
                · refine KC.skip ?_
                  refine KC.seq ?_
                  refine KC.block ?_
                  refine KC.seq ?_
                  refine KC.region ?_
                  obtain ⟨b60, o60, p60, r60, e60, ha60, hb60, hr60, hx60, hw60, hc60, ht60⟩ := V.at_ h_cL (z := x40) (by omega) (by omega)
                  have hc60_0 : r60.cs[o60 + (x40).toNat * 2 + 0]? = some (.int .i64 e60.1) := hc60 0 (by decide)
                  have hc60_1 : r60.cs[o60 + (x40).toNat * 2 + 1]? = some (.int .i64 e60.2) := hc60 1 (by decide)
                  obtain ⟨hwa60, hwb60⟩ := hw60
                  obtain ⟨loa60, hia60⟩ := rangei64 hwa60
                  obtain ⟨lob60, hib60⟩ := rangei64 hwb60
                  have gok_hl_60 := ok_hl _ (List.mem_of_getElem? hx60)
                  refine KO.pv (PV.indexAddrZ un77_B9 sz166_B9 rfl ha60 rfl (by omega) (by omega)) rfl rfl ?_
                  refine KO.loadN ag166_B9 sz166_B9 rfl (m58.row0 hb60 hr60) ht60 rfl rfl ?_
                  refine KO.allocM m58 zt166_B9 rfl rfl fun H61 m62 => ?_
                  refine KO.storeM m62 (i := 0) rfl sz166_B9 rfl rfl rfl (show 0 + 2 ≤ 2 by decide) (show _ = [.int .i64 e60.1, .int .i64 e60.2] from rfl) rfl fun H63 m64 => ?_
                  refine KO.nil ?_
                  refine KC.region ?_
                  refine KO.pv (PV.move rfl) rfl rfl ?_
                  refine KO.pv (PV.move rfl) rfl rfl ?_
                  refine KO.pv (PV.fieldAddr fo166_0_B9 rfl) rfl rfl ?_
                  refine KO.load1 ag3_B9 rfl (m64.row (i := 0) rfl) rfl rfl rfl ?_
                  refine KO.call rfl rfl rfl rfl (un_lit H63 e55.1 e55.2.1 e55.2.2 _ e60.1 (VV.atv (m64.vinn (i := 4) rfl) hx55 hxs55) (wrap64 (by omega) (by omega)) (by first | omega | assumption) (by assumption)) fun v65 H65 q65 => ?_
                  obtain ⟨z65, hv65, mc65, p65_0⟩ := q65
                  dsimp only at hv65 mc65
                  subst hv65
                  have m66 := m64.seq mc65
                  refine KO.buildSliceM m66 el22_B9 ez3_B9 rfl rfl (show _ = some [.int .i64 z65] from rfl) rfl rfl fun H67 m68 => ?_
                  refine KO.appendC (C := (EI .i64)) m68 (i := 2) rfl el22_B9 ez3_B9 sb3_B9 un22_B9 rfl rfl (newElems_row1 (C := (EI .i64)) (y := z65) (m68.row (i := 0) rfl) rfl) rfl (by first | omega | (simp only [splice, List.length_append, List.length_set, List.length_replicate, List.length_map, List.length_take, List.length_drop, List.length_cons, List.length_nil] <;> omega)) rfl rfl fun a70 D71 H69 m72 => ?_
                  refine KO.pv (PV.assign rfl) rfl rfl ?_
                  refine KO.nil ?_
                  refine KC.region ?_
                  refine KO.pv (PV.add rfl rfl (wrap64 (by omega) (by omega))) rfl rfl ?_
                  refine KO.pv (PV.move rfl) rfl rfl ?_
                  refine KO.nil ?_
                  exact ⟨_, _, (by omega), (.cons rfl (.cons rfl (.cons rfl (.cons rfl (.cons rfl (.cons rfl (.cons rfl (.cons rfl (.cons rfl (.cons rfl .nil)))))))))), a70, (n2 + 1), (l2 ++ [z65]), D71, (x40 + 1), rfl, rfl, (m72.pick [2, 3, 4, 5, 6, 7, 8, 9] (by decide) rfl), (by first | omega | assumption | (constructor <;> omega)), (by first | omega | (simp only [splice, List.length_append, List.length_set, List.length_replicate, List.length_map, List.length_take, List.length_drop, List.length_cons, List.length_nil] <;> omega)), (all_app hw_l2 (all_one (wf64 (by omega) (by omega)))), (all_app hlq (all_one (by first | omega | assumption | (constructor <;> omega)))), (by first | omega | (simp only [splice, List.length_append, List.length_set, List.length_replicate, List.length_map, List.length_take, List.length_drop, List.length_cons, List.length_nil] <;> omega))⟩
                · refine KC.exit ?_
                  refine KC.region ?_
                  refine KO.pv (PV.add rfl rfl (wrap64 (by omega) (by omega))) rfl rfl ?_
                  refine KO.pv (PV.move rfl) rfl rfl ?_
                  refine KO.nil ?_
                  exact ⟨_, _, (by omega), (.cons rfl (.cons rfl (.cons rfl (.cons rfl (.cons rfl (.cons rfl .nil)))))), a2, n2, l2, D2, (x20 + 1), v52, la52, ln52, lv52, lD52, lx52, lE52, ka52, kn52, kv52, kD52, kx52, kE52, rfl, rfl, (m58.pick [0, 1, 2, 3, 4, 5, 6, 7] (by decide) rfl), (by first | omega | assumption | (constructor <;> omega)), (by first | omega | (simp only [splice, List.length_append, List.length_set, List.length_replicate, List.length_map, List.length_take, List.length_drop, List.length_cons, List.length_nil] <;> omega)), hw_l2, hlq, (by first | omega | (simp only [splice, List.length_append, List.length_set, List.length_replicate, List.length_map, List.length_take, List.length_drop, List.length_cons, List.length_nil] <;> omega)), (by first | omega | (simp only [splice, List.length_append, List.length_set, List.length_replicate, List.length_map, List.length_take, List.length_drop, List.length_cons, List.length_nil] <;> omega)), (by first | omega | (simp only [splice, List.length_append, List.length_set, List.length_replicate, List.length_map, List.length_take, List.length_drop, List.length_cons, List.length_nil] <;> omega)), (by first | omega | (simp only [splice, List.length_append, List.length_set, List.length_replicate, List.length_map, List.length_take, List.length_drop, List.length_cons, List.length_nil] <;> omega)), (by first | omega | (simp only [splice, List.length_append, List.length_set, List.length_replicate, List.length_map, List.length_take, List.length_drop, List.length_cons, List.length_nil] <;> omega)), (by assumption), (by assumption), (by first | omega | (simp only [splice, List.length_append, List.length_set, List.length_replicate, List.length_map, List.length_take, List.length_drop, List.length_cons, List.length_nil] <;> omega)), (by assumption)⟩
              · subst h54
                refine KO.pv (PV.notB rfl rfl) rfl rfl ?_
                refine KO.nil ?_
                refine KC.condT rfl ?_
                refine KC.seq ?_
                refine KC.region ?_
                refine KO.pv (PV.build rfl bl82__B9) rfl rfl ?_
                refine KO.storeM m53 (i := 6) rfl sz82_B9 rfl rfl rfl (show 0 + 3 ≤ 3 by decide) (show _ = [.int .i64 0, .slice none 0 0, .slice none 0 0] from rfl) rfl fun H73 m74 => ?_
                refine KO.pv (PV.assign rfl) rfl rfl ?_
                refine KO.nil ?_
                have m75 := m74.ownNil (C := ES)
                have m76 := m75.ownNil (C := ES)
                have m77 := m76.innNil (C := (EI .i64))
                have m78 := m77.innNil (C := (EI .i64))
                exact KC.ret ⟨rfl, _, (.cell rfl (ldN (m74.row (i := 6) rfl) ag82_B9 sz82_B9 rfl rfl) (.tmp rfl .nil)), 0, none, 0, 0, [], [], [], [], none, 0, 0, [], [], [], [], 4, rfl, m78.pick [3, 1, 2, 0] (by decide) rfl, (by first | omega | (intro h; omega) | (simp only [List.length_nil, true_and, and_true, or_true, true_or] <;> omega)), (by first | omega | (intro h; omega) | (simp only [List.length_nil, true_and, and_true, or_true, true_or] <;> omega) | exact all_nil | assumption), (by first | omega | (intro h; omega) | (simp only [List.length_nil, true_and, and_true, or_true, true_or] <;> omega) | exact all_nil | assumption)⟩
            · refine KC.exit ?_
              refine KC.seq ?_
              refine KC.region ?_
              refine KO.pv (PV.fieldAddr fo215_0_B9 rfl) rfl rfl ?_
              refine KO.loadN ag82_B9 sz82_B9 rfl (m49.row (i := 1) rfl) (takeN_of (p := [.int .i64 c8_0, .slice a_c8_1 n_c8_1 n_c8_1, .slice a_c8_2 n_c8_2 n_c8_2]) rfl rfl) rfl rfl ?_
              refine KO.storeM m49 (i := 6) rfl sz82_B9 rfl rfl rfl (show 0 + 3 ≤ 3 by decide) (show _ = [.int .i64 c8_0, .slice a_c8_1 n_c8_1 n_c8_1, .slice a_c8_2 n_c8_2 n_c8_2] from rfl) rfl fun H79 m80 => ?_
              refine KO.pv (PV.assign rfl) rfl rfl ?_
              refine KO.nil ?_
              have m81 := m80.ownLst (C := ES) (i := 2) rfl (fun _ _ => trivial) (by first | omega | (simp only [splice, List.length_append, List.length_set, List.length_replicate, List.length_map, List.length_take, List.length_drop, List.length_cons, List.length_nil] <;> omega))
              have m82 := m81.ownLst (C := ES) (i := 4) rfl (fun _ _ => trivial) (by first | omega | (simp only [splice, List.length_append, List.length_set, List.length_replicate, List.length_map, List.length_take, List.length_drop, List.length_cons, List.length_nil] <;> omega))
              exact KC.ret ⟨rfl, _, (.cell rfl (ldN (m80.row (i := 6) rfl) ag82_B9 sz82_B9 rfl rfl) (.tmp rfl .nil)), c8_0, a_c8_1, n_c8_1, n_c8_1, l_c8_1, D_c8_1, i_c8_1, E_c8_1, a_c8_2, n_c8_2, n_c8_2, l_c8_2, D_c8_2, i_c8_2, E_c8_2, 0, rfl, m82.pick [2, 3, 4, 5] (by decide) rfl, (by first | omega | (intro h; omega) | (simp only [List.length_nil, true_and, and_true, or_true, true_or] <;> omega)), (by first | omega | (intro h; omega) | (simp only [List.length_nil, true_and, and_true, or_true, true_or] <;> omega) | exact all_nil | assumption), (by first | omega | (intro h; omega) | (simp only [List.length_nil, true_and, and_true, or_true, true_or] <;> omega) | exact all_nil | assumption)⟩
        · subst h29
          refine KO.pv (PV.notB rfl rfl) rfl rfl ?_
          refine KO.nil ?_
          refine KC.condT rfl ?_
          refine KC.seq ?_
          refine KC.region ?_
          refine KO.pv (PV.build rfl bl82__B9) rfl rfl ?_
          refine KO.storeM m28 (i := 5) rfl sz82_B9 rfl rfl rfl (show 0 + 3 ≤ 3 by decide) (show _ = [.int .i64 0, .slice none 0 0, .slice none 0 0] from rfl) rfl fun H83 m84 => ?_
          refine KO.pv (PV.assign rfl) rfl rfl ?_
          refine KO.nil ?_
          have m85 := m84.ownNil (C := ES)
          have m86 := m85.ownNil (C := ES)
          have m87 := m86.innNil (C := (EI .i64))
          have m88 := m87.innNil (C := (EI .i64))
          exact KC.ret ⟨rfl, _, (.cell rfl (ldN (m84.row (i := 5) rfl) ag82_B9 sz82_B9 rfl rfl) (.tmp rfl .nil)), 0, none, 0, 0, [], [], [], [], none, 0, 0, [], [], [], [], 4, rfl, m88.pick [3, 1, 2, 0] (by decide) rfl, (by first | omega | (intro h; omega) | (simp only [List.length_nil, true_and, and_true, or_true, true_or] <;> omega)), (by first | omega | (intro h; omega) | (simp only [List.length_nil, true_and, and_true, or_true, true_or] <;> omega) | exact all_nil | assumption), (by first | omega | (intro h; omega) | (simp only [List.length_nil, true_and, and_true, or_true, true_or] <;> omega) | exact all_nil | assumption)⟩
      · refine KC.exit ?_
        refine KC.seq ?_
        refine KC.region ?_
        refine KO.pv (PV.fieldAddr fo215_0_B9 rfl) rfl rfl ?_
        refine KO.loadN ag82_B9 sz82_B9 rfl (m20.row (i := 0) rfl) (takeN_of (p := [.int .i64 0, .slice none 0 0, .slice none 0 0]) rfl rfl) rfl rfl ?_
        refine KO.storeM m20 (i := 1) rfl sz82_B9 rfl rfl rfl (show 0 + 3 ≤ 3 by decide) (show _ = [.int .i64 0, .slice none 0 0, .slice none 0 0] from rfl) rfl fun H89 m90 => ?_
        refine KO.pv (PV.assign rfl) rfl rfl ?_
        refine KO.nil ?_
        have m91 := m90.ownNil (C := ES)
        have m92 := m91.ownNil (C := ES)
        have m93 := m92.innNil (C := (EI .i64))
        have m94 := m93.innNil (C := (EI .i64))
        exact KC.ret ⟨rfl, _, (.cell rfl (ldN (m90.row (i := 1) rfl) ag82_B9 sz82_B9 rfl rfl) (.tmp rfl .nil)), 0, none, 0, 0, [], [], [], [], none, 0, 0, [], [], [], [], 0, rfl, m94.pick [3, 1, 2, 0] (by decide) rfl, (by first | omega | (intro h; omega) | (simp only [List.length_nil, true_and, and_true, or_true, true_or] <;> omega)), (by first | omega | (intro h; omega) | (simp only [List.length_nil, true_and, and_true, or_true, true_or] <;> omega) | exact all_nil | assumption), (by first | omega | (intro h; omega) | (simp only [List.length_nil, true_and, and_true, or_true, true_or] <;> omega) | exact all_nil | assumption)⟩
theorem un_Of (H : AHeap) (ci : Int) (a_cL : Option Addr) (n_cL c_cL : Nat) (cL : List (Int × Int)) (a_cA : Option Addr) (n_cA c_cA : Nat) (cA : List (Int × Int)) (a_cB : Option Addr) (n_cB c_cB : Nat) (cB : List Int) (a_cC : Option Addr) (n_cC c_cC : Nat) (cC : List Int) (n : Int) (w_ci : IntKind.i64.wrap ci = ci) (h_cL : V EP H a_cL n_cL c_cL cL) (h_cA : V EP H a_cA n_cA c_cA cA) (h_cB : V (EI .i64) H a_cB n_cB c_cB cB) (h_cC : V (EI .i64) H a_cC n_cC c_cC cC) (w_n : IntKind.i64.wrap n = n) : WF E0 55 [.agg #[.int .i64 ci, .slice a_cL n_cL c_cL, .slice a_cA n_cA c_cA, .slice a_cB n_cB c_cB, .slice a_cC n_cC c_cC], .int .i64 n] H fun q => ∃ (v : Int) (a1 : Option Addr) (n1 : Nat) (c1 : Nat) (v1 : List (Option Addr × Nat × Nat)) (D1 : List Nat) (l1 : List (List Int)) (E1 : List Nat) (a2 : Option Addr) (n2 : Nat) (c2 : Nat) (v2 : List (Option Addr × Nat × Nat)) (D2 : List Nat) (l2 : List (List Int)) (E2 : List Nat) (e : Int), q.1 = .tuple #[.agg #[.int .i64 v, .slice a1 n1 c1, .slice a2 n2 c2], .int .i64 e] ∧ Mem [] H q.2 [R.own ES a1 n1 c1 v1 D1, R.inn (EI .i64) v1 l1 E1, R.own ES a2 n2 c2 v2 D2, R.inn (EI .i64) v2 l2 E2] ∧ (0 ≤ v ∧ v ≤ 4000 ∧ n1 ≤ 100 ∧ n2 ≤ 20000) ∧ (∀ c ∈ l1, c.length ≤ 1001) ∧ (∀ c ∈ l2, c.length ≤ 3) := by
  obtain ⟨lo_ci, hi_ci⟩ := rangei64 w_ci
  obtain ⟨len_cL, cap_cL, max_cL, wf_cL⟩ := h_cL.len
  obtain ⟨len_cA, cap_cA, max_cA, wf_cA⟩ := h_cA.len
  obtain ⟨len_cB, cap_cB, max_cB, wf_cB⟩ := h_cB.len
  obtain ⟨len_cC, cap_cC, max_cC, wf_cC⟩ := h_cC.len
  obtain ⟨lo_n, hi_n⟩ := rangei64 w_n
  have m0 : Mem [] H H [] := Mem.start
  refine WF.kg Tryz.func55 rfl rfl ?_
  refine KC.seq ?_
  refine KC.region ?_
  refine KO.boxM m0 rfl rfl (show _ = [.int .i64 ci, .slice a_cL n_cL c_cL, .slice a_cA n_cA c_cA, .slice a_cB n_cB c_cB, .slice a_cC n_cC c_cC] from rfl) rfl rfl fun H1 m2 => ?_
  refine KO.allocM m2 zt82_B9 rfl rfl fun H3 m4 => ?_
  refine KO.pv (PV.assign rfl) rfl rfl ?_
  refine KO.nil ?_
  refine KC.seq ?_
  refine KC.seq ?_
  refine KC.region ?_
  refine KO.loadN ag80_B9 sz80_B9 rfl (m4.row (i := 1) rfl) (takeN_of (p := [.int .i64 ci, .slice a_cL n_cL c_cL, .slice a_cA n_cA c_cA, .slice a_cB n_cB c_cB, .slice a_cC n_cC c_cC]) rfl rfl) rfl rfl ?_
  refine KO.call rfl rfl rfl rfl (gates_Check H3 ci a_cL n_cL c_cL _ a_cA n_cA c_cA _ a_cB n_cB c_cB _ a_cC n_cC c_cC _ (wrap64 (by omega) (by omega)) (V.mem m4 h_cL) (V.mem m4 h_cA) (V.mem m4 h_cB) (V.mem m4 h_cC)) fun v5 H5 q5 => ?_
  obtain ⟨e5, hv5, mc5, p5_0, p5_1⟩ := q5
  dsimp only at hv5 mc5
  subst hv5
  have m6 := m4.seq mc5
  refine KO.pv (PV.assign rfl) rfl rfl ?_
  refine KO.nil ?_
  refine KC.seq ?_
  refine KC.region ?_
  refine KO.pv (PV.move rfl) rfl rfl ?_
  refine KO.pv (PV.neqD rfl rfl rfl) rfl rfl ?_
  refine KO.nil ?_
  refine KC.condD rfl (fun h7 => ?_) (fun h7 => ?_)
  · refine KC.seq ?_
    refine KC.region ?_
    refine KO.pv (PV.build rfl bl82__B9) rfl rfl ?_
    refine KO.pv (PV.move rfl) rfl rfl ?_
    refine KO.storeM m6 (i := 0) rfl sz82_B9 rfl rfl rfl (show 0 + 3 ≤ 3 by decide) (show _ = [.int .i64 0, .slice none 0 0, .slice none 0 0] from rfl) rfl fun H8 m9 => ?_
    refine KO.pv (PV.assign rfl) rfl rfl ?_
    refine KO.nil ?_
    have m10 := m9.ownNil (C := ES)
    have m11 := m10.ownNil (C := ES)
    have m12 := m11.innNil (C := (EI .i64))
    have m13 := m12.innNil (C := (EI .i64))
    exact KC.ret ⟨rfl, _, (.cell rfl (ldN (m9.row (i := 0) rfl) ag82_B9 sz82_B9 rfl rfl) (.tmp rfl .nil)), 0, none, 0, 0, [], [], [], [], none, 0, 0, [], [], [], [], e5, rfl, m13.pick [3, 1, 2, 0] (by decide) rfl, (by first | omega | (intro h; omega) | (simp only [List.length_nil, true_and, and_true, or_true, true_or] <;> omega)), (by first | omega | (intro h; omega) | (simp only [List.length_nil, true_and, and_true, or_true, true_or] <;> omega) | exact all_nil | assumption), (by first | omega | (intro h; omega) | (simp only [List.length_nil, true_and, and_true, or_true, true_or] <;> omega) | exact all_nil | assumption)⟩
  · have p5_0t := p5_0 (by omega)
    obtain ⟨p5_0_i0, p5_0_al, p5_0_b, p5_0_c, p5_0_hb, p5_0_hc, p5_0_hl, p5_0_ha⟩ := id p5_0t
    refine KC.skip ?_
    refine KC.seq ?_
    refine KC.region ?_
    refine KO.pv (PV.assign rfl) rfl rfl ?_
    refine KO.nil ?_
    refine KC.seq ?_
    refine KC.seq ?_
    refine KC.region ?_
    refine KO.pv (PV.fieldAddr fo80_1_B9 rfl) rfl rfl ?_
    refine KO.load1 ag77_B9 rfl (m6.row (i := 1) rfl) rfl rfl rfl ?_
    refine KO.pv (PV.len un77_B9 rfl) rfl rfl ?_
    refine KO.pv (PV.move rfl) rfl rfl ?_
    refine KO.nil ?_
    refine KC.block ?_
    refine KC.sub (l' := [(1, .int .i64 n), (2, .pointer (some ⟨H.next, 0, none⟩)), (4, .pointer (some ⟨H1.next, 0, none⟩)), (7, .slice none 0 0), (18, .slice a_cL n_cL c_cL), (19, .int .i64 (n_cL : Int)), (20, .int .i64 0)]) (.cons rfl (.cons rfl (.cons rfl (.cons rfl (.cons rfl (.cons rfl (.cons rfl .nil))))))) ?_
    have m14 := m6.lnilC (EI .i64) (e := 3) none rfl
    refine KC.loopN (fun kq lq A => ∃ (a7 : Option Addr) (n7 : Nat) (l7 : List Int) (D7 : List Nat) (x20 : Int), kq = ((n_cL : Int) - x20).toNat ∧ lq = [(1, .int .i64 n), (2, .pointer (some ⟨H.next, 0, none⟩)), (4, .pointer (some ⟨H1.next, 0, none⟩)), (7, .slice a7 n7 n7), (18, .slice a_cL n_cL c_cL), (19, .int .i64 (n_cL : Int)), (20, .int .i64 x20)] ∧ Mem [] H A [R.lst 3 1 a7 n7 (cells (EI .i64) l7) D7, R.row H1.next 82 true [.int .i64 0, .slice none 0 0, .slice none 0 0], R.row H.next 80 true [.int .i64 ci, .slice a_cL n_cL c_cL, .slice a_cA n_cA c_cA, .slice a_cB n_cB c_cB, .slice a_cC n_cC c_cC]] ∧ (0 ≤ x20 ∧ x20 ≤ (n_cL : Int)) ∧ (l7.length = n7) ∧ (∀ u ∈ l7, (EI .i64).wf u) ∧ (∀ u ∈ l7, -1 ≤ u ∧ u / 2 ≤ 6001) ∧ ((n7 : Int) = x20)) ?_ (((n_cL : Int) - 0).toNat) ⟨none, 0, [], [], 0, rfl, rfl, (m14.pick [0, 1, 2] (by decide) rfl), (by first | omega | assumption | (constructor <;> omega)), (by first | omega | (simp only [splice, List.length_append, List.length_set, List.length_replicate, List.length_map, List.length_take, List.length_drop, List.length_cons, List.length_nil] <;> omega)), (fun _ h => absurd h List.not_mem_nil), all_nil, (by first | omega | (simp only [splice, List.length_append, List.length_set, List.length_replicate, List.length_map, List.length_take, List.length_drop, List.length_cons, List.length_nil] <;> omega))⟩
    rintro kq lq A15 ⟨a7, n7, l7, D7, x20, rfl, rfl, m16, hr6, hl_l7, hw_l7, hlq, hn7⟩
    refine KC.seq ?_
    refine KC.region ?_
    refine KO.pv (PV.lssD rfl rfl rfl) rfl rfl ?_
    refine KO.nil ?_
    refine KC.seq ?_
    refine KC.condD rfl (fun h17 => ?_) (fun h17 => ?_)
    · refine KC.skip ?_
      refine KC.seq ?_
      refine KC.block ?_
      refine KC.seq ?_
      refine KC.region ?_
      obtain ⟨b18, o18, p18, r18, e18, ha18, hb18, hr18, hx18, hw18, hc18, ht18⟩ := V.at_ h_cL (z := x20) (by omega) (by omega)
      have hc18_0 : r18.cs[o18 + (x20).toNat * 2 + 0]? = some (.int .i64 e18.1) := hc18 0 (by decide)
      have hc18_1 : r18.cs[o18 + (x20).toNat * 2 + 1]? = some (.int .i64 e18.2) := hc18 1 (by decide)
      obtain ⟨hwa18, hwb18⟩ := hw18
      obtain ⟨loa18, hia18⟩ := rangei64 hwa18
      obtain ⟨lob18, hib18⟩ := rangei64 hwb18
      have gp5_0_hl_18 := p5_0_hl _ (List.mem_of_getElem? hx18)
      refine KO.pv (PV.indexAddrZ un77_B9 sz166_B9 rfl ha18 rfl (by omega) (by omega)) rfl rfl ?_
      refine KO.loadN ag166_B9 sz166_B9 rfl (m16.row0 hb18 hr18) ht18 rfl rfl ?_
      refine KO.allocM m16 zt166_B9 rfl rfl fun H19 m20 => ?_
      refine KO.storeM m20 (i := 0) rfl sz166_B9 rfl rfl rfl (show 0 + 2 ≤ 2 by decide) (show _ = [.int .i64 e18.1, .int .i64 e18.2] from rfl) rfl fun H21 m22 => ?_
      refine KO.nil ?_
      refine KC.seq ?_
      refine KC.region ?_
      refine KO.pv (PV.fieldAddr fo166_1_B9 rfl) rfl rfl ?_
      refine KO.load1 ag3_B9 rfl (m22.row (i := 0) rfl) rfl rfl rfl ?_
      refine KO.pv (PV.assign rfl) rfl rfl ?_
      refine KO.nil ?_
      refine KC.seq ?_
      refine KC.seq ?_
      refine KC.region ?_
      refine KO.pv (PV.fieldAddr fo166_1_B9 rfl) rfl rfl ?_
      refine KO.load1 ag3_B9 rfl (m22.row (i := 0) rfl) rfl rfl rfl ?_
      refine KO.pv (PV.eqlD rfl rfl rfl) rfl rfl ?_
      refine KO.nil ?_
      refine KC.condD rfl (fun h23 => ?_) (fun h23 => ?_)
      · refine KC.region ?_
        refine KO.pv (PV.assign rfl) rfl rfl ?_
        refine KO.nil ?_
        refine KC.region ?_
        refine KO.pv (PV.move rfl) rfl rfl ?_
        refine KO.pv (PV.move rfl) rfl rfl ?_
        refine KO.buildSliceM m22 el22_B9 ez3_B9 rfl rfl (show _ = some [.int .i64 (-1)] from rfl) rfl rfl fun H24 m25 => ?_
        refine KO.appendC (C := (EI .i64)) m25 (i := 2) rfl el22_B9 ez3_B9 sb3_B9 un22_B9 rfl rfl (newElems_row1 (C := (EI .i64)) (y := (-1)) (m25.row (i := 0) rfl) rfl) rfl (by first | omega | (simp only [splice, List.length_append, List.length_set, List.length_replicate, List.length_map, List.length_take, List.length_drop, List.length_cons, List.length_nil] <;> omega)) rfl rfl fun a27 D28 H26 m29 => ?_
        refine KO.pv (PV.assign rfl) rfl rfl ?_
        refine KO.nil ?_
        refine KC.region ?_
        refine KO.pv (PV.add rfl rfl (wrap64 (by omega) (by omega))) rfl rfl ?_
        refine KO.pv (PV.move rfl) rfl rfl ?_
        refine KO.nil ?_
        exact ⟨_, _, (by omega), (.cons rfl (.cons rfl (.cons rfl (.cons rfl (.cons rfl (.cons rfl (.cons rfl .nil))))))), a27, (n7 + 1), (l7 ++ [(-1)]), D28, (x20 + 1), rfl, rfl, (m29.pick [2, 3, 4] (by decide) rfl), (by first | omega | assumption | (constructor <;> omega)), (by first | omega | (simp only [splice, List.length_append, List.length_set, List.length_replicate, List.length_map, List.length_take, List.length_drop, List.length_cons, List.length_nil] <;> omega)), (all_app hw_l7 (all_one (wf64 (by omega) (by omega)))), (all_app hlq (all_one (by first | omega | assumption | (constructor <;> omega)))), (by first | omega | (simp only [splice, List.length_append, List.length_set, List.length_replicate, List.length_map, List.length_take, List.length_drop, List.length_cons, List.length_nil] <;> omega))⟩
      · refine KC.skip ?_
        refine KC.region ?_
        refine KO.pv (PV.move rfl) rfl rfl ?_
        refine KO.pv (PV.move rfl) rfl rfl ?_
        refine KO.buildSliceM m22 el22_B9 ez3_B9 rfl rfl (show _ = some [.int .i64 e18.2] from rfl) rfl rfl fun H30 m31 => ?_
        refine KO.appendC (C := (EI .i64)) m31 (i := 2) rfl el22_B9 ez3_B9 sb3_B9 un22_B9 rfl rfl (newElems_row1 (C := (EI .i64)) (y := e18.2) (m31.row (i := 0) rfl) rfl) rfl (by first | omega | (simp only [splice, List.length_append, List.length_set, List.length_replicate, List.length_map, List.length_take, List.length_drop, List.length_cons, List.length_nil] <;> omega)) rfl rfl fun a33 D34 H32 m35 => ?_
        refine KO.pv (PV.assign rfl) rfl rfl ?_
        refine KO.nil ?_
        refine KC.region ?_
        refine KO.pv (PV.add rfl rfl (wrap64 (by omega) (by omega))) rfl rfl ?_
        refine KO.pv (PV.move rfl) rfl rfl ?_
        refine KO.nil ?_
        exact ⟨_, _, (by omega), (.cons rfl (.cons rfl (.cons rfl (.cons rfl (.cons rfl (.cons rfl (.cons rfl .nil))))))), a33, (n7 + 1), (l7 ++ [e18.2]), D34, (x20 + 1), rfl, rfl, (m35.pick [2, 3, 4] (by decide) rfl), (by first | omega | assumption | (constructor <;> omega)), (by first | omega | (simp only [splice, List.length_append, List.length_set, List.length_replicate, List.length_map, List.length_take, List.length_drop, List.length_cons, List.length_nil] <;> omega)), (all_app hw_l7 (all_one (wf64 (by omega) (by omega)))), (all_app hlq (all_one (by first | omega | assumption | (constructor <;> omega)))), (by first | omega | (simp only [splice, List.length_append, List.length_set, List.length_replicate, List.length_map, List.length_take, List.length_drop, List.length_cons, List.length_nil] <;> omega))⟩
    · refine KC.exit ?_
      refine KC.seq ?_
      refine KC.region ?_
      refine KO.loadN ag80_B9 sz80_B9 rfl (m16.row (i := 2) rfl) (takeN_of (p := [.int .i64 ci, .slice a_cL n_cL c_cL, .slice a_cA n_cA c_cA, .slice a_cB n_cB c_cB, .slice a_cC n_cC c_cC]) rfl rfl) rfl rfl ?_
      refine KO.pv (PV.move rfl) rfl rfl ?_
      refine KO.pv (PV.move rfl) rfl rfl ?_
      refine KO.call rfl rfl rfl rfl (un_made A15 ci a_cL n_cL c_cL _ a_cA n_cA c_cA _ a_cB n_cB c_cB _ a_cC n_cC c_cC _ n a7 n7 n7 _ (wrap64 (by omega) (by omega)) (V.mem m16 h_cL) (V.mem m16 h_cA) (V.mem m16 h_cB) (V.mem m16 h_cC) (wrap64 (by omega) (by omega)) (m16.vlst (i := 0) rfl hw_l7 (by first | omega | (simp only [splice, List.length_append, List.length_set, List.length_replicate, List.length_map, List.length_take, List.length_drop, List.length_cons, List.length_nil] <;> omega))) (by first | omega | assumption) (by first | omega | assumption) (by first | omega | assumption)) fun v36 H36 q36 => ?_
      obtain ⟨v36, a136, n136, c136, v136, D136, l136, E136, a236, n236, c236, v236, D236, l236, E236, e36, hv36, mc36, p36_0, p36_1, p36_2⟩ := q36
      dsimp only at hv36 mc36
      subst hv36
      have m37 := m16.seq mc36
      refine KO.pv (PV.extract rfl rfl) rfl rfl ?_
      refine KO.pv (PV.extract rfl rfl) rfl rfl ?_
      refine KO.storeM m37 (i := 5) rfl sz82_B9 rfl rfl rfl (show 0 + 3 ≤ 3 by decide) (show _ = [.int .i64 v36, .slice a136 n136 c136, .slice a236 n236 c236] from rfl) rfl fun H38 m39 => ?_
      refine KO.pv (PV.assign rfl) rfl rfl ?_
      refine KO.nil ?_
      exact KC.ret ⟨rfl, _, (.cell rfl (ldN (m39.row (i := 5) rfl) ag82_B9 sz82_B9 rfl rfl) (.tmp rfl .nil)), v36, a136, n136, c136, v136, D136, l136, E136, a236, n236, c236, v236, D236, l236, E236, e36, rfl, m39.pick [0, 1, 2, 3] (by decide) rfl, (by first | omega | (intro h; omega) | (simp only [List.length_nil, true_and, and_true, or_true, true_or] <;> omega)), (by first | omega | (intro h; omega) | (simp only [List.length_nil, true_and, and_true, or_true, true_or] <;> omega) | exact all_nil | assumption), (by first | omega | (intro h; omega) | (simp only [List.length_nil, true_and, and_true, or_true, true_or] <;> omega) | exact all_nil | assumption)⟩
theorem un_Free (H : AHeap) (ci : Int) (a_cL : Option Addr) (n_cL c_cL : Nat) (cL : List (Int × Int)) (a_cA : Option Addr) (n_cA c_cA : Nat) (cA : List (Int × Int)) (a_cB : Option Addr) (n_cB c_cB : Nat) (cB : List Int) (a_cC : Option Addr) (n_cC c_cC : Nat) (cC : List Int) (n : Int) (w_ci : IntKind.i64.wrap ci = ci) (h_cL : V EP H a_cL n_cL c_cL cL) (h_cA : V EP H a_cA n_cA c_cA cA) (h_cB : V (EI .i64) H a_cB n_cB c_cB cB) (h_cC : V (EI .i64) H a_cC n_cC c_cC cC) (w_n : IntKind.i64.wrap n = n) : WF E0 58 [.agg #[.int .i64 ci, .slice a_cL n_cL c_cL, .slice a_cA n_cA c_cA, .slice a_cB n_cB c_cB, .slice a_cC n_cC c_cC], .int .i64 n] H fun q => ∃ (v : Int) (a1 : Option Addr) (n1 : Nat) (c1 : Nat) (v1 : List (Option Addr × Nat × Nat)) (D1 : List Nat) (l1 : List (List Int)) (E1 : List Nat) (a2 : Option Addr) (n2 : Nat) (c2 : Nat) (v2 : List (Option Addr × Nat × Nat)) (D2 : List Nat) (l2 : List (List Int)) (E2 : List Nat) (e : Int), q.1 = .tuple #[.agg #[.int .i64 v, .slice a1 n1 c1, .slice a2 n2 c2], .int .i64 e] ∧ Mem [] H q.2 [R.own ES a1 n1 c1 v1 D1, R.inn (EI .i64) v1 l1 E1, R.own ES a2 n2 c2 v2 D2, R.inn (EI .i64) v2 l2 E2] ∧ (0 ≤ v ∧ v ≤ 4000 ∧ n1 ≤ 100 ∧ n2 ≤ 20000) ∧ (∀ c ∈ l1, c.length ≤ 1001) ∧ (∀ c ∈ l2, c.length ≤ 3) := by
  obtain ⟨lo_ci, hi_ci⟩ := rangei64 w_ci
  obtain ⟨len_cL, cap_cL, max_cL, wf_cL⟩ := h_cL.len
  obtain ⟨len_cA, cap_cA, max_cA, wf_cA⟩ := h_cA.len
  obtain ⟨len_cB, cap_cB, max_cB, wf_cB⟩ := h_cB.len
  obtain ⟨len_cC, cap_cC, max_cC, wf_cC⟩ := h_cC.len
  obtain ⟨lo_n, hi_n⟩ := rangei64 w_n
  have m0 : Mem [] H H [] := Mem.start
  refine WF.kg Tryz.func58 rfl rfl ?_
  refine KC.seq ?_
  refine KC.region ?_
  refine KO.boxM m0 rfl rfl (show _ = [.int .i64 ci, .slice a_cL n_cL c_cL, .slice a_cA n_cA c_cA, .slice a_cB n_cB c_cB, .slice a_cC n_cC c_cC] from rfl) rfl rfl fun H1 m2 => ?_
  refine KO.allocM m2 zt82_B9 rfl rfl fun H3 m4 => ?_
  refine KO.pv (PV.assign rfl) rfl rfl ?_
  refine KO.nil ?_
  refine KC.seq ?_
  refine KC.seq ?_
  refine KC.region ?_
  refine KO.loadN ag80_B9 sz80_B9 rfl (m4.row (i := 1) rfl) (takeN_of (p := [.int .i64 ci, .slice a_cL n_cL c_cL, .slice a_cA n_cA c_cA, .slice a_cB n_cB c_cB, .slice a_cC n_cC c_cC]) rfl rfl) rfl rfl ?_
  refine KO.call rfl rfl rfl rfl (gates_Check H3 ci a_cL n_cL c_cL _ a_cA n_cA c_cA _ a_cB n_cB c_cB _ a_cC n_cC c_cC _ (wrap64 (by omega) (by omega)) (V.mem m4 h_cL) (V.mem m4 h_cA) (V.mem m4 h_cB) (V.mem m4 h_cC)) fun v5 H5 q5 => ?_
  obtain ⟨e5, hv5, mc5, p5_0, p5_1⟩ := q5
  dsimp only at hv5 mc5
  subst hv5
  have m6 := m4.seq mc5
  refine KO.pv (PV.assign rfl) rfl rfl ?_
  refine KO.nil ?_
  refine KC.seq ?_
  refine KC.region ?_
  refine KO.pv (PV.move rfl) rfl rfl ?_
  refine KO.pv (PV.neqD rfl rfl rfl) rfl rfl ?_
  refine KO.nil ?_
  refine KC.condD rfl (fun h7 => ?_) (fun h7 => ?_)
  · refine KC.seq ?_
    refine KC.region ?_
    refine KO.pv (PV.build rfl bl82__B9) rfl rfl ?_
    refine KO.pv (PV.move rfl) rfl rfl ?_
    refine KO.storeM m6 (i := 0) rfl sz82_B9 rfl rfl rfl (show 0 + 3 ≤ 3 by decide) (show _ = [.int .i64 0, .slice none 0 0, .slice none 0 0] from rfl) rfl fun H8 m9 => ?_
    refine KO.pv (PV.assign rfl) rfl rfl ?_
    refine KO.nil ?_
    have m10 := m9.ownNil (C := ES)
    have m11 := m10.ownNil (C := ES)
    have m12 := m11.innNil (C := (EI .i64))
    have m13 := m12.innNil (C := (EI .i64))
    exact KC.ret ⟨rfl, _, (.cell rfl (ldN (m9.row (i := 0) rfl) ag82_B9 sz82_B9 rfl rfl) (.tmp rfl .nil)), 0, none, 0, 0, [], [], [], [], none, 0, 0, [], [], [], [], e5, rfl, m13.pick [3, 1, 2, 0] (by decide) rfl, (by first | omega | (intro h; omega) | (simp only [List.length_nil, true_and, and_true, or_true, true_or] <;> omega)), (by first | omega | (intro h; omega) | (simp only [List.length_nil, true_and, and_true, or_true, true_or] <;> omega) | exact all_nil | assumption), (by first | omega | (intro h; omega) | (simp only [List.length_nil, true_and, and_true, or_true, true_or] <;> omega) | exact all_nil | assumption)⟩
  · have p5_0t := p5_0 (by omega)
    obtain ⟨p5_0_i0, p5_0_al, p5_0_b, p5_0_c, p5_0_hb, p5_0_hc, p5_0_hl, p5_0_ha⟩ := id p5_0t
    refine KC.skip ?_
    refine KC.seq ?_
    refine KC.region ?_
    refine KO.pv (PV.assign rfl) rfl rfl ?_
    refine KO.nil ?_
    refine KC.seq ?_
    refine KC.seq ?_
    refine KC.region ?_
    refine KO.pv (PV.fieldAddr fo80_1_B9 rfl) rfl rfl ?_
    refine KO.load1 ag77_B9 rfl (m6.row (i := 1) rfl) rfl rfl rfl ?_
    refine KO.pv (PV.len un77_B9 rfl) rfl rfl ?_
    refine KO.pv (PV.move rfl) rfl rfl ?_
    refine KO.nil ?_
    refine KC.block ?_
    refine KC.sub (l' := [(1, .int .i64 n), (2, .pointer (some ⟨H.next, 0, none⟩)), (4, .pointer (some ⟨H1.next, 0, none⟩)), (7, .slice none 0 0), (16, .int .i64 (n_cL : Int)), (17, .int .i64 0)]) (.cons rfl (.cons rfl (.cons rfl (.cons rfl (.cons rfl (.cons rfl .nil)))))) ?_
    have m14 := m6.lnilC (EI .i64) (e := 3) none rfl
    refine KC.loopN (fun kq lq A => ∃ (a7 : Option Addr) (n7 : Nat) (l7 : List Int) (D7 : List Nat) (x17 : Int), kq = ((n_cL : Int) - x17).toNat ∧ lq = [(1, .int .i64 n), (2, .pointer (some ⟨H.next, 0, none⟩)), (4, .pointer (some ⟨H1.next, 0, none⟩)), (7, .slice a7 n7 n7), (16, .int .i64 (n_cL : Int)), (17, .int .i64 x17)] ∧ Mem [] H A [R.lst 3 1 a7 n7 (cells (EI .i64) l7) D7, R.row H1.next 82 true [.int .i64 0, .slice none 0 0, .slice none 0 0], R.row H.next 80 true [.int .i64 ci, .slice a_cL n_cL c_cL, .slice a_cA n_cA c_cA, .slice a_cB n_cB c_cB, .slice a_cC n_cC c_cC]] ∧ (0 ≤ x17 ∧ x17 ≤ (n_cL : Int)) ∧ (l7.length = n7) ∧ (∀ u ∈ l7, (EI .i64).wf u) ∧ (∀ u ∈ l7, -1 ≤ u ∧ u / 2 ≤ 6001) ∧ ((n7 : Int) = x17)) ?_ (((n_cL : Int) - 0).toNat) ⟨none, 0, [], [], 0, rfl, rfl, (m14.pick [0, 1, 2] (by decide) rfl), (by first | omega | assumption | (constructor <;> omega)), (by first | omega | (simp only [splice, List.length_append, List.length_set, List.length_replicate, List.length_map, List.length_take, List.length_drop, List.length_cons, List.length_nil] <;> omega)), (fun _ h => absurd h List.not_mem_nil), all_nil, (by first | omega | (simp only [splice, List.length_append, List.length_set, List.length_replicate, List.length_map, List.length_take, List.length_drop, List.length_cons, List.length_nil] <;> omega))⟩
    rintro kq lq A15 ⟨a7, n7, l7, D7, x17, rfl, rfl, m16, hr6, hl_l7, hw_l7, hlq, hn7⟩
    refine KC.seq ?_
    refine KC.region ?_
    refine KO.pv (PV.lssD rfl rfl rfl) rfl rfl ?_
    refine KO.nil ?_
    refine KC.seq ?_
    refine KC.condD rfl (fun h17 => ?_) (fun h17 => ?_)
    · refine KC.skip ?_
      refine KC.seq ?_
      refine KC.block ?_
      refine KC.region ?_
      refine KO.pv (PV.move rfl) rfl rfl ?_
      refine KO.buildSliceM m16 el22_B9 ez3_B9 rfl rfl (show _ = some [.int .i64 (-1)] from rfl) rfl rfl fun H18 m19 => ?_
      refine KO.appendC (C := (EI .i64)) m19 (i := 1) rfl el22_B9 ez3_B9 sb3_B9 un22_B9 rfl rfl (newElems_row1 (C := (EI .i64)) (y := (-1)) (m19.row (i := 0) rfl) rfl) rfl (by first | omega | (simp only [splice, List.length_append, List.length_set, List.length_replicate, List.length_map, List.length_take, List.length_drop, List.length_cons, List.length_nil] <;> omega)) rfl rfl fun a21 D22 H20 m23 => ?_
      refine KO.pv (PV.assign rfl) rfl rfl ?_
      refine KO.nil ?_
      refine KC.region ?_
      refine KO.pv (PV.add rfl rfl (wrap64 (by omega) (by omega))) rfl rfl ?_
      refine KO.pv (PV.move rfl) rfl rfl ?_
      refine KO.nil ?_
      exact ⟨_, _, (by omega), (.cons rfl (.cons rfl (.cons rfl (.cons rfl (.cons rfl (.cons rfl .nil)))))), a21, (n7 + 1), (l7 ++ [(-1)]), D22, (x17 + 1), rfl, rfl, (m23.pick [1, 2, 3] (by decide) rfl), (by first | omega | assumption | (constructor <;> omega)), (by first | omega | (simp only [splice, List.length_append, List.length_set, List.length_replicate, List.length_map, List.length_take, List.length_drop, List.length_cons, List.length_nil] <;> omega)), (all_app hw_l7 (all_one (wf64 (by omega) (by omega)))), (all_app hlq (all_one (by first | omega | assumption | (constructor <;> omega)))), (by first | omega | (simp only [splice, List.length_append, List.length_set, List.length_replicate, List.length_map, List.length_take, List.length_drop, List.length_cons, List.length_nil] <;> omega))⟩
    · refine KC.exit ?_
      refine KC.seq ?_
      refine KC.region ?_
      refine KO.loadN ag80_B9 sz80_B9 rfl (m16.row (i := 2) rfl) (takeN_of (p := [.int .i64 ci, .slice a_cL n_cL c_cL, .slice a_cA n_cA c_cA, .slice a_cB n_cB c_cB, .slice a_cC n_cC c_cC]) rfl rfl) rfl rfl ?_
      refine KO.pv (PV.move rfl) rfl rfl ?_
      refine KO.pv (PV.move rfl) rfl rfl ?_
      refine KO.call rfl rfl rfl rfl (un_made A15 ci a_cL n_cL c_cL _ a_cA n_cA c_cA _ a_cB n_cB c_cB _ a_cC n_cC c_cC _ n a7 n7 n7 _ (wrap64 (by omega) (by omega)) (V.mem m16 h_cL) (V.mem m16 h_cA) (V.mem m16 h_cB) (V.mem m16 h_cC) (wrap64 (by omega) (by omega)) (m16.vlst (i := 0) rfl hw_l7 (by first | omega | (simp only [splice, List.length_append, List.length_set, List.length_replicate, List.length_map, List.length_take, List.length_drop, List.length_cons, List.length_nil] <;> omega))) (by first | omega | assumption) (by first | omega | assumption) (by first | omega | assumption)) fun v24 H24 q24 => ?_
      obtain ⟨v24, a124, n124, c124, v124, D124, l124, E124, a224, n224, c224, v224, D224, l224, E224, e24, hv24, mc24, p24_0, p24_1, p24_2⟩ := q24
      dsimp only at hv24 mc24
      subst hv24
      have m25 := m16.seq mc24
      refine KO.pv (PV.extract rfl rfl) rfl rfl ?_
      refine KO.pv (PV.extract rfl rfl) rfl rfl ?_
      refine KO.storeM m25 (i := 5) rfl sz82_B9 rfl rfl rfl (show 0 + 3 ≤ 3 by decide) (show _ = [.int .i64 v24, .slice a124 n124 c124, .slice a224 n224 c224] from rfl) rfl fun H26 m27 => ?_
      refine KO.pv (PV.assign rfl) rfl rfl ?_
      refine KO.nil ?_
      exact KC.ret ⟨rfl, _, (.cell rfl (ldN (m27.row (i := 5) rfl) ag82_B9 sz82_B9 rfl rfl) (.tmp rfl .nil)), v24, a124, n124, c124, v124, D124, l124, E124, a224, n224, c224, v224, D224, l224, E224, e24, rfl, m27.pick [0, 1, 2, 3] (by decide) rfl, (by first | omega | (intro h; omega) | (simp only [List.length_nil, true_and, and_true, or_true, true_or] <;> omega)), (by first | omega | (intro h; omega) | (simp only [List.length_nil, true_and, and_true, or_true, true_or] <;> omega) | exact all_nil | assumption), (by first | omega | (intro h; omega) | (simp only [List.length_nil, true_and, and_true, or_true, true_or] <;> omega) | exact all_nil | assumption)⟩
theorem un_value (H : AHeap) (l : Int) (a_m : Option Addr) (n_m c_m : Nat) (m : List Bool) (w_l : IntKind.i64.wrap l = l) (h_m : V EB H a_m n_m c_m m) (h1 : l ≤ 2 * n_m + 1) : WF E0 104 [.int .i64 l, .slice a_m n_m c_m] H fun q => ∃ (o : Bool), q.1 = .bool o ∧ Mem [] H q.2 [] := by
  obtain ⟨lo_l, hi_l⟩ := rangei64 w_l
  obtain ⟨len_m, cap_m, max_m, wf_m⟩ := h_m.len
  have m0 : Mem [] H H [] := Mem.start
  refine WF.kg Tryz.func104 rfl rfl ?_
  refine KC.seq ?_
  refine KC.region ?_
  refine KO.pv (PV.assign rfl) rfl rfl ?_
  refine KO.nil ?_
  refine KC.seq ?_
  refine KC.seq ?_
  refine KC.region ?_
  refine KO.pv (PV.move rfl) rfl rfl ?_
  refine KO.pv (PV.lssD rfl rfl rfl) rfl rfl ?_
  refine KO.nil ?_
  refine KC.condD rfl (fun h1 => ?_) (fun h1 => ?_)
  · refine KC.seq ?_
    refine KC.region ?_
    refine KO.pv (PV.move rfl) rfl rfl ?_
    refine KO.pv (PV.eqlD rfl rfl rfl) rfl rfl ?_
    refine KO.pv (PV.assign rfl) rfl rfl ?_
    refine KO.nil ?_
    exact KC.ret ⟨rfl, _, (.tmp rfl .nil), (decide (l = 1)), rfl, m0.pick [] (by decide) rfl⟩
  · refine KC.skip ?_
    refine KC.seq ?_
    refine KC.region ?_
    refine KO.pv (PV.move rfl) rfl rfl ?_
    refine KO.pv (PV.move rfl) rfl rfl ?_
    refine KO.pv (PV.quo rfl rfl (by omega) (quoN (by omega) (by omega))) rfl rfl ?_
    refine KO.pv (PV.sub rfl rfl (wrap64 (by omega) (by omega))) rfl rfl ?_
    obtain ⟨b2, o2, p2, r2, e2, ha2, hb2, hr2, hx2, hw2, hc2, ht2⟩ := V.at_ h_m (z := ((l / 2) - 1)) (by omega) (by omega)
    have hc2_0 : r2.cs[o2 + (((l / 2) - 1)).toNat * 1 + 0]? = some (.bool e2) := hc2 0 (by decide)
    refine KO.pv (PV.indexAddrZ un46_B9 sz4_B9 rfl ha2 rfl (by omega) (by omega)) rfl rfl ?_
    refine KO.load1 ag4_B9 rfl (m0.row0 hb2 hr2) hc2_0 rfl rfl ?_
    refine KO.pv (PV.move rfl) rfl rfl ?_
    refine KO.pv (PV.rem rfl rfl (by omega) (remN (by omega) (by omega))) rfl rfl ?_
    refine KO.pv (PV.eqlD rfl rfl rfl) rfl rfl ?_
    obtain ⟨b3, qb3⟩ : ∃ b : Bool, (e2 == (decide ((l % 2) = 0))) = b := ⟨_, rfl⟩
    refine KO.pv (PV.beqB un4_B9 rfl rfl qb3) rfl rfl ?_
    refine KO.pv (PV.assign rfl) rfl rfl ?_
    refine KO.nil ?_
    exact KC.ret ⟨rfl, _, (.tmp rfl .nil), b3, rfl, m0.pick [] (by decide) rfl⟩
theorem un_Trace (H : AHeap) (ci : Int) (a_cL : Option Addr) (n_cL c_cL : Nat) (cL : List (Int × Int)) (a_cA : Option Addr) (n_cA c_cA : Nat) (cA : List (Int × Int)) (a_cB : Option Addr) (n_cB c_cB : Nat) (cB : List Int) (a_cC : Option Addr) (n_cC c_cC : Nat) (cC : List Int) (xv : Int) (a_xL : Option Addr) (n_xL c_xL : Nat) (v_xL : List (Option Addr × Nat × Nat)) (xL : List (List Int)) (a_xC : Option Addr) (n_xC c_xC : Nat) (v_xC : List (Option Addr × Nat × Nat)) (xC : List (List Int)) (a_m : Option Addr) (n_m c_m : Nat) (m : List Bool) (w_ci : IntKind.i64.wrap ci = ci) (h_cL : V EP H a_cL n_cL c_cL cL) (h_cA : V EP H a_cA n_cA c_cA cA) (h_cB : V (EI .i64) H a_cB n_cB c_cB cB) (h_cC : V (EI .i64) H a_cC n_cC c_cC cC) (w_xv : IntKind.i64.wrap xv = xv) (h_xL : V ES H a_xL n_xL c_xL v_xL) (i_xL : VV (EI .i64) H v_xL xL) (h_xC : V ES H a_xC n_xC c_xC v_xC) (i_xC : VV (EI .i64) H v_xC xC) (h_m : V EB H a_m n_m c_m m) (hxn : n_xL ≤ 63000) : WF E0 61 [.agg #[.int .i64 ci, .slice a_cL n_cL c_cL, .slice a_cA n_cA c_cA, .slice a_cB n_cB c_cB, .slice a_cC n_cC c_cC], .agg #[.int .i64 xv, .slice a_xL n_xL c_xL, .slice a_xC n_xC c_xC], .slice a_m n_m c_m] H fun q => ∃ (a1 : Option Addr) (n1 : Nat) (c1 : Nat) (l1 : List Bool) (D1 : List Nat) (a2 : Option Addr) (n2 : Nat) (c2 : Nat) (v2 : List (Option Addr × Nat × Nat)) (D2 : List Nat) (l2 : List (List Bool)) (E2 : List Nat) (e : Int), q.1 = .tuple #[.agg #[.slice a1 n1 c1, .slice a2 n2 c2], .int .i64 e] ∧ Mem [] H q.2 [R.own EB a1 n1 c1 l1 D1, R.own ES a2 n2 c2 v2 D2, R.inn EB v2 l2 E2] ∧ (n1 ≤ 1000 ∧ n2 ≤ 63000) ∧ (∀ c ∈ l2, c.length ≤ 1000) := by
  obtain ⟨lo_ci, hi_ci⟩ := rangei64 w_ci
  obtain ⟨len_cL, cap_cL, max_cL, wf_cL⟩ := h_cL.len
  obtain ⟨len_cA, cap_cA, max_cA, wf_cA⟩ := h_cA.len
  obtain ⟨len_cB, cap_cB, max_cB, wf_cB⟩ := h_cB.len
  obtain ⟨len_cC, cap_cC, max_cC, wf_cC⟩ := h_cC.len
  obtain ⟨lo_xv, hi_xv⟩ := rangei64 w_xv
  obtain ⟨len_xL, cap_xL, max_xL, wf_xL⟩ := h_xL.len
  have len2_xL := i_xL.1
  have len3_xL : xL.length = n_xL := by omega
  obtain ⟨len_xC, cap_xC, max_xC, wf_xC⟩ := h_xC.len
  have len2_xC := i_xC.1
  have len3_xC : xC.length = n_xC := by omega
  obtain ⟨len_m, cap_m, max_m, wf_m⟩ := h_m.len
  have m0 : Mem [] H H [] := Mem.start
  refine WF.kg Tryz.func61 rfl rfl ?_
  refine KC.seq ?_
  refine KC.region ?_
  refine KO.boxM m0 rfl rfl (show _ = [.int .i64 ci, .slice a_cL n_cL c_cL, .slice a_cA n_cA c_cA, .slice a_cB n_cB c_cB, .slice a_cC n_cC c_cC] from rfl) rfl rfl fun H1 m2 => ?_
  refine KO.boxM m2 rfl rfl (show _ = [.int .i64 xv, .slice a_xL n_xL c_xL, .slice a_xC n_xC c_xC] from rfl) rfl rfl fun H3 m4 => ?_
  refine KO.allocM m4 zt107_B9 rfl rfl fun H5 m6 => ?_
  refine KO.pv (PV.assign rfl) rfl rfl ?_
  refine KO.nil ?_
  refine KC.seq ?_
  refine KC.region ?_
  refine KO.loadN ag80_B9 sz80_B9 rfl (m6.row (i := 2) rfl) (takeN_of (p := [.int .i64 ci, .slice a_cL n_cL c_cL, .slice a_cA n_cA c_cA, .slice a_cB n_cB c_cB, .slice a_cC n_cC c_cC]) rfl rfl) rfl rfl ?_
  refine KO.call rfl rfl rfl rfl (gates_Vars H5 ci a_cL n_cL c_cL _ a_cA n_cA c_cA _ a_cB n_cB c_cB _ a_cC n_cC c_cC _ (wrap64 (by omega) (by omega)) (V.mem m6 h_cL) (V.mem m6 h_cA) (V.mem m6 h_cB) (V.mem m6 h_cC)) fun v7 H7 q7 => ?_
  obtain ⟨n7, e7, hv7, mc7, p7_0, p7_1⟩ := q7
  dsimp only at hv7 mc7
  subst hv7
  have m8 := m6.seq mc7
  refine KO.pv (PV.move rfl) rfl rfl ?_
  refine KO.pv (PV.extract rfl rfl) rfl rfl ?_
  refine KO.pv (PV.extract rfl rfl) rfl rfl ?_
  refine KO.pv (PV.assign rfl) rfl rfl ?_
  refine KO.pv (PV.assign rfl) rfl rfl ?_
  refine KO.nil ?_
  refine KC.seq ?_
  refine KC.seq ?_
  refine KC.region ?_
  refine KO.pv (PV.move rfl) rfl rfl ?_
  refine KO.pv (PV.neqD rfl rfl rfl) rfl rfl ?_
  refine KO.nil ?_
  refine KC.condD rfl (fun h9 => ?_) (fun h9 => ?_)
  · refine KC.seq ?_
    refine KC.region ?_
    refine KO.pv (PV.build rfl bl107__B9) rfl rfl ?_
    refine KO.pv (PV.move rfl) rfl rfl ?_
    refine KO.storeM m8 (i := 0) rfl sz107_B9 rfl rfl rfl (show 0 + 2 ≤ 2 by decide) (show _ = [.slice none 0 0, .slice none 0 0] from rfl) rfl fun H10 m11 => ?_
    refine KO.pv (PV.assign rfl) rfl rfl ?_
    refine KO.nil ?_
    have m12 := m11.ownNil (C := EB)
    have m13 := m12.ownNil (C := ES)
    have m14 := m13.innNil (C := EB)
    exact KC.ret ⟨rfl, _, (.cell rfl (ldN (m11.row (i := 0) rfl) ag107_B9 sz107_B9 rfl rfl) (.tmp rfl .nil)), none, 0, 0, [], [], none, 0, 0, [], [], [], [], e7, rfl, m14.pick [2, 1, 0] (by decide) rfl, (by first | omega | (intro h; omega) | (simp only [List.length_nil, true_and, and_true, or_true, true_or] <;> omega)), (by first | omega | (intro h; omega) | (simp only [List.length_nil, true_and, and_true, or_true, true_or] <;> omega) | exact all_nil | assumption)⟩
  · have p7_0t := p7_0 (by omega)
    obtain ⟨p7_0s, p7_0u⟩ := id p7_0t
    obtain ⟨p7_0_i0, p7_0_al, p7_0_b, p7_0_c, p7_0_hb, p7_0_hc, p7_0_hl, p7_0_ha⟩ := id p7_0s
    refine KC.skip ?_
    refine KC.seq ?_
    refine KC.seq ?_
    refine KC.region ?_
    refine KO.loadN ag82_B9 sz82_B9 rfl (m8.row (i := 1) rfl) (takeN_of (p := [.int .i64 xv, .slice a_xL n_xL c_xL, .slice a_xC n_xC c_xC]) rfl rfl) rfl rfl ?_
    refine KO.call rfl rfl rfl rfl (ts_Check H7 xv a_xL n_xL c_xL _ _ a_xC n_xC c_xC _ _ (wrap64 (by omega) (by omega)) (V.mem m8 h_xL) (VV.mem m8 i_xL) (V.mem m8 h_xC) (VV.mem m8 i_xC)) fun v15 H15 q15 => ?_
    obtain ⟨e15, hv15, mc15, p15_0, p15_1⟩ := q15
    dsimp only at hv15 mc15
    subst hv15
    have m16 := m8.seq mc15
    refine KO.pv (PV.assign rfl) rfl rfl ?_
    refine KO.nil ?_
    refine KC.seq ?_
    refine KC.region ?_
    refine KO.pv (PV.move rfl) rfl rfl ?_
    refine KO.pv (PV.neqD rfl rfl rfl) rfl rfl ?_
    refine KO.nil ?_
    refine KC.condD rfl (fun h17 => ?_) (fun h17 => ?_)
    · refine KC.seq ?_
      refine KC.region ?_
      refine KO.pv (PV.build rfl bl107__B9) rfl rfl ?_
      refine KO.pv (PV.move rfl) rfl rfl ?_
      refine KO.storeM m16 (i := 0) rfl sz107_B9 rfl rfl rfl (show 0 + 2 ≤ 2 by decide) (show _ = [.slice none 0 0, .slice none 0 0] from rfl) rfl fun H18 m19 => ?_
      refine KO.pv (PV.assign rfl) rfl rfl ?_
      refine KO.nil ?_
      have m20 := m19.ownNil (C := EB)
      have m21 := m20.ownNil (C := ES)
      have m22 := m21.innNil (C := EB)
      exact KC.ret ⟨rfl, _, (.cell rfl (ldN (m19.row (i := 0) rfl) ag107_B9 sz107_B9 rfl rfl) (.tmp rfl .nil)), none, 0, 0, [], [], none, 0, 0, [], [], [], [], e15, rfl, m22.pick [2, 1, 0] (by decide) rfl, (by first | omega | (intro h; omega) | (simp only [List.length_nil, true_and, and_true, or_true, true_or] <;> omega)), (by first | omega | (intro h; omega) | (simp only [List.length_nil, true_and, and_true, or_true, true_or] <;> omega) | exact all_nil | assumption)⟩
    · have p15_1t := p15_1 (by omega)
      obtain ⟨hkl, hxv0, hxv1⟩ := p15_1 (by omega)
      refine KC.skip ?_
      refine KC.seq ?_
      refine KC.seq ?_
      refine KC.region ?_
      refine KO.pv (PV.fieldAddr fo82_1_B9 rfl) rfl rfl ?_
      refine KO.load1 ag25_B9 rfl (m16.row (i := 1) rfl) rfl rfl rfl ?_
      refine KO.pv (PV.len un25_B9 rfl) rfl rfl ?_
      refine KO.pv (PV.eqlD rfl rfl rfl) rfl rfl ?_
      refine KO.nil ?_
      refine KC.condD rfl (fun h23 => ?_) (fun h23 => ?_)
      · refine KC.seq ?_
        refine KC.region ?_
        refine KO.pv (PV.build rfl bl107__B9) rfl rfl ?_
        refine KO.storeM m16 (i := 0) rfl sz107_B9 rfl rfl rfl (show 0 + 2 ≤ 2 by decide) (show _ = [.slice none 0 0, .slice none 0 0] from rfl) rfl fun H24 m25 => ?_
        refine KO.pv (PV.assign rfl) rfl rfl ?_
        refine KO.nil ?_
        have m26 := m25.ownNil (C := EB)
        have m27 := m26.ownNil (C := ES)
        have m28 := m27.innNil (C := EB)
        exact KC.ret ⟨rfl, _, (.cell rfl (ldN (m25.row (i := 0) rfl) ag107_B9 sz107_B9 rfl rfl) (.tmp rfl .nil)), none, 0, 0, [], [], none, 0, 0, [], [], [], [], 8, rfl, m28.pick [2, 1, 0] (by decide) rfl, (by first | omega | (intro h; omega) | (simp only [List.length_nil, true_and, and_true, or_true, true_or] <;> omega)), (by first | omega | (intro h; omega) | (simp only [List.length_nil, true_and, and_true, or_true, true_or] <;> omega) | exact all_nil | assumption)⟩
      · refine KC.skip ?_
        refine KC.seq ?_
        refine KC.region ?_
        refine KO.pv (PV.fieldAddr fo80_0_B9 rfl) rfl rfl ?_
        refine KO.load1 ag3_B9 rfl (m16.row (i := 2) rfl) rfl rfl rfl ?_
        refine KO.pv (PV.add rfl rfl (wrap64 (by omega) (by omega))) rfl rfl ?_
        refine KO.pv (PV.assign rfl) rfl rfl ?_
        refine KO.nil ?_
        refine KC.seq ?_
        refine KC.seq ?_
        refine KC.region ?_
        refine KO.pv (PV.fieldAddr fo82_1_B9 rfl) rfl rfl ?_
        refine KO.load1 ag25_B9 rfl (m16.row (i := 1) rfl) rfl rfl rfl ?_
        refine KO.pv (PV.len un25_B9 rfl) rfl rfl ?_
        refine KO.pv (PV.move rfl) rfl rfl ?_
        refine KO.nil ?_
        refine KC.block ?_
        refine KC.sub (l' := [(2, .slice a_m n_m c_m), (3, .pointer (some ⟨H.next, 0, none⟩)), (4, .pointer (some ⟨H1.next, 0, none⟩)), (6, .pointer (some ⟨H3.next, 0, none⟩)), (8, .int .i64 n7), (11, .int .i64 (1 + ci)), (45, .slice a_xL n_xL c_xL), (46, .int .i64 (n_xL : Int)), (47, .int .i64 0)]) (.cons rfl (.cons rfl (.cons rfl (.cons rfl (.cons rfl (.cons rfl (.cons rfl (.cons rfl (.cons rfl .nil))))))))) ?_
        refine KC.loopN (fun kq lq A => ∃ (x47 : Int), kq = ((n_xL : Int) - x47).toNat ∧ lq = [(2, .slice a_m n_m c_m), (3, .pointer (some ⟨H.next, 0, none⟩)), (4, .pointer (some ⟨H1.next, 0, none⟩)), (6, .pointer (some ⟨H3.next, 0, none⟩)), (8, .int .i64 n7), (11, .int .i64 (1 + ci)), (45, .slice a_xL n_xL c_xL), (46, .int .i64 (n_xL : Int)), (47, .int .i64 x47)] ∧ Mem [] H A [R.row H3.next 107 true [.slice none 0 0, .slice none 0 0], R.row H1.next 82 true [.int .i64 xv, .slice a_xL n_xL c_xL, .slice a_xC n_xC c_xC], R.row H.next 80 true [.int .i64 ci, .slice a_cL n_cL c_cL, .slice a_cA n_cA c_cA, .slice a_cB n_cB c_cB, .slice a_cC n_cC c_cC]] ∧ (0 ≤ x47 ∧ x47 ≤ (n_xL : Int)) ∧ (Ahead xL x47 fun _ c => (c.length : Int) = n7 + 1)) ?_ (((n_xL : Int) - 0).toNat) ⟨0, rfl, rfl, (m16.pick [0, 1, 2] (by decide) rfl), (by first | omega | assumption | (constructor <;> omega)), Ahead.zero⟩
        rintro kq lq A29 ⟨x47, rfl, rfl, m30, hr11, hrl⟩
        refine KC.seq ?_
        refine KC.region ?_
        refine KO.pv (PV.lssD rfl rfl rfl) rfl rfl ?_
        refine KO.nil ?_
        refine KC.seq ?_
        refine KC.condD rfl (fun h31 => ?_) (fun h31 => ?_)
        · refine KC.skip ?_
          refine KC.seq ?_
          refine KC.block ?_
          refine KC.seq ?_
          refine KC.region ?_
          refine KO.pv (PV.move rfl) rfl rfl ?_
          obtain ⟨b32, o32, p32, r32, e32, ha32, hb32, hr32, hx32, hw32, hc32, ht32⟩ := V.at_ h_xL (z := x47) (by omega) (by omega)
          have hc32_0 : r32.cs[o32 + (x47).toNat * 1 + 0]? = some (.slice e32.1 e32.2.1 e32.2.2) := hc32 0 (by decide)
          obtain ⟨xs32, hxs32, hV32⟩ := VV.at_ i_xL hx32
          obtain ⟨len32, cap32, max32, wf32⟩ := hV32.len
          have hkl32 := hkl _ (List.mem_of_getElem? hxs32)
          refine KO.pv (PV.indexAddrZ un25_B9 sz22_B9 rfl ha32 rfl (by omega) (by omega)) rfl rfl ?_
          refine KO.load1 ag22_B9 rfl (m30.row0 hb32 hr32) hc32_0 rfl rfl ?_
          refine KO.pv (PV.assign rfl) rfl rfl ?_
          refine KO.pv (PV.assign rfl) rfl rfl ?_
          refine KO.nil ?_
          refine KC.seq ?_
          refine KC.seq ?_
          refine KC.region ?_
          refine KO.pv (PV.move rfl) rfl rfl ?_
          refine KO.pv (PV.len un22_B9 rfl) rfl rfl ?_
          refine KO.pv (PV.move rfl) rfl rfl ?_
          refine KO.pv (PV.add rfl rfl (wrap64 (by omega) (by omega))) rfl rfl ?_
          refine KO.pv (PV.neqD rfl rfl rfl) rfl rfl ?_
          refine KO.nil ?_
          refine KC.condD rfl (fun h33 => ?_) (fun h33 => ?_)
          · refine KC.seq ?_
            refine KC.region ?_
            refine KO.pv (PV.build rfl bl107__B9) rfl rfl ?_
            refine KO.storeM m30 (i := 0) rfl sz107_B9 rfl rfl rfl (show 0 + 2 ≤ 2 by decide) (show _ = [.slice none 0 0, .slice none 0 0] from rfl) rfl fun H34 m35 => ?_
            refine KO.pv (PV.assign rfl) rfl rfl ?_
            refine KO.nil ?_
            have m36 := m35.ownNil (C := EB)
            have m37 := m36.ownNil (C := ES)
            have m38 := m37.innNil (C := EB)
            exact KC.ret ⟨rfl, _, (.cell rfl (ldN (m35.row (i := 0) rfl) ag107_B9 sz107_B9 rfl rfl) (.tmp rfl .nil)), none, 0, 0, [], [], none, 0, 0, [], [], [], [], 8, rfl, m38.pick [2, 1, 0] (by decide) rfl, (by first | omega | (intro h; omega) | (simp only [List.length_nil, true_and, and_true, or_true, true_or] <;> omega)), (by first | omega | (intro h; omega) | (simp only [List.length_nil, true_and, and_true, or_true, true_or] <;> omega) | exact all_nil | assumption)⟩
          · refine KC.skip ?_
            refine KC.seq ?_
            refine KC.region ?_
            refine KO.pv (PV.assign rfl) rfl rfl ?_
            refine KO.nil ?_
            refine KC.block ?_
            refine KC.sub (l' := [(2, .slice a_m n_m c_m), (3, .pointer (some ⟨H.next, 0, none⟩)), (4, .pointer (some ⟨H1.next, 0, none⟩)), (6, .pointer (some ⟨H3.next, 0, none⟩)), (8, .int .i64 n7), (11, .int .i64 (1 + ci)), (12, .int .i64 x47), (13, .slice e32.1 e32.2.1 e32.2.2), (14, .int .i64 1), (45, .slice a_xL n_xL c_xL), (46, .int .i64 (n_xL : Int)), (47, .int .i64 x47)]) (.cons rfl (.cons rfl (.cons rfl (.cons rfl (.cons rfl (.cons rfl (.cons rfl (.cons rfl (.cons rfl (.cons rfl (.cons rfl (.cons rfl .nil)))))))))))) ?_
            refine KC.loopN (fun kq lq A => ∃ (x14 : Int), kq = ((1 + ci) + n_cL - x14).toNat ∧ lq = [(2, .slice a_m n_m c_m), (3, .pointer (some ⟨H.next, 0, none⟩)), (4, .pointer (some ⟨H1.next, 0, none⟩)), (6, .pointer (some ⟨H3.next, 0, none⟩)), (8, .int .i64 n7), (11, .int .i64 (1 + ci)), (12, .int .i64 x47), (13, .slice e32.1 e32.2.1 e32.2.2), (14, .int .i64 x14), (45, .slice a_xL n_xL c_xL), (46, .int .i64 (n_xL : Int)), (47, .int .i64 x47)] ∧ Mem [] H A [R.row H3.next 107 true [.slice none 0 0, .slice none 0 0], R.row H1.next 82 true [.int .i64 xv, .slice a_xL n_xL c_xL, .slice a_xC n_xC c_xC], R.row H.next 80 true [.int .i64 ci, .slice a_cL n_cL c_cL, .slice a_cA n_cA c_cA, .slice a_cB n_cB c_cB, .slice a_cC n_cC c_cC]] ∧ (1 ≤ x14 ∧ x14 ≤ (1 + ci) + n_cL)) ?_ (((1 + ci) + n_cL - 1).toNat) ⟨1, rfl, rfl, (m30.pick [0, 1, 2] (by decide) rfl), (by first | omega | (simp only [splice, List.length_append, List.length_set, List.length_replicate, List.length_map, List.length_take, List.length_drop, List.length_cons, List.length_nil] <;> omega))⟩
            rintro kq lq A39 ⟨x14, rfl, rfl, m40, h14⟩
            refine KC.seq ?_
            refine KC.seq ?_
            refine KC.region ?_
            refine KO.pv (PV.move rfl) rfl rfl ?_
            refine KO.pv (PV.move rfl) rfl rfl ?_
            refine KO.pv (PV.fieldAddr fo80_1_B9 rfl) rfl rfl ?_
            refine KO.load1 ag77_B9 rfl (m40.row (i := 2) rfl) rfl rfl rfl ?_
            refine KO.pv (PV.len un77_B9 rfl) rfl rfl ?_
            refine KO.pv (PV.add rfl rfl (wrap64 (by omega) (by omega))) rfl rfl ?_
            refine KO.pv (PV.lssD rfl rfl rfl) rfl rfl ?_
            refine KO.nil ?_
            refine KC.condD rfl (fun h41 => ?_) (fun h41 => ?_)
            · refine KC.skip ?_
              refine KC.seq ?_
              refine KC.block ?_
              refine KC.seq ?_
              refine KC.region ?_
              refine KO.pv (PV.move rfl) rfl rfl ?_
              refine KO.pv (PV.move rfl) rfl rfl ?_
              obtain ⟨b42, o42, p42, r42, e42, ha42, hb42, hr42, hx42, hw42, hc42, ht42⟩ := V.at_ hV32 (z := x14) (by omega) (by omega)
              have hc42_0 : r42.cs[o42 + (x14).toNat * 1 + 0]? = some (.int .i64 e42) := hc42 0 (by decide)
              have hw42 : IntKind.i64.wrap e42 = e42 := hw42
              obtain ⟨lo42, hi42⟩ := rangei64 hw42
              have hkli42 := hkl32 _ (List.mem_of_getElem? hx42)
              refine KO.pv (PV.indexAddrZ un22_B9 sz3_B9 rfl ha42 rfl (by omega) (by omega)) rfl rfl ?_
              refine KO.load1 ag3_B9 rfl (m40.row0 hb42 hr42) hc42_0 rfl rfl ?_
              by_cases h43 : e42 < 0
              · refine KO.pv (PV.lssD rfl rfl (decide_eq_true h43)) rfl rfl ?_
                refine KO.pv (PV.move rfl) rfl rfl ?_
                refine KO.pv (PV.move rfl) rfl rfl ?_
                refine KO.pv (PV.move rfl) rfl rfl ?_
                by_cases h44 : x14 < (1 + ci)
                · refine KO.pv (PV.lssD rfl rfl (decide_eq_true h44)) rfl rfl ?_
                  refine KO.pv (PV.move rfl) rfl rfl ?_
                  refine KO.no rfl rfl rfl ?_
                  refine KO.no rfl rfl rfl ?_
                  refine KO.pv (PV.pickT rfl rfl rfl) rfl rfl ?_
                  refine KO.pv (PV.pickT rfl rfl rfl) rfl rfl ?_
                  refine KO.nil ?_
                  refine KC.condT rfl ?_
                  refine KC.seq ?_
                  refine KC.region ?_
                  refine KO.pv (PV.build rfl bl107__B9) rfl rfl ?_
                  refine KO.storeM m40 (i := 0) rfl sz107_B9 rfl rfl rfl (show 0 + 2 ≤ 2 by decide) (show _ = [.slice none 0 0, .slice none 0 0] from rfl) rfl fun H45 m46 => ?_
                  refine KO.pv (PV.assign rfl) rfl rfl ?_
                  refine KO.nil ?_
                  have m47 := m46.ownNil (C := EB)
                  have m48 := m47.ownNil (C := ES)
                  have m49 := m48.innNil (C := EB)
                  exact KC.ret ⟨rfl, _, (.cell rfl (ldN (m46.row (i := 0) rfl) ag107_B9 sz107_B9 rfl rfl) (.tmp rfl .nil)), none, 0, 0, [], [], none, 0, 0, [], [], [], [], 8, rfl, m49.pick [2, 1, 0] (by decide) rfl, (by first | omega | (intro h; omega) | (simp only [List.length_nil, true_and, and_true, or_true, true_or] <;> omega)), (by first | omega | (intro h; omega) | (simp only [List.length_nil, true_and, and_true, or_true, true_or] <;> omega) | exact all_nil | assumption)⟩
                · refine KO.pv (PV.lssD rfl rfl (decide_eq_false h44)) rfl rfl ?_
                  refine KO.pv (PV.move rfl) rfl rfl ?_
                  refine KO.pv (PV.move rfl) rfl rfl ?_
                  refine KO.pv (PV.eqlD rfl rfl rfl) rfl rfl ?_
                  refine KO.pv (PV.pickF rfl rfl rfl) rfl rfl ?_
                  refine KO.pv (PV.pickT rfl rfl rfl) rfl rfl ?_
                  refine KO.nil ?_
                  refine KC.condD rfl (fun h50 => ?_) (fun h50 => ?_)
                  · refine KC.seq ?_
                    refine KC.region ?_
                    refine KO.pv (PV.build rfl bl107__B9) rfl rfl ?_
                    refine KO.storeM m40 (i := 0) rfl sz107_B9 rfl rfl rfl (show 0 + 2 ≤ 2 by decide) (show _ = [.slice none 0 0, .slice none 0 0] from rfl) rfl fun H51 m52 => ?_
                    refine KO.pv (PV.assign rfl) rfl rfl ?_
                    refine KO.nil ?_
                    have m53 := m52.ownNil (C := EB)
                    have m54 := m53.ownNil (C := ES)
                    have m55 := m54.innNil (C := EB)
                    exact KC.ret ⟨rfl, _, (.cell rfl (ldN (m52.row (i := 0) rfl) ag107_B9 sz107_B9 rfl rfl) (.tmp rfl .nil)), none, 0, 0, [], [], none, 0, 0, [], [], [], [], 8, rfl, m55.pick [2, 1, 0] (by decide) rfl, (by first | omega | (intro h; omega) | (simp only [List.length_nil, true_and, and_true, or_true, true_or] <;> omega)), (by first | omega | (intro h; omega) | (simp only [List.length_nil, true_and, and_true, or_true, true_or] <;> omega) | exact all_nil | assumption)⟩
                  · refine KC.skip ?_
                    refine KC.region ?_
                    refine KO.pv (PV.move rfl) rfl rfl ?_
                    refine KO.pv (PV.add rfl rfl (wrap64 (by omega) (by omega))) rfl rfl ?_
                    refine KO.pv (PV.assign rfl) rfl rfl ?_
                    refine KO.nil ?_
                    exact ⟨_, _, (by omega), (.cons rfl (.cons rfl (.cons rfl (.cons rfl (.cons rfl (.cons rfl (.cons rfl (.cons rfl (.cons rfl (.cons rfl (.cons rfl (.cons rfl .nil)))))))))))), (x14 + 1), rfl, rfl, (m40.pick [0, 1, 2] (by decide) rfl), (by first | omega | (simp only [splice, List.length_append, List.length_set, List.length_replicate, List.length_map, List.length_take, List.length_drop, List.length_cons, List.length_nil] <;> omega))⟩
              · refine KO.pv (PV.lssD rfl rfl (decide_eq_false h43)) rfl rfl ?_
                refine KO.pv (PV.move rfl) rfl rfl ?_
                refine KO.no rfl rfl rfl ?_
                refine KO.no rfl rfl rfl ?_
                refine KO.no rfl rfl rfl ?_
                refine KO.no rfl rfl rfl ?_
                refine KO.no rfl rfl rfl ?_
                refine KO.no rfl rfl rfl ?_
                refine KO.no rfl rfl rfl ?_
                refine KO.pv (PV.pickF rfl rfl rfl) rfl rfl ?_
                refine KO.nil ?_
                refine KC.condF rfl ?_
                refine KC.skip ?_
                refine KC.region ?_
                refine KO.pv (PV.move rfl) rfl rfl ?_
                refine KO.pv (PV.add rfl rfl (wrap64 (by omega) (by omega))) rfl rfl ?_
                refine KO.pv (PV.assign rfl) rfl rfl ?_
                refine KO.nil ?_
                exact ⟨_, _, (by omega), (.cons rfl (.cons rfl (.cons rfl (.cons rfl (.cons rfl (.cons rfl (.cons rfl (.cons rfl (.cons rfl (.cons rfl (.cons rfl (.cons rfl .nil)))))))))))), (x14 + 1), rfl, rfl, (m40.pick [0, 1, 2] (by decide) rfl), (by first | omega | (simp only [splice, List.length_append, List.length_set, List.length_replicate, List.length_map, List.length_take, List.length_drop, List.length_cons, List.length_nil] <;> omega))⟩
            · refine KC.exit ?_
              refine KC.region ?_
              refine KO.pv (PV.add rfl rfl (wrap64 (by omega) (by omega))) rfl rfl ?_
              refine KO.pv (PV.move rfl) rfl rfl ?_
              refine KO.nil ?_
              exact ⟨_, _, (by omega), (.cons rfl (.cons rfl (.cons rfl (.cons rfl (.cons rfl (.cons rfl (.cons rfl (.cons rfl (.cons rfl .nil))))))))), (x47 + 1), rfl, rfl, (m40.pick [0, 1, 2] (by decide) rfl), (by first | omega | assumption | (constructor <;> omega)), (hrl.step hxs32 (by omega) (by omega))⟩
        · refine KC.exit ?_
          have hrl2 := hrl.mem len3_xL (by omega)
          refine KC.seq ?_
          refine KC.seq ?_
          refine KC.region ?_
          refine KO.pv (PV.move rfl) rfl rfl ?_
          refine KO.pv (PV.len un46_B9 rfl) rfl rfl ?_
          refine KO.pv (PV.fieldAddr fo82_0_B9 rfl) rfl rfl ?_
          refine KO.load1 ag3_B9 rfl (m30.row (i := 1) rfl) rfl rfl rfl ?_
          refine KO.pv (PV.neqD rfl rfl rfl) rfl rfl ?_
          refine KO.nil ?_
          refine KC.condD rfl (fun h56 => ?_) (fun h56 => ?_)
          · refine KC.seq ?_
            refine KC.region ?_
            refine KO.pv (PV.build rfl bl107__B9) rfl rfl ?_
            refine KO.storeM m30 (i := 0) rfl sz107_B9 rfl rfl rfl (show 0 + 2 ≤ 2 by decide) (show _ = [.slice none 0 0, .slice none 0 0] from rfl) rfl fun H57 m58 => ?_
            refine KO.pv (PV.assign rfl) rfl rfl ?_
            refine KO.nil ?_
            have m59 := m58.ownNil (C := EB)
            have m60 := m59.ownNil (C := ES)
            have m61 := m60.innNil (C := EB)
            exact KC.ret ⟨rfl, _, (.cell rfl (ldN (m58.row (i := 0) rfl) ag107_B9 sz107_B9 rfl rfl) (.tmp rfl .nil)), none, 0, 0, [], [], none, 0, 0, [], [], [], [], 2, rfl, m61.pick [2, 1, 0] (by decide) rfl, (by first | omega | (intro h; omega) | (simp only [List.length_nil, true_and, and_true, or_true, true_or] <;> omega)), (by first | omega | (intro h; omega) | (simp only [List.length_nil, true_and, and_true, or_true, true_or] <;> omega) | exact all_nil | assumption)⟩
          · refine KC.skip ?_
            refine KC.seq ?_
            refine KC.region ?_
            refine KO.allocM m30 zt107_B9 rfl rfl fun H62 m63 => ?_
            refine KO.nil ?_
            refine KC.seq ?_
            refine KC.seq ?_
            refine KC.region ?_
            refine KO.pv (PV.fieldAddr fo80_1_B9 rfl) rfl rfl ?_
            refine KO.load1 ag77_B9 rfl (m63.row (i := 3) rfl) rfl rfl rfl ?_
            refine KO.pv (PV.len un77_B9 rfl) rfl rfl ?_
            refine KO.pv (PV.move rfl) rfl rfl ?_
            refine KO.nil ?_
            refine KC.block ?_
            refine KC.sub (l' := [(2, .slice a_m n_m c_m), (4, .pointer (some ⟨H1.next, 0, none⟩)), (6, .pointer (some ⟨H3.next, 0, none⟩)), (11, .int .i64 (1 + ci)), (15, .pointer (some ⟨A29.next, 0, none⟩)), (91, .int .i64 (n_cL : Int)), (92, .int .i64 0)]) (.cons rfl (.cons rfl (.cons rfl (.cons rfl (.cons rfl (.cons rfl (.cons rfl .nil))))))) ?_
            have m64 := m63.lnilC EB (e := 4) none rfl
            refine KC.loopN (fun kq lq A => ∃ (x92 : Int) (a_c15_0 : Option Addr) (n_c15_0 : Nat) (l_c15_0 : List Bool) (D_c15_0 : List Nat), kq = ((n_cL : Int) - x92).toNat ∧ lq = [(2, .slice a_m n_m c_m), (4, .pointer (some ⟨H1.next, 0, none⟩)), (6, .pointer (some ⟨H3.next, 0, none⟩)), (11, .int .i64 (1 + ci)), (15, .pointer (some ⟨A29.next, 0, none⟩)), (91, .int .i64 (n_cL : Int)), (92, .int .i64 x92)] ∧ Mem [] H A [R.row A29.next 107 true [.slice a_c15_0 n_c15_0 n_c15_0, .slice none 0 0], R.row H3.next 107 true [.slice none 0 0, .slice none 0 0], R.row H1.next 82 true [.int .i64 xv, .slice a_xL n_xL c_xL, .slice a_xC n_xC c_xC], R.lst 4 1 a_c15_0 n_c15_0 (cells EB l_c15_0) D_c15_0] ∧ (0 ≤ x92 ∧ x92 ≤ (n_cL : Int)) ∧ ((n_c15_0 : Int) = x92) ∧ (l_c15_0.length = n_c15_0)) ?_ (((n_cL : Int) - 0).toNat) ⟨0, none, 0, [], [], rfl, rfl, (m64.pick [1, 2, 3, 0] (by decide) rfl), (by first | omega | assumption | (constructor <;> omega)), (by first | omega | (simp only [splice, List.length_append, List.length_set, List.length_replicate, List.length_map, List.length_take, List.length_drop, List.length_cons, List.length_nil] <;> omega)), (by first | omega | (simp only [splice, List.length_append, List.length_set, List.length_replicate, List.length_map, List.length_take, List.length_drop, List.length_cons, List.length_nil] <;> omega))⟩
            rintro kq lq A65 ⟨x92, a_c15_0, n_c15_0, l_c15_0, D_c15_0, rfl, rfl, m66, hr25, hn150, hl_l_c15_0⟩
            refine KC.seq ?_
            refine KC.region ?_
            refine KO.pv (PV.lssD rfl rfl rfl) rfl rfl ?_
            refine KO.nil ?_
            refine KC.seq ?_
            refine KC.condD rfl (fun h67 => ?_) (fun h67 => ?_)
            · refine KC.skip ?_
              refine KC.seq ?_
              refine KC.block ?_
              refine KC.seq ?_
              refine KC.region ?_
              refine KO.pv (PV.move rfl) rfl rfl ?_
              refine KO.pv (PV.assign rfl) rfl rfl ?_
              refine KO.nil ?_
              refine KC.drawG (n := 17) (anc := [0, 1, 0, 4, 12, 28, 0, 0, 192, 508, 1020, 0, 4092, 8188, 16383, 32767, 65535]) (hv := [12, 14, 16]) (ord := [2, 3, 4, 5, 6, 7, 8, 9, 10, 11, 12, 0, 1, 13, 14, 15, 16]) (by kernel_rfl) (by kernel_rfl) (by kernel_rfl) (by kernel_rfl) (by kernel_rfl) fun H68 n69 g70 => ?_
              have m71 := m66.room n69 g70 [13] (by decide) (by decide)
              refine KD.pv 4 (PV.fieldAddr fo82_1_B9 rfl) rfl rfl rfl (by kernel_rfl) rfl rfl rfl ?_
              refine KD.load 12 rfl (m71.row (i := 3) rfl) (by rw [read1 ag25_B9]; exact rfl) (pastGo (k := 1) (l := [H68]) (by kernel_rfl) rfl (pastCons ⟨_, (m71.row (i := 3) rfl), (by rw [read1 ag25_B9]; exact rfl)⟩ pastNil)) veq_sl rfl (by kernel_rfl) rfl rfl rfl ?_
              obtain ⟨b72, o72, p72, r72, e72, ha72, hb72, hr72, hx72, hw72, hc72, ht72⟩ := V.at_ h_xL (z := (0 : Int)) (by omega) (by omega)
              have hc72_0 : r72.cs[o72 + ((0 : Int)).toNat * 1 + 0]? = some (.slice e72.1 e72.2.1 e72.2.2) := hc72 0 (by decide)
              obtain ⟨xs72, hxs72, hV72⟩ := VV.at_ i_xL hx72
              obtain ⟨len72, cap72, max72, wf72⟩ := hV72.len
              have hkl72 := hkl _ (List.mem_of_getElem? hxs72)
              refine KD.pv 28 (PV.indexAddrZ un25_B9 sz22_B9 rfl ha72 rfl (by omega) (by omega)) rfl rfl rfl (by kernel_rfl) rfl rfl rfl ?_
              have hlr72 := hrl2 _ (List.mem_of_getElem? hxs72)
              refine KD.load 60 rfl (m71.row0 hb72 hr72) (by rw [read1 ag22_B9]; exact hc72_0) (pastGo (k := 1) (l := [H68]) (by kernel_rfl) rfl (pastCons ⟨_, (m71.row0 hb72 hr72), (by rw [read1 ag22_B9]; exact hc72_0)⟩ pastNil)) veq_sl rfl (by kernel_rfl) rfl rfl rfl ?_
              refine KD.pv 124 (PV.move rfl) rfl rfl rfl (by kernel_rfl) rfl rfl rfl ?_
              refine KD.pv 252 (PV.move rfl) rfl rfl rfl (by kernel_rfl) rfl rfl rfl ?_
              refine KD.pv 508 (PV.add rfl rfl (wrap64 (by omega) (by omega))) rfl rfl rfl (by kernel_rfl) rfl rfl rfl ?_
              obtain ⟨b73, o73, p73, r73, e73, ha73, hb73, hr73, hx73, hw73, hc73, ht73⟩ := V.at_ hV72 (z := ((1 + ci) + x92)) (by omega) (by omega)
              have hc73_0 : r73.cs[o73 + (((1 + ci) + x92)).toNat * 1 + 0]? = some (.int .i64 e73) := hc73 0 (by decide)
              have hw73 : IntKind.i64.wrap e73 = e73 := hw73
              obtain ⟨lo73, hi73⟩ := rangei64 hw73
              have hkli73 := hkl72 _ (List.mem_of_getElem? hx73)
              refine KD.pv 1020 (PV.indexAddrZ un22_B9 sz3_B9 rfl ha73 rfl (by omega) (by omega)) rfl rfl rfl (by kernel_rfl) rfl rfl rfl ?_
              refine KD.load 2044 rfl (m71.row0 hb73 hr73) (by rw [read1 ag3_B9]; exact hc73_0) (pastGo (k := 1) (l := [H68]) (by kernel_rfl) rfl (pastCons ⟨_, (m71.row0 hb73 hr73), (by rw [read1 ag3_B9]; exact hc73_0)⟩ pastNil)) veq_int rfl (by kernel_rfl) rfl rfl rfl ?_
              refine KD.pv 4092 (PV.move rfl) rfl rfl rfl (by kernel_rfl) rfl rfl rfl ?_
              refine KD.call 8188 rfl rfl rfl (by kernel_rfl) rfl rfl rfl (un_value H68 e73 a_m n_m c_m _ (wrap64 (by omega) (by omega)) (V.mem m71 h_m) (by first | omega | assumption)) fun v74 H74 q74 => ?_
              obtain ⟨o74, hv74, mc74⟩ := q74
              dsimp only at hv74 mc74
              subst hv74
              have m75 := m71.seq mc74
              refine KD.pv 8189 (PV.fieldAddr fo107_0_B9 rfl) rfl rfl rfl (by kernel_rfl) rfl rfl rfl ?_
              refine KD.load 8191 rfl (m75.row (i := 1) rfl) (by rw [read1 ag46_B9]; exact rfl) (pastGo (k := 2) (l := [H74, H68]) (by kernel_rfl) rfl (pastCons ⟨_, (m75.row (i := 1) rfl), (by rw [read1 ag46_B9]; exact rfl)⟩ (pastCons ⟨_, (m71.row (i := 1) rfl), (by rw [read1 ag46_B9]; exact rfl)⟩ pastNil))) veq_sl rfl (by kernel_rfl) rfl rfl rfl ?_
              refine KD.buildSliceM 16383 m75 (j := 0) rfl el46_B9 ez4_B9 rfl rfl (show _ = some [.bool o74] from rfl) rfl (by kernel_rfl) rfl rfl rfl fun H76 m77 => ?_
              refine KD.appendC 32767 (C := EB) m77 (j := 4) rfl el46_B9 ez4_B9 sb4_B9 un46_B9 rfl rfl (newElems_row1 (C := EB) (y := o74) (m77.row (i := 0) rfl) rfl) rfl (by first | omega | (simp only [splice, List.length_append, List.length_set, List.length_replicate, List.length_map, List.length_take, List.length_drop, List.length_cons, List.length_nil] <;> omega)) rfl (by kernel_rfl) rfl rfl rfl fun a79 D80 H78 m81 => ?_
              refine KD.pv 65535 (PV.fieldAddr fo107_0_B9 rfl) rfl rfl rfl (by kernel_rfl) rfl rfl rfl ?_
              refine KD.storeM 131071 m81 (j := 1) rfl sz46_B9 rfl rfl rfl (show 0 + 1 ≤ 2 by decide) (show _ = [.slice a79 (n_c15_0 + 1) (n_c15_0 + 1), .slice none 0 0] from rfl) rfl (by kernel_rfl) rfl rfl fun H82 m83 => ?_
              refine KD.nil ⟨rfl, ?_⟩
              refine KC.region ?_
              refine KO.pv (PV.add rfl rfl (wrap64 (by omega) (by omega))) rfl rfl ?_
              refine KO.pv (PV.move rfl) rfl rfl ?_
              refine KO.nil ?_
              exact ⟨_, _, (by omega), (.cons rfl (.cons rfl (.cons rfl (.cons rfl (.cons rfl (.cons rfl (.cons rfl .nil))))))), (x92 + 1), a79, (n_c15_0 + 1), (l_c15_0 ++ [o74]), D80, rfl, rfl, (m83.pick [1, 2, 3, 4] (by decide) rfl), (by first | omega | assumption | (constructor <;> omega)), (by first | omega | (simp only [splice, List.length_append, List.length_set, List.length_replicate, List.length_map, List.length_take, List.length_drop, List.length_cons, List.length_nil] <;> omega)), (by first | omega | (simp only [splice, List.length_append, List.length_set, List.length_replicate, List.length_map, List.length_take, List.length_drop, List.length_cons, List.length_nil] <;> omega))⟩
            · refine KC.exit ?_
              refine KC.seq ?_
              refine KC.seq ?_
              refine KC.region ?_
              refine KO.pv (PV.fieldAddr fo82_1_B9 rfl) rfl rfl ?_
              refine KO.load1 ag25_B9 rfl (m66.row (i := 2) rfl) rfl rfl rfl ?_
              refine KO.pv (PV.len un25_B9 rfl) rfl rfl ?_
              refine KO.pv (PV.move rfl) rfl rfl ?_
              refine KO.nil ?_
              refine KC.block ?_
              refine KC.sub (l' := [(2, .slice a_m n_m c_m), (6, .pointer (some ⟨H3.next, 0, none⟩)), (11, .int .i64 (1 + ci)), (15, .pointer (some ⟨A29.next, 0, none⟩)), (113, .slice a_xL n_xL c_xL), (114, .int .i64 (n_xL : Int)), (115, .int .i64 0)]) (.cons rfl (.cons rfl (.cons rfl (.cons rfl (.cons rfl (.cons rfl (.cons rfl .nil))))))) ?_
              have m84 := m66.lnilC ES (e := 46) none rfl
              have m85 := m84.innNil (C := EB)
              refine KC.loopN (fun kq lq A => ∃ (x115 : Int) (a_c15_1 : Option Addr) (n_c15_1 : Nat) (l_c15_1 : List (Option Addr × Nat × Nat)) (D_c15_1 : List Nat) (i_c15_1 : List (List Bool)) (E_c15_1 : List Nat), kq = ((n_xL : Int) - x115).toNat ∧ lq = [(2, .slice a_m n_m c_m), (6, .pointer (some ⟨H3.next, 0, none⟩)), (11, .int .i64 (1 + ci)), (15, .pointer (some ⟨A29.next, 0, none⟩)), (113, .slice a_xL n_xL c_xL), (114, .int .i64 (n_xL : Int)), (115, .int .i64 x115)] ∧ Mem [] H A [R.row A29.next 107 true [.slice a_c15_0 n_c15_0 n_c15_0, .slice a_c15_1 n_c15_1 n_c15_1], R.row H3.next 107 true [.slice none 0 0, .slice none 0 0], R.lst 4 1 a_c15_0 n_c15_0 (cells EB l_c15_0) D_c15_0, R.lst 46 1 a_c15_1 n_c15_1 (cells ES l_c15_1) D_c15_1, R.inn EB l_c15_1 i_c15_1 E_c15_1] ∧ (0 ≤ x115 ∧ x115 ≤ (n_xL : Int)) ∧ ((n_c15_1 : Int) = x115) ∧ (l_c15_1.length = n_c15_1) ∧ (∀ c ∈ i_c15_1, c.length ≤ 1000)) ?_ (((n_xL : Int) - 0).toNat) ⟨0, none, 0, [], [], [], [], rfl, rfl, (m85.pick [2, 3, 5, 1, 0] (by decide) rfl), (by first | omega | assumption | (constructor <;> omega)), (by first | omega | (simp only [splice, List.length_append, List.length_set, List.length_replicate, List.length_map, List.length_take, List.length_drop, List.length_cons, List.length_nil] <;> omega)), (by first | omega | (simp only [splice, List.length_append, List.length_set, List.length_replicate, List.length_map, List.length_take, List.length_drop, List.length_cons, List.length_nil] <;> omega)), all_nil⟩
              rintro kq lq A86 ⟨x115, a_c15_1, n_c15_1, l_c15_1, D_c15_1, i_c15_1, E_c15_1, rfl, rfl, m87, hr30, hn151, hl_l_c15_1, hk_l_c15_1⟩
              refine KC.seq ?_
              refine KC.region ?_
              refine KO.pv (PV.lssD rfl rfl rfl) rfl rfl ?_
              refine KO.nil ?_
              refine KC.seq ?_
              refine KC.condD rfl (fun h88 => ?_) (fun h88 => ?_)
              · refine KC.skip ?_
                refine KC.seq ?_
                refine KC.block ?_
                refine KC.seq ?_
                refine KC.region ?_
                obtain ⟨b89, o89, p89, r89, e89, ha89, hb89, hr89, hx89, hw89, hc89, ht89⟩ := V.at_ h_xL (z := x115) (by omega) (by omega)
                have hc89_0 : r89.cs[o89 + (x115).toNat * 1 + 0]? = some (.slice e89.1 e89.2.1 e89.2.2) := hc89 0 (by decide)
                obtain ⟨xs89, hxs89, hV89⟩ := VV.at_ i_xL hx89
                obtain ⟨len89, cap89, max89, wf89⟩ := hV89.len
                have hkl89 := hkl _ (List.mem_of_getElem? hxs89)
                refine KO.pv (PV.indexAddrZ un25_B9 sz22_B9 rfl ha89 rfl (by omega) (by omega)) rfl rfl ?_
                have hlr89 := hrl2 _ (List.mem_of_getElem? hxs89)
                refine KO.load1 ag22_B9 rfl (m87.row0 hb89 hr89) hc89_0 rfl rfl ?_
                refine KO.pv (PV.assign rfl) rfl rfl ?_
                refine KO.nil ?_
                refine KC.seq ?_
                refine KC.region ?_
                refine KO.pv (PV.assign rfl) rfl rfl ?_
                refine KO.nil ?_
                refine KC.seq ?_
                refine KC.seq ?_
                refine KC.region ?_
                refine KO.pv (PV.assign rfl) rfl rfl ?_
                refine KO.nil ?_
                refine KC.block ?_
                refine KC.sub (l' := [(2, .slice a_m n_m c_m), (6, .pointer (some ⟨H3.next, 0, none⟩)), (11, .int .i64 (1 + ci)), (15, .pointer (some ⟨A29.next, 0, none⟩)), (18, .slice e89.1 e89.2.1 e89.2.2), (19, .slice none 0 0), (20, .int .i64 1), (113, .slice a_xL n_xL c_xL), (114, .int .i64 (n_xL : Int)), (115, .int .i64 x115)]) (.cons rfl (.cons rfl (.cons rfl (.cons rfl (.cons rfl (.cons rfl (.cons rfl (.cons rfl (.cons rfl (.cons rfl .nil)))))))))) ?_
                have m90 := m87.lnilC EB (e := 4) none rfl
                refine KC.loopN (fun kq lq A => ∃ (a19 : Option Addr) (n19 : Nat) (l19 : List Bool) (D19 : List Nat) (x20 : Int), kq = ((1 + ci) - x20).toNat ∧ lq = [(2, .slice a_m n_m c_m), (6, .pointer (some ⟨H3.next, 0, none⟩)), (11, .int .i64 (1 + ci)), (15, .pointer (some ⟨A29.next, 0, none⟩)), (18, .slice e89.1 e89.2.1 e89.2.2), (19, .slice a19 n19 n19), (20, .int .i64 x20), (113, .slice a_xL n_xL c_xL), (114, .int .i64 (n_xL : Int)), (115, .int .i64 x115)] ∧ Mem [] H A [R.lst 4 1 a19 n19 (cells EB l19) D19, R.row A29.next 107 true [.slice a_c15_0 n_c15_0 n_c15_0, .slice a_c15_1 n_c15_1 n_c15_1], R.row H3.next 107 true [.slice none 0 0, .slice none 0 0], R.lst 4 1 a_c15_0 n_c15_0 (cells EB l_c15_0) D_c15_0, R.lst 46 1 a_c15_1 n_c15_1 (cells ES l_c15_1) D_c15_1, R.inn EB l_c15_1 i_c15_1 E_c15_1] ∧ (1 ≤ x20 ∧ x20 ≤ (1 + ci)) ∧ (l19.length = n19) ∧ ((n19 : Int) = x20 - 1)) ?_ (((1 + ci) - 1).toNat) ⟨none, 0, [], [], 1, rfl, rfl, (m90.pick [0, 1, 2, 3, 4, 5] (by decide) rfl), (by first | omega | assumption | (constructor <;> omega)), (by first | omega | (simp only [splice, List.length_append, List.length_set, List.length_replicate, List.length_map, List.length_take, List.length_drop, List.length_cons, List.length_nil] <;> omega)), (by first | omega | (simp only [splice, List.length_append, List.length_set, List.length_replicate, List.length_map, List.length_take, List.length_drop, List.length_cons, List.length_nil] <;> omega))⟩
                rintro kq lq A91 ⟨a19, n19, l19, D19, x20, rfl, rfl, m92, hr34, hl_l19, hn19⟩
                refine KC.seq ?_
                refine KC.seq ?_
                refine KC.region ?_
                refine KO.pv (PV.move rfl) rfl rfl ?_
                refine KO.pv (PV.move rfl) rfl rfl ?_
                refine KO.pv (PV.lssD rfl rfl rfl) rfl rfl ?_
                refine KO.nil ?_
                refine KC.condD rfl (fun h93 => ?_) (fun h93 => ?_)
                · refine KC.skip ?_
                  refine KC.seq ?_
                  refine KC.block ?_
                  refine KC.region ?_
                  refine KO.pv (PV.move rfl) rfl rfl ?_
                  refine KO.pv (PV.move rfl) rfl rfl ?_
                  refine KO.pv (PV.move rfl) rfl rfl ?_
                  obtain ⟨b94, o94, p94, r94, e94, ha94, hb94, hr94, hx94, hw94, hc94, ht94⟩ := V.at_ hV89 (z := x20) (by omega) (by omega)
                  have hc94_0 : r94.cs[o94 + (x20).toNat * 1 + 0]? = some (.int .i64 e94) := hc94 0 (by decide)
                  have hw94 : IntKind.i64.wrap e94 = e94 := hw94
                  obtain ⟨lo94, hi94⟩ := rangei64 hw94
                  have hkli94 := hkl89 _ (List.mem_of_getElem? hx94)
                  refine KO.pv (PV.indexAddrZ un22_B9 sz3_B9 rfl ha94 rfl (by omega) (by omega)) rfl rfl ?_
                  refine KO.load1 ag3_B9 rfl (m92.row0 hb94 hr94) hc94_0 rfl rfl ?_
                  refine KO.pv (PV.move rfl) rfl rfl ?_
                  refine KO.call rfl rfl rfl rfl (un_value A91 e94 a_m n_m c_m _ (wrap64 (by omega) (by omega)) (V.mem m92 h_m) (by first | omega | assumption)) fun v95 H95 q95 => ?_
                  obtain ⟨o95, hv95, mc95⟩ := q95
                  dsimp only at hv95 mc95
                  subst hv95
                  have m96 := m92.seq mc95
                  refine KO.buildSliceM m96 el46_B9 ez4_B9 rfl rfl (show _ = some [.bool o95] from rfl) rfl rfl fun H97 m98 => ?_
                  refine KO.appendC (C := EB) m98 (i := 1) rfl el46_B9 ez4_B9 sb4_B9 un46_B9 rfl rfl (newElems_row1 (C := EB) (y := o95) (m98.row (i := 0) rfl) rfl) rfl (by first | omega | (simp only [splice, List.length_append, List.length_set, List.length_replicate, List.length_map, List.length_take, List.length_drop, List.length_cons, List.length_nil] <;> omega)) rfl rfl fun a100 D101 H99 m102 => ?_
                  refine KO.pv (PV.assign rfl) rfl rfl ?_
                  refine KO.nil ?_
                  refine KC.region ?_
                  refine KO.pv (PV.move rfl) rfl rfl ?_
                  refine KO.pv (PV.add rfl rfl (wrap64 (by omega) (by omega))) rfl rfl ?_
                  refine KO.pv (PV.assign rfl) rfl rfl ?_
                  refine KO.nil ?_
                  exact ⟨_, _, (by omega), (.cons rfl (.cons rfl (.cons rfl (.cons rfl (.cons rfl (.cons rfl (.cons rfl (.cons rfl (.cons rfl (.cons rfl .nil)))))))))), a100, (n19 + 1), (l19 ++ [o95]), D101, (x20 + 1), rfl, rfl, (m102.pick [1, 2, 3, 4, 5, 6] (by decide) rfl), (by first | omega | assumption | (constructor <;> omega)), (by first | omega | (simp only [splice, List.length_append, List.length_set, List.length_replicate, List.length_map, List.length_take, List.length_drop, List.length_cons, List.length_nil] <;> omega)), (by first | omega | (simp only [splice, List.length_append, List.length_set, List.length_replicate, List.length_map, List.length_take, List.length_drop, List.length_cons, List.length_nil] <;> omega))⟩
                · refine KC.exit ?_
                  refine KC.region ?_
                  refine KO.pv (PV.fieldAddr fo107_1_B9 rfl) rfl rfl ?_
                  refine KO.load1 ag105_B9 rfl (m92.row (i := 1) rfl) rfl rfl rfl ?_
                  refine KO.pv (PV.move rfl) rfl rfl ?_
                  refine KO.buildSliceM m92 el105_B9 ez46_B9 rfl rfl (show _ = some [.slice a19 n19 n19] from rfl) rfl rfl fun H103 m104 => ?_
                  refine KO.appendC (C := ES) m104 (i := 5) rfl el105_B9 ez46_B9 sb46_B9 un105_B9 rfl rfl (newElems_row1 (C := ES) (y := (a19, n19, n19)) (m104.row (i := 0) rfl) rfl) rfl (by first | omega | (simp only [splice, List.length_append, List.length_set, List.length_replicate, List.length_map, List.length_take, List.length_drop, List.length_cons, List.length_nil] <;> omega)) rfl rfl fun a106 D107 H105 m108 => ?_
                  have m109 := m108.ownLst (C := EB) (i := 1) rfl (fun _ _ => trivial) (by first | omega | (simp only [splice, List.length_append, List.length_set, List.length_replicate, List.length_map, List.length_take, List.length_drop, List.length_cons, List.length_nil] <;> omega))
                  have m110 : Mem [] H H105 [R.inn EB l_c15_1 i_c15_1 E_c15_1, R.own EB a19 n19 n19 l19 D19, R.row A91.next 46 true [.slice a19 n19 n19], R.row A29.next 107 true [.slice a_c15_0 n_c15_0 n_c15_0, .slice a_c15_1 n_c15_1 n_c15_1], R.row H3.next 107 true [.slice none 0 0, .slice none 0 0], R.lst 4 1 a_c15_0 n_c15_0 (cells EB l_c15_0) D_c15_0, R.lst 46 1 a106 (n_c15_1 + 1) (cells ES (l_c15_1 ++ [(a19, n19, n19)])) D107] := m109.pick [6, 1, 0, 2, 3, 4, 5] (by decide) rfl
                  have m111 := m110.push
                  refine KO.pv (PV.fieldAddr fo107_1_B9 rfl) rfl rfl ?_
                  refine KO.storeM m111 (i := 2) rfl sz105_B9 rfl rfl rfl (show 1 + 1 ≤ 2 by decide) (show _ = [.slice a_c15_0 n_c15_0 n_c15_0, .slice a106 (n_c15_1 + 1) (n_c15_1 + 1)] from rfl) rfl fun H112 m113 => ?_
                  refine KO.nil ?_
                  refine KC.region ?_
                  refine KO.pv (PV.add rfl rfl (wrap64 (by omega) (by omega))) rfl rfl ?_
                  refine KO.pv (PV.move rfl) rfl rfl ?_
                  refine KO.nil ?_
                  exact ⟨_, _, (by omega), (.cons rfl (.cons rfl (.cons rfl (.cons rfl (.cons rfl (.cons rfl (.cons rfl .nil))))))), (x115 + 1), a106, (n_c15_1 + 1), (l_c15_1 ++ [(a19, n19, n19)]), D107, (i_c15_1 ++ [l19]), (E_c15_1 ++ D19), rfl, rfl, (m113.pick [2, 3, 4, 5, 0] (by decide) rfl), (by first | omega | assumption | (constructor <;> omega)), (by first | omega | (simp only [splice, List.length_append, List.length_set, List.length_replicate, List.length_map, List.length_take, List.length_drop, List.length_cons, List.length_nil] <;> omega)), (by first | omega | (simp only [splice, List.length_append, List.length_set, List.length_replicate, List.length_map, List.length_take, List.length_drop, List.length_cons, List.length_nil] <;> omega)), (all_app hk_l_c15_1 (all_one (by first | omega | assumption | (constructor <;> omega))))⟩
              · refine KC.exit ?_
                refine KC.seq ?_
                refine KC.region ?_
                refine KO.loadN ag107_B9 sz107_B9 rfl (m87.row (i := 0) rfl) (takeN_of (p := [.slice a_c15_0 n_c15_0 n_c15_0, .slice a_c15_1 n_c15_1 n_c15_1]) rfl rfl) rfl rfl ?_
                refine KO.storeM m87 (i := 1) rfl sz107_B9 rfl rfl rfl (show 0 + 2 ≤ 2 by decide) (show _ = [.slice a_c15_0 n_c15_0 n_c15_0, .slice a_c15_1 n_c15_1 n_c15_1] from rfl) rfl fun H114 m115 => ?_
                refine KO.pv (PV.assign rfl) rfl rfl ?_
                refine KO.nil ?_
                have m116 := m115.ownLst (C := EB) (i := 2) rfl (fun _ _ => trivial) (by first | omega | (simp only [splice, List.length_append, List.length_set, List.length_replicate, List.length_map, List.length_take, List.length_drop, List.length_cons, List.length_nil] <;> omega))
                have m117 := m116.ownLst (C := ES) (i := 3) rfl (fun _ _ => trivial) (by first | omega | (simp only [splice, List.length_append, List.length_set, List.length_replicate, List.length_map, List.length_take, List.length_drop, List.length_cons, List.length_nil] <;> omega))
                exact KC.ret ⟨rfl, _, (.cell rfl (ldN (m115.row (i := 1) rfl) ag107_B9 sz107_B9 rfl rfl) (.tmp rfl .nil)), a_c15_0, n_c15_0, n_c15_0, l_c15_0, D_c15_0, a_c15_1, n_c15_1, n_c15_1, l_c15_1, D_c15_1, i_c15_1, E_c15_1, 0, rfl, m117.pick [2, 3, 4] (by decide) rfl, (by first | omega | (intro h; omega) | (simp only [List.length_nil, true_and, and_true, or_true, true_or] <;> omega)), (by first | omega | (intro h; omega) | (simp only [List.length_nil, true_and, and_true, or_true, true_or] <;> omega) | exact all_nil | assumption)⟩
end Go.Eng
