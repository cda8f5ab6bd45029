/- Functions of the program and of the library keep their contracts. Conditions: none beyond each theorem's own. -/
import Derived.Test.YtbjiommpeeanmaaGreatDoorConstantsB15
import Derived.Test.YtbjiommpeeanmaaGreatDoorConstantsB11
import Derived.KernelRfl
set_option linter.all false
namespace Go.Eng
open Go Go.Proofs
theorem ag3_B16 : isAggT E0.P 3 = some false := by kernel_rfl
theorem sz3_B16 : sizeT E0.P 3 = some 1 := by kernel_rfl
theorem ag24_B16 : isAggT E0.P 24 = some false := by kernel_rfl
theorem el24_B16 : elemT E0.P 24 = some 3 := by kernel_rfl
theorem ez3_B16 : elemZ E0.P 3 = some (1, [.int .i64 0]) := by kernel_rfl
theorem sb3_B16 : smallBytes E0.P 3 = true := by kernel_rfl
theorem un24_B16 : E0.P.underlying 24 = some (.slice 3) := by kernel_rfl
theorem sz24_B16 : sizeT E0.P 24 = some 1 := by kernel_rfl
theorem un3_B16 : E0.P.underlying 3 = some (.int .i64) := by kernel_rfl
theorem un181_B16 : E0.P.underlying 181 = some (.int .u64) := by kernel_rfl
theorem fo26_0_B16 : foff E0.P 26 0 = some 0 := by kernel_rfl
theorem fo26_1_B16 : foff E0.P 26 1 = some 1 := by kernel_rfl
theorem ag22_B16 : isAggT E0.P 22 = some false := by kernel_rfl
theorem un22_B16 : E0.P.underlying 22 = some (.slice 150) := by kernel_rfl
theorem fo26_2_B16 : foff E0.P 26 2 = some 2 := by kernel_rfl
theorem ag23_B16 : isAggT E0.P 23 = some false := by kernel_rfl
theorem un23_B16 : E0.P.underlying 23 = some (.slice 187) := by kernel_rfl
theorem sz150_B16 : sizeT E0.P 150 = some 2 := by kernel_rfl
theorem fo150_0_B16 : foff E0.P 150 0 = some 0 := by kernel_rfl
theorem ag26_B16 : isAggT E0.P 26 = some true := by kernel_rfl
theorem sz26_B16 : sizeT E0.P 26 = some 5 := by kernel_rfl
theorem fo26_3_B16 : foff E0.P 26 3 = some 3 := by kernel_rfl
theorem fo26_4_B16 : foff E0.P 26 4 = some 4 := by kernel_rfl
theorem sz187_B16 : sizeT E0.P 187 = some 2 := by kernel_rfl
theorem ag187_B16 : isAggT E0.P 187 = some true := by kernel_rfl
theorem zt187_B16 : zeroT E0.P 187 = some [.int .i64 0, .int .i64 0] := by kernel_rfl
theorem fo187_1_B16 : foff E0.P 187 1 = some 1 := by kernel_rfl
theorem fo187_0_B16 : foff E0.P 187 0 = some 0 := by kernel_rfl
theorem el23_B16 : elemT E0.P 23 = some 187 := by kernel_rfl
theorem ez187_B16 : elemZ E0.P 187 = some (2, [.int .i64 0, .int .i64 0]) := by kernel_rfl
theorem sb187_B16 : smallBytes E0.P 187 = true := by kernel_rfl
theorem bl187_0i64_1i64_B16 (v0 : Int) (v1 : Int) : buildA E0.P 187 [(0, .int .i64 v0), (1, .int .i64 v1)] = some (.agg #[.int .i64 v0, .int .i64 v1]) := by kernel_rfl
theorem sz23_B16 : sizeT E0.P 23 = some 1 := by kernel_rfl
theorem zt24_B16 : zeroT E0.P 24 = some [.slice none 0 0] := by kernel_rfl
theorem zt26_B16 : zeroT E0.P 26 = some [.int .i64 0, .slice none 0 0, .slice none 0 0, .slice none 0 0, .slice none 0 0] := by kernel_rfl
theorem bl26__B16  : buildA E0.P 26 [] = some (.agg #[.int .i64 0, .slice none 0 0, .slice none 0 0, .slice none 0 0, .slice none 0 0]) := by kernel_rfl
theorem bl258_0i64_1i64_B16 (v0 : Int) (v1 : Int) : buildA E0.P 258 [(0, .int .i64 v0), (1, .int .i64 v1)] = some (.agg #[.int .i64 v0, .int .i64 v1]) := by kernel_rfl
theorem zt258_B16 : zeroT E0.P 258 = some [.int .i64 0, .int .i64 0] := by kernel_rfl
theorem sz258_B16 : sizeT E0.P 258 = some 2 := by kernel_rfl
theorem fo319_1_B16 : foff E0.P 319 1 = some 5 := by kernel_rfl
theorem ag317_B16 : isAggT E0.P 317 = some false := by kernel_rfl
theorem ag258_B16 : isAggT E0.P 258 = some true := by kernel_rfl
theorem mt317_B16 : mapT E0.P 317 = some (258, 3) := by kernel_rfl
theorem kk317_B16 (a b : Int) : keyKind E0.P 258 (.agg #[.int .i64 a, .int .i64 b]) = true := by kernel_rfl
theorem zv317_B16 : zeroV E0.P 3 = some (.int .i64 0) := by kernel_rfl
theorem fo319_0_B16 : foff E0.P 319 0 = some 0 := by kernel_rfl
theorem un258_B16 : E0.P.underlying 258 = some (.array 2 3) := by kernel_rfl
theorem bl319_0Ai64ssss_1m_B16 (v0_0 : Int) (v0_1a : Option Addr) (v0_1n v0_1c : Nat) (v0_2a : Option Addr) (v0_2n v0_2c : Nat) (v0_3a : Option Addr) (v0_3n v0_3c : Nat) (v0_4a : Option Addr) (v0_4n v0_4c : Nat) (v1b : Nat) : buildA E0.P 319 [(0, .agg #[.int .i64 v0_0, .slice v0_1a v0_1n v0_1c, .slice v0_2a v0_2n v0_2c, .slice v0_3a v0_3n v0_3c, .slice v0_4a v0_4n v0_4c]), (1, .map (some v1b))] = some (.agg #[.int .i64 v0_0, .slice v0_1a v0_1n v0_1c, .slice v0_2a v0_2n v0_2c, .slice v0_3a v0_3n v0_3c, .slice v0_4a v0_4n v0_4c, .map (some v1b)]) := by kernel_rfl
theorem sz22_B16 : sizeT E0.P 22 = some 1 := by kernel_rfl
theorem hash_and (H : AHeap) (b_b : Nat) (bi : Int) (a_bL : Option Addr) (n_bL : Nat) (bL : List (Int × Int)) (D_bL : List Nat) (a_bA : Option Addr) (n_bA : Nat) (bA : List (Int × Int)) (D_bA : List Nat) (a_bB : Option Addr) (n_bB : Nat) (bB : List Int) (D_bB : List Nat) (a_bC : Option Addr) (n_bC : Nat) (bC : List Int) (D_bC : List Nat) (m_bm : Nat) (x : Int) (y : Int) (h_b : Mem ([b_b] ++ (D_bL ++ (D_bA ++ (D_bB ++ (D_bC ++ ([m_bm] ++ [])))))) H H [R.row b_b 319 true [.int .i64 bi, .slice a_bL n_bL n_bL, .slice a_bA n_bA n_bA, .slice a_bB n_bB n_bB, .slice a_bC n_bC n_bC, .map (some m_bm)], R.lst 150 2 a_bL n_bL (cells EP bL) D_bL, R.lst 187 2 a_bA n_bA (cells EP bA) D_bA, R.lst 3 1 a_bB n_bB (cells (EI .i64) bB) D_bB, R.lst 3 1 a_bC n_bC (cells (EI .i64) bC) D_bC, R.mp m_bm KP (VI fun x => 0 ≤ x ∧ x / 2 ≤ 4002)]) (w_bi : IntKind.i64.wrap bi = bi) (wf_bL : ∀ u ∈ bL, (EP).wf u) (wf_bA : ∀ u ∈ bA, (EP).wf u) (wf_bB : ∀ u ∈ bB, (EI .i64).wf u) (wf_bC : ∀ u ∈ bC, (EI .i64).wf u) (w_x : IntKind.i64.wrap x = x) (w_y : IntKind.i64.wrap y = y) (h0 : 0 ≤ bi ∧ bi ≤ 1000 ∧ n_bL ≤ 1000 ∧ n_bA ≤ 1999) (hx : 0 ≤ x ∧ x / 2 ≤ 4002) (hy : 0 ≤ y ∧ y / 2 ≤ 4002) : WF E0 231 [.pointer (some ⟨b_b, 0, none⟩), .int .i64 x, .int .i64 y] H fun q => ∃ (z : Int) (a : Option Addr) (n : Nat) (xs : List (Int × Int)) (D : List Nat), q.1 = .int .i64 z ∧ Mem ([b_b] ++ (D_bL ++ (D_bA ++ (D_bB ++ (D_bC ++ ([m_bm] ++ [])))))) H q.2 [R.row b_b 319 true [.int .i64 bi, .slice a_bL n_bL n_bL, .slice a n n, .slice a_bB n_bB n_bB, .slice a_bC n_bC n_bC, .map (some m_bm)], R.lst 150 2 a_bL n_bL (cells EP bL) D_bL, R.lst 187 2 a n (cells EP xs) D, R.lst 3 1 a_bB n_bB (cells (EI .i64) bB) D_bB, R.lst 3 1 a_bC n_bC (cells (EI .i64) bC) D_bC, R.mp m_bm KP (VI fun x => 0 ≤ x ∧ x / 2 ≤ 4002)] ∧ (0 ≤ z ∧ z / 2 ≤ 4002) ∧ (n ≤ n_bA + 1) ∧ (∀ u ∈ xs, EP.wf u) := by
  obtain ⟨lo_bi, hi_bi⟩ := rangei64 w_bi
  have len_bL : bL.length = n_bL := h_b.lstLen (E := EP) (i := 1) rfl
  have len_bA : bA.length = n_bA := h_b.lstLen (E := EP) (i := 2) rfl
  have len_bB : bB.length = n_bB := h_b.lstLen (E := (EI .i64)) (i := 3) rfl
  have len_bC : bC.length = n_bC := h_b.lstLen (E := (EI .i64)) (i := 4) rfl
  obtain ⟨lo_x, hi_x⟩ := rangei64 w_x
  obtain ⟨lo_y, hi_y⟩ := rangei64 w_y
  have m0 := h_b
  refine WF.kg Tryz.func231 rfl rfl ?_
  refine KC.seq ?_
  refine KC.region ?_
  refine KO.pv (PV.assign rfl) rfl rfl ?_
  refine KO.nil ?_
  refine KC.seq ?_
  refine KC.block ?_
  refine KC.seq ?_
  refine KC.region ?_
  refine KO.pv (PV.move rfl) rfl rfl ?_
  by_cases h1 : x = 0
  · refine KO.pv (PV.eqlD rfl rfl (decide_eq_true h1)) rfl rfl ?_
    refine KO.pv (PV.move rfl) rfl rfl ?_
    refine KO.no rfl rfl rfl ?_
    refine KO.no rfl rfl rfl ?_
    refine KO.pv (PV.pickT rfl rfl rfl) rfl rfl ?_
    refine KO.pv (PV.move rfl) rfl rfl ?_
    refine KO.no rfl rfl rfl ?_
    refine KO.no rfl rfl rfl ?_
    refine KO.no rfl rfl rfl ?_
    refine KO.no rfl rfl rfl ?_
    refine KO.pv (PV.pickT rfl rfl rfl) rfl rfl ?_
    refine KO.pv (PV.assign rfl) rfl rfl ?_
    refine KO.nil ?_
    refine KC.condT rfl ?_
    refine KC.seq ?_
    refine KC.region ?_
    refine KO.pv (PV.assign rfl) rfl rfl ?_
    refine KO.nil ?_
    exact KC.ret ⟨rfl, _, (.tmp rfl .nil), 0, a_bA, n_bA, bA, D_bA, rfl, m0.pick [0, 1, 2, 3, 4, 5] (by decide) rfl, (by first | omega | (intro h; omega) | (simp only [List.length_nil, true_and, and_true, or_true, true_or] <;> omega)), (by first | omega | (intro h; omega) | (simp only [List.length_nil, true_and, and_true, or_true, true_or] <;> omega)), (by first | omega | (intro h; omega) | (simp only [List.length_nil, true_and, and_true, or_true, true_or] <;> omega) | exact wf_bA | (exact all_app wf_bA (all_one (wfP ⟨by omega, by omega⟩ ⟨by omega, by omega⟩))))⟩
  · refine KO.pv (PV.eqlD rfl rfl (decide_eq_false h1)) rfl rfl ?_
    refine KO.pv (PV.move rfl) rfl rfl ?_
    refine KO.pv (PV.move rfl) rfl rfl ?_
    by_cases h2 : y = 0
    · refine KO.pv (PV.eqlD rfl rfl (decide_eq_true h2)) rfl rfl ?_
      refine KO.pv (PV.pickF rfl rfl rfl) rfl rfl ?_
      refine KO.pv (PV.move rfl) rfl rfl ?_
      refine KO.no rfl rfl rfl ?_
      refine KO.no rfl rfl rfl ?_
      refine KO.no rfl rfl rfl ?_
      refine KO.no rfl rfl rfl ?_
      refine KO.pv (PV.pickT rfl rfl rfl) rfl rfl ?_
      refine KO.pv (PV.assign rfl) rfl rfl ?_
      refine KO.nil ?_
      refine KC.condT rfl ?_
      refine KC.seq ?_
      refine KC.region ?_
      refine KO.pv (PV.assign rfl) rfl rfl ?_
      refine KO.nil ?_
      exact KC.ret ⟨rfl, _, (.tmp rfl .nil), 0, a_bA, n_bA, bA, D_bA, rfl, m0.pick [0, 1, 2, 3, 4, 5] (by decide) rfl, (by first | omega | (intro h; omega) | (simp only [List.length_nil, true_and, and_true, or_true, true_or] <;> omega)), (by first | omega | (intro h; omega) | (simp only [List.length_nil, true_and, and_true, or_true, true_or] <;> omega)), (by first | omega | (intro h; omega) | (simp only [List.length_nil, true_and, and_true, or_true, true_or] <;> omega) | exact wf_bA | (exact all_app wf_bA (all_one (wfP ⟨by omega, by omega⟩ ⟨by omega, by omega⟩))))⟩
    · refine KO.pv (PV.eqlD rfl rfl (decide_eq_false h2)) rfl rfl ?_
      refine KO.pv (PV.pickF rfl rfl rfl) rfl rfl ?_
      refine KO.pv (PV.move rfl) rfl rfl ?_
      refine KO.pv (PV.move rfl) rfl rfl ?_
      refine KO.pv (PV.move rfl) rfl rfl ?_
      obtain ⟨x3, dx3, rx3, zx3, qx3⟩ := xor1 (y) (by omega) (by omega)
      refine KO.pv (PV.xor1 rfl rfl qx3) rfl rfl ?_
      refine KO.pv (PV.eqlD rfl rfl rfl) rfl rfl ?_
      refine KO.pv (PV.pickF rfl rfl rfl) rfl rfl ?_
      refine KO.pv (PV.assign rfl) rfl rfl ?_
      refine KO.nil ?_
      refine KC.condD rfl (fun h4 => ?_) (fun h4 => ?_)
      · refine KC.seq ?_
        refine KC.region ?_
        refine KO.pv (PV.assign rfl) rfl rfl ?_
        refine KO.nil ?_
        exact KC.ret ⟨rfl, _, (.tmp rfl .nil), 0, a_bA, n_bA, bA, D_bA, rfl, m0.pick [0, 1, 2, 3, 4, 5] (by decide) rfl, (by first | omega | (intro h; omega) | (simp only [List.length_nil, true_and, and_true, or_true, true_or] <;> omega)), (by first | omega | (intro h; omega) | (simp only [List.length_nil, true_and, and_true, or_true, true_or] <;> omega)), (by first | omega | (intro h; omega) | (simp only [List.length_nil, true_and, and_true, or_true, true_or] <;> omega) | exact wf_bA | (exact all_app wf_bA (all_one (wfP ⟨by omega, by omega⟩ ⟨by omega, by omega⟩))))⟩
      · refine KC.seq ?_
        refine KC.region ?_
        refine KO.pv (PV.move rfl) rfl rfl ?_
        by_cases h5 : x = 1
        · refine KO.pv (PV.eqlD rfl rfl (decide_eq_true h5)) rfl rfl ?_
          refine KO.pv (PV.move rfl) rfl rfl ?_
          refine KO.no rfl rfl rfl ?_
          refine KO.no rfl rfl rfl ?_
          refine KO.no rfl rfl rfl ?_
          refine KO.pv (PV.pickT rfl rfl rfl) rfl rfl ?_
          refine KO.pv (PV.assign rfl) rfl rfl ?_
          refine KO.nil ?_
          refine KC.condT rfl ?_
          refine KC.seq ?_
          refine KC.region ?_
          refine KO.pv (PV.move rfl) rfl rfl ?_
          refine KO.pv (PV.assign rfl) rfl rfl ?_
          refine KO.nil ?_
          exact KC.ret ⟨rfl, _, (.tmp rfl .nil), y, a_bA, n_bA, bA, D_bA, rfl, m0.pick [0, 1, 2, 3, 4, 5] (by decide) rfl, (by first | omega | (intro h; omega) | (simp only [List.length_nil, true_and, and_true, or_true, true_or] <;> omega)), (by first | omega | (intro h; omega) | (simp only [List.length_nil, true_and, and_true, or_true, true_or] <;> omega)), (by first | omega | (intro h; omega) | (simp only [List.length_nil, true_and, and_true, or_true, true_or] <;> omega) | exact wf_bA | (exact all_app wf_bA (all_one (wfP ⟨by omega, by omega⟩ ⟨by omega, by omega⟩))))⟩
        · refine KO.pv (PV.eqlD rfl rfl (decide_eq_false h5)) rfl rfl ?_
          refine KO.pv (PV.move rfl) rfl rfl ?_
          refine KO.pv (PV.move rfl) rfl rfl ?_
          refine KO.pv (PV.move rfl) rfl rfl ?_
          refine KO.pv (PV.eqlD rfl rfl rfl) rfl rfl ?_
          refine KO.pv (PV.pickF rfl rfl rfl) rfl rfl ?_
          refine KO.pv (PV.assign rfl) rfl rfl ?_
          refine KO.nil ?_
          refine KC.condD rfl (fun h6 => ?_) (fun h6 => ?_)
          · refine KC.seq ?_
            refine KC.region ?_
            refine KO.pv (PV.move rfl) rfl rfl ?_
            refine KO.pv (PV.assign rfl) rfl rfl ?_
            refine KO.nil ?_
            exact KC.ret ⟨rfl, _, (.tmp rfl .nil), y, a_bA, n_bA, bA, D_bA, rfl, m0.pick [0, 1, 2, 3, 4, 5] (by decide) rfl, (by first | omega | (intro h; omega) | (simp only [List.length_nil, true_and, and_true, or_true, true_or] <;> omega)), (by first | omega | (intro h; omega) | (simp only [List.length_nil, true_and, and_true, or_true, true_or] <;> omega)), (by first | omega | (intro h; omega) | (simp only [List.length_nil, true_and, and_true, or_true, true_or] <;> omega) | exact wf_bA | (exact all_app wf_bA (all_one (wfP ⟨by omega, by omega⟩ ⟨by omega, by omega⟩))))⟩
          · refine KC.seq ?_
            refine KC.region ?_
            refine KO.pv (PV.move rfl) rfl rfl ?_
            refine KO.pv (PV.eqlD rfl rfl rfl) rfl rfl ?_
            refine KO.pv (PV.assign rfl) rfl rfl ?_
            refine KO.nil ?_
            refine KC.condD rfl (fun h7 => ?_) (fun h7 => ?_)
            · refine KC.seq ?_
              refine KC.region ?_
              refine KO.pv (PV.move rfl) rfl rfl ?_
              refine KO.pv (PV.assign rfl) rfl rfl ?_
              refine KO.nil ?_
              exact KC.ret ⟨rfl, _, (.tmp rfl .nil), x, a_bA, n_bA, bA, D_bA, rfl, m0.pick [0, 1, 2, 3, 4, 5] (by decide) rfl, (by first | omega | (intro h; omega) | (simp only [List.length_nil, true_and, and_true, or_true, true_or] <;> omega)), (by first | omega | (intro h; omega) | (simp only [List.length_nil, true_and, and_true, or_true, true_or] <;> omega)), (by first | omega | (intro h; omega) | (simp only [List.length_nil, true_and, and_true, or_true, true_or] <;> omega) | exact wf_bA | (exact all_app wf_bA (all_one (wfP ⟨by omega, by omega⟩ ⟨by omega, by omega⟩))))⟩
            · refine KC.skip ?_
              refine KC.seq ?_
              refine KC.region ?_
              refine KO.pv (PV.move rfl) rfl rfl ?_
              refine KO.pv (PV.move rfl) rfl rfl ?_
              obtain ⟨x8, hx8, dx8⟩ := maxD x y
              refine KO.pv (PV.maxE rfl rfl hx8) rfl rfl ?_
              refine KO.pv (PV.move rfl) rfl rfl ?_
              refine KO.pv (PV.move rfl) rfl rfl ?_
              obtain ⟨x9, hx9, dx9⟩ := minD x y
              refine KO.pv (PV.minE rfl rfl hx9) rfl rfl ?_
              refine KO.pv (PV.build rfl (bl258_0i64_1i64_B16 _ _)) rfl rfl ?_
              refine KO.allocM m0 zt258_B16 rfl rfl fun H10 m11 => ?_
              refine KO.storeM m11 (i := 0) rfl sz258_B16 rfl rfl rfl (show 0 + 2 ≤ 2 by decide) (show _ = [.int .i64 x8, .int .i64 x9] from rfl) rfl fun H12 m13 => ?_
              refine KO.nil ?_
              refine KC.seq ?_
              refine KC.seq ?_
              refine KC.drawG (n := 11) (anc := [0, 1, 3, 7, 0, 31, 63, 127, 127, 255, 1023]) (hv := []) (ord := [0, 1, 2, 3, 4, 5, 6, 7, 8, 9, 10]) (by kernel_rfl) (by kernel_rfl) (by kernel_rfl) (by kernel_rfl) (by kernel_rfl) fun H14 n15 g16 => ?_
              have m17 := m13.room n15 g16 [] (by decide) (by decide)
              refine KD.pv 1 (PV.move rfl) rfl rfl rfl (by kernel_rfl) rfl rfl rfl ?_
              refine KD.pv 3 (PV.nilCheck rfl) rfl rfl rfl (by kernel_rfl) rfl rfl rfl ?_
              refine KD.pv 7 (PV.fieldAddr fo319_1_B16 rfl) rfl rfl rfl (by kernel_rfl) rfl rfl rfl ?_
              refine KD.load 15 rfl (m17.row (i := 1) rfl) (by rw [read1 ag317_B16]; exact rfl) (pastGo (k := 1) (l := [H14]) (by kernel_rfl) rfl (pastCons ⟨_, (m17.row (i := 1) rfl), (by rw [read1 ag317_B16]; exact rfl)⟩ pastNil)) veq_map rfl (by kernel_rfl) rfl rfl rfl ?_
              refine KD.load 31 rfl (m17.row (i := 0) rfl) (readN ag258_B16 sz258_B16 (takeN_of (p := [.int .i64 x8, .int .i64 x9]) rfl  rfl)) (pastGo (k := 1) (l := [H14]) (by kernel_rfl) rfl (pastCons ⟨_, (m17.row (i := 0) rfl), (readN ag258_B16 sz258_B16 (takeN_of (p := [.int .i64 x8, .int .i64 x9]) rfl  rfl))⟩ pastNil)) (veq_agg (veqCons veqI (veqCons veqI veqNil))) rfl (by kernel_rfl) rfl rfl rfl ?_
              refine KD.lookup2 63 m17 (j := 6) rfl KP.keys mt317_B16 (kk317_B16 _ _) zv317_B16 rfl rfl ⟨_, _, rfl⟩ (fun Hp hp => List.mem_singleton.1 (List.mem_of_mem_take hp)) veqI VI.veq rfl (by kernel_rfl) rfl rfl rfl fun v18 y18 hv18 hz18 => ?_
              obtain ⟨x18, rfl, hx18⟩ : ∃ x : Int, v18 = .int .i64 x ∧ (0 ≤ x ∧ x / 2 ≤ 4002) := VI.got hv18 hz18 (by first | omega | (constructor <;> omega))
              refine KD.pv 127 (PV.move rfl) rfl rfl rfl (by kernel_rfl) rfl rfl rfl ?_
              refine KD.pv 255 (PV.extract rfl rfl) rfl rfl rfl (by kernel_rfl) rfl rfl rfl ?_
              refine KD.pv 511 (PV.extract rfl rfl) rfl rfl rfl (by kernel_rfl) rfl rfl rfl ?_
              refine KD.pv 1023 (PV.assign rfl) rfl rfl rfl (by kernel_rfl) rfl rfl rfl ?_
              refine KD.pv 2047 (PV.assign rfl) rfl rfl rfl (by kernel_rfl) rfl rfl rfl ?_
              refine KD.nil ⟨rfl, ?_⟩
              refine KC.seq ?_
              refine KC.region ?_
              refine KO.pv (PV.move rfl) rfl rfl ?_
              refine KO.nil ?_
              refine KC.cond rfl (fun h19 => ?_) (fun h19 => ?_)
              · subst h19
                refine KC.seq ?_
                refine KC.region ?_
                refine KO.pv (PV.move rfl) rfl rfl ?_
                refine KO.pv (PV.assign rfl) rfl rfl ?_
                refine KO.nil ?_
                exact KC.ret ⟨rfl, _, (.tmp rfl .nil), x18, a_bA, n_bA, bA, D_bA, rfl, m17.pick [1, 2, 3, 4, 5, 6] (by decide) rfl, (by first | omega | (intro h; omega) | (simp only [List.length_nil, true_and, and_true, or_true, true_or] <;> omega)), (by first | omega | (intro h; omega) | (simp only [List.length_nil, true_and, and_true, or_true, true_or] <;> omega)), (by first | omega | (intro h; omega) | (simp only [List.length_nil, true_and, and_true, or_true, true_or] <;> omega) | exact wf_bA | (exact all_app wf_bA (all_one (wfP ⟨by omega, by omega⟩ ⟨by omega, by omega⟩))))⟩
              · subst h19
                refine KC.skip ?_
                refine KC.seq ?_
                refine KC.drawG (n := 17) (anc := [0, 0, 2, 6, 14, 30, 0, 64, 0, 256, 960, 1984, 4094, 8191, 16383, 32767, 65535]) (hv := [12, 16]) (ord := [1, 2, 3, 4, 5, 6, 7, 8, 9, 10, 11, 12, 0, 13, 14, 15, 16]) (by kernel_rfl) (by kernel_rfl) (by kernel_rfl) (by kernel_rfl) (by kernel_rfl) fun H20 n21 g22 => ?_
                have m23 := m17.room n21 g22 [11] (by decide) (by decide)
                refine KD.pv 2 (PV.move rfl) rfl rfl rfl (by kernel_rfl) rfl rfl rfl ?_
                refine KD.pv 6 (PV.nilCheck rfl) rfl rfl rfl (by kernel_rfl) rfl rfl rfl ?_
                refine KD.pv 14 (PV.fieldAddr fo319_0_B16 rfl) rfl rfl rfl (by kernel_rfl) rfl rfl rfl ?_
                refine KD.pv 30 (PV.fieldAddr fo26_2_B16 rfl) rfl rfl rfl (by kernel_rfl) rfl rfl rfl ?_
                refine KD.load 62 rfl (m23.row (i := 2) rfl) (by rw [read1 ag23_B16]; exact rfl) (pastGo (k := 1) (l := [H20]) (by kernel_rfl) rfl (pastCons ⟨_, (m23.row (i := 2) rfl), (by rw [read1 ag23_B16]; exact rfl)⟩ pastNil)) veq_sl rfl (by kernel_rfl) rfl rfl rfl ?_
                refine KD.pv 126 (PV.indexArrZ un258_B16 sz3_B16 rfl (z := 0) rfl (by decide) (by decide)) rfl rfl rfl (by kernel_rfl) rfl rfl rfl ?_
                refine KD.load 254 rfl (m23.row (i := 1) rfl) (by rw [read1 ag3_B16]; exact rfl) (pastGo (k := 1) (l := [H20]) (by kernel_rfl) rfl (pastCons ⟨_, (m23.row (i := 1) rfl), (by rw [read1 ag3_B16]; exact rfl)⟩ pastNil)) veq_int rfl (by kernel_rfl) rfl rfl rfl ?_
                refine KD.pv 510 (PV.indexArrZ un258_B16 sz3_B16 rfl (z := 1) rfl (by decide) (by decide)) rfl rfl rfl (by kernel_rfl) rfl rfl rfl ?_
                refine KD.load 1022 rfl (m23.row (i := 1) rfl) (by rw [read1 ag3_B16]; exact rfl) (pastGo (k := 1) (l := [H20]) (by kernel_rfl) rfl (pastCons ⟨_, (m23.row (i := 1) rfl), (by rw [read1 ag3_B16]; exact rfl)⟩ pastNil)) veq_int rfl (by kernel_rfl) rfl rfl rfl ?_
                refine KD.pv 2046 (PV.build rfl (bl187_0i64_1i64_B16 _ _)) rfl rfl rfl (by kernel_rfl) rfl rfl rfl ?_
                refine KD.buildSliceM 4094 m23 (j := 0) rfl el23_B16 ez187_B16 rfl rfl (show _ = some [.int .i64 x8, .int .i64 x9] from rfl) rfl (by kernel_rfl) rfl rfl rfl fun H24 m25 => ?_
                refine KD.appendC 8190 (C := EP) m25 (j := 4) rfl el23_B16 ez187_B16 sb187_B16 un23_B16 rfl rfl (newElems_row1 (C := EP) (y := (x8, x9)) (m25.row (i := 0) rfl) rfl) rfl (by first | omega | (simp only [splice, List.length_append, List.length_set, List.length_replicate, List.length_map, List.length_take, List.length_drop, List.length_cons, List.length_nil] <;> omega)) rfl (by kernel_rfl) rfl rfl rfl fun a27 D28 H26 m29 => ?_
                refine KD.pv 8191 (PV.move rfl) rfl rfl rfl (by kernel_rfl) rfl rfl rfl ?_
                refine KD.pv 16383 (PV.nilCheck rfl) rfl rfl rfl (by kernel_rfl) rfl rfl rfl ?_
                refine KD.pv 32767 (PV.fieldAddr fo319_0_B16 rfl) rfl rfl rfl (by kernel_rfl) rfl rfl rfl ?_
                refine KD.pv 65535 (PV.fieldAddr fo26_2_B16 rfl) rfl rfl rfl (by kernel_rfl) rfl rfl rfl ?_
                refine KD.storeM 131071 m29 (j := 2) rfl sz23_B16 rfl rfl rfl (show 2 + 1 ≤ 6 by decide) (show _ = [.int .i64 bi, .slice a_bL n_bL n_bL, .slice a27 (n_bA + 1) (n_bA + 1), .slice a_bB n_bB n_bB, .slice a_bC n_bC n_bC, .map (some m_bm)] from rfl) rfl (by kernel_rfl) rfl rfl fun H30 m31 => ?_
                refine KD.nil ⟨rfl, ?_⟩
                refine KC.seq ?_
                refine KC.drawG (n := 21) (anc := [0, 1, 3, 7, 15, 0, 32, 96, 224, 480, 992, 2047, 0, 4096, 12288, 28672, 61440, 126976, 262143, 524287, 1048575]) (hv := []) (ord := [0, 1, 2, 3, 4, 5, 6, 7, 8, 9, 10, 11, 12, 13, 14, 15, 16, 17, 18, 19, 20]) (by kernel_rfl) (by kernel_rfl) (by kernel_rfl) (by kernel_rfl) (by kernel_rfl) fun H32 n33 g34 => ?_
                have m35 := m31.room n33 g34 [] (by decide) (by decide)
                refine KD.pv 1 (PV.move rfl) rfl rfl rfl (by kernel_rfl) rfl rfl rfl ?_
                refine KD.pv 3 (PV.nilCheck rfl) rfl rfl rfl (by kernel_rfl) rfl rfl rfl ?_
                refine KD.pv 7 (PV.fieldAddr fo319_0_B16 rfl) rfl rfl rfl (by kernel_rfl) rfl rfl rfl ?_
                refine KD.pv 15 (PV.fieldAddr fo26_0_B16 rfl) rfl rfl rfl (by kernel_rfl) rfl rfl rfl ?_
                refine KD.load 31 rfl (m35.row (i := 2) rfl) (by rw [read1 ag3_B16]; exact rfl) (pastGo (k := 1) (l := [H32]) (by kernel_rfl) rfl (pastCons ⟨_, (m35.row (i := 2) rfl), (by rw [read1 ag3_B16]; exact rfl)⟩ pastNil)) veq_int rfl (by kernel_rfl) rfl rfl rfl ?_
                refine KD.pv 63 (PV.move rfl) rfl rfl rfl (by kernel_rfl) rfl rfl rfl ?_
                refine KD.pv 127 (PV.nilCheck rfl) rfl rfl rfl (by kernel_rfl) rfl rfl rfl ?_
                refine KD.pv 255 (PV.fieldAddr fo319_0_B16 rfl) rfl rfl rfl (by kernel_rfl) rfl rfl rfl ?_
                refine KD.pv 511 (PV.fieldAddr fo26_1_B16 rfl) rfl rfl rfl (by kernel_rfl) rfl rfl rfl ?_
                refine KD.load 1023 rfl (m35.row (i := 2) rfl) (by rw [read1 ag22_B16]; exact rfl) (pastGo (k := 1) (l := [H32]) (by kernel_rfl) rfl (pastCons ⟨_, (m35.row (i := 2) rfl), (by rw [read1 ag22_B16]; exact rfl)⟩ pastNil)) veq_sl rfl (by kernel_rfl) rfl rfl rfl ?_
                refine KD.pv 2047 (PV.len un22_B16 rfl) rfl rfl (rd_int _) (by kernel_rfl) rfl rfl rfl ?_
                refine KD.pv 4095 (PV.add rfl rfl (wrap64 (by omega) (by omega))) rfl rfl rfl (by kernel_rfl) rfl rfl rfl ?_
                refine KD.pv 8191 (PV.move rfl) rfl rfl rfl (by kernel_rfl) rfl rfl rfl ?_
                refine KD.pv 16383 (PV.nilCheck rfl) rfl rfl rfl (by kernel_rfl) rfl rfl rfl ?_
                refine KD.pv 32767 (PV.fieldAddr fo319_0_B16 rfl) rfl rfl rfl (by kernel_rfl) rfl rfl rfl ?_
                refine KD.pv 65535 (PV.fieldAddr fo26_2_B16 rfl) rfl rfl rfl (by kernel_rfl) rfl rfl rfl ?_
                refine KD.load 131071 rfl (m35.row (i := 2) rfl) (by rw [read1 ag23_B16]; exact rfl) (pastGo (k := 1) (l := [H32]) (by kernel_rfl) rfl (pastCons ⟨_, (m35.row (i := 2) rfl), (by rw [read1 ag23_B16]; exact rfl)⟩ pastNil)) veq_sl rfl (by kernel_rfl) rfl rfl rfl ?_
                refine KD.pv 262143 (PV.len un23_B16 rfl) rfl rfl (rd_int _) (by kernel_rfl) rfl rfl rfl ?_
                refine KD.pv 524287 (PV.add rfl rfl (wrap64 (by omega) (by omega))) rfl rfl rfl (by kernel_rfl) rfl rfl rfl ?_
                refine KD.pv 1048575 (PV.mul rfl rfl (wrap64 (by omega) (by omega))) rfl rfl rfl (by kernel_rfl) rfl rfl rfl ?_
                refine KD.pv 2097151 (PV.assign rfl) rfl rfl rfl (by kernel_rfl) rfl rfl rfl ?_
                refine KD.nil ⟨rfl, ?_⟩
                refine KC.seq ?_
                refine KC.drawG (n := 7) (anc := [0, 1, 3, 7, 0, 0, 63]) (hv := [6]) (ord := [0, 1, 2, 3, 4, 5, 6]) (by kernel_rfl) (by kernel_rfl) (by kernel_rfl) (by kernel_rfl) (by kernel_rfl) fun H36 n37 g38 => ?_
                have m39 := m35.room n37 g38 [] (by decide) (by decide)
                refine KD.pv 1 (PV.move rfl) rfl rfl rfl (by kernel_rfl) rfl rfl rfl ?_
                refine KD.pv 3 (PV.nilCheck rfl) rfl rfl rfl (by kernel_rfl) rfl rfl rfl ?_
                refine KD.pv 7 (PV.fieldAddr fo319_1_B16 rfl) rfl rfl rfl (by kernel_rfl) rfl rfl rfl ?_
                refine KD.load 15 rfl (m39.row (i := 2) rfl) (by rw [read1 ag317_B16]; exact rfl) (pastGo (k := 1) (l := [H36]) (by kernel_rfl) rfl (pastCons ⟨_, (m39.row (i := 2) rfl), (by rw [read1 ag317_B16]; exact rfl)⟩ pastNil)) veq_map rfl (by kernel_rfl) rfl rfl rfl ?_
                refine KD.load 31 rfl (m39.row (i := 1) rfl) (readN ag258_B16 sz258_B16 (takeN_of (p := [.int .i64 x8, .int .i64 x9]) rfl  rfl)) (pastGo (k := 1) (l := [H36]) (by kernel_rfl) rfl (pastCons ⟨_, (m39.row (i := 1) rfl), (readN ag258_B16 sz258_B16 (takeN_of (p := [.int .i64 x8, .int .i64 x9]) rfl  rfl))⟩ pastNil)) (veq_agg (veqCons veqI (veqCons veqI veqNil))) rfl (by kernel_rfl) rfl rfl rfl ?_
                refine KD.pv 63 (PV.move rfl) rfl rfl rfl (by kernel_rfl) rfl rfl rfl ?_
                refine KD.mapPut 127 m39 (j := 7) rfl (.inl rfl) KP.keys mt317_B16 (kk317_B16 _ _) rfl rfl rfl ⟨_, _, rfl⟩ ⟨_, rfl, by first | omega | (constructor <;> omega)⟩ rfl (by kernel_rfl) rfl rfl fun H40 m41 => ?_
                refine KD.nil ⟨rfl, ?_⟩
                refine KC.seq ?_
                refine KC.region ?_
                refine KO.pv (PV.move rfl) rfl rfl ?_
                refine KO.pv (PV.assign rfl) rfl rfl ?_
                refine KO.nil ?_
                exact KC.ret ⟨rfl, _, (.tmp rfl .nil), (2 * ((bi + (n_bL : Int)) + ((n_bA + 1) : Int))), a27, (n_bA + 1), (bA ++ [(x8, x9)]), D28, rfl, m41.pick [2, 3, 4, 5, 6, 7] (by decide) rfl, (by first | omega | (intro h; omega) | (simp only [List.length_nil, true_and, and_true, or_true, true_or] <;> omega)), (by first | omega | (intro h; omega) | (simp only [List.length_nil, true_and, and_true, or_true, true_or] <;> omega)), (by first | omega | (intro h; omega) | (simp only [List.length_nil, true_and, and_true, or_true, true_or] <;> omega) | exact wf_bA | (exact all_app wf_bA (all_one (wfP ⟨by omega, by omega⟩ ⟨by omega, by omega⟩))))⟩
theorem hash_begin (H : AHeap) (ci : Int) (a_cL : Option Addr) (n_cL c_cL : Nat) (cL : List (Int × Int)) (a_cA : Option Addr) (n_cA c_cA : Nat) (cA : List (Int × Int)) (a_cB : Option Addr) (n_cB c_cB : Nat) (cB : List Int) (a_cC : Option Addr) (n_cC c_cC : Nat) (cC : List Int) (w_ci : IntKind.i64.wrap ci = ci) (h_cL : V EP H a_cL n_cL c_cL cL) (h_cA : V EP H a_cA n_cA c_cA cA) (h_cB : V (EI .i64) H a_cB n_cB c_cB cB) (h_cC : V (EI .i64) H a_cC n_cC c_cC cC) (h0 : 0 ≤ ci ∧ ci + n_cL + n_cA ≤ 1000 ∧ n_cB ≤ 100 ∧ n_cC ≤ 100) : WF E0 229 [.agg #[.int .i64 ci, .slice a_cL n_cL c_cL, .slice a_cA n_cA c_cA, .slice a_cB n_cB c_cB, .slice a_cC n_cC c_cC]] H fun q => ∃ (b : Nat) (m : Nat) (a1 : Option Addr) (n1 : Nat) (l1 : List (Int × Int)) (D1 : List Nat) (a2 : Option Addr) (n2 : Nat) (l2 : List (Int × Int)) (D2 : List Nat) (a3 : Option Addr) (n3 : Nat) (l3 : List Int) (D3 : List Nat) (a4 : Option Addr) (n4 : Nat) (l4 : List Int) (D4 : List Nat), q.1 = .pointer (some ⟨b, 0, none⟩) ∧ Mem [] H q.2 [R.row b 319 true [.int .i64 ci, .slice a1 n1 n1, .slice a2 n2 n2, .slice a3 n3 n3, .slice a4 n4 n4, .map (some m)], R.lst 150 2 a1 n1 (cells EP l1) D1, R.lst 187 2 a2 n2 (cells EP l2) D2, R.lst 3 1 a3 n3 (cells (EI .i64) l3) D3, R.lst 3 1 a4 n4 (cells (EI .i64) l4) D4, R.mp m KP (VI fun x => 0 ≤ x ∧ x / 2 ≤ 4002)] ∧ (n1 = n_cL ∧ n2 = n_cA ∧ n3 = n_cB ∧ n4 = n_cC) ∧ (∀ u ∈ l1, EP.wf u) ∧ (∀ u ∈ l2, EP.wf u) ∧ (∀ u ∈ l3, (EI .i64).wf u) ∧ (∀ u ∈ l4, (EI .i64).wf u) := by
  obtain ⟨lo_ci, hi_ci⟩ := rangei64 w_ci
  obtain ⟨len_cL, cap_cL, max_cL, wf_cL⟩ := h_cL.len
  obtain ⟨len_cA, cap_cA, max_cA, wf_cA⟩ := h_cA.len
  obtain ⟨len_cB, cap_cB, max_cB, wf_cB⟩ := h_cB.len
  obtain ⟨len_cC, cap_cC, max_cC, wf_cC⟩ := h_cC.len
  have m0 : Mem [] H H [] := Mem.start
  refine WF.kg Tryz.func229 rfl rfl ?_
  refine KC.seq ?_
  refine KC.region ?_
  refine KO.boxM m0 rfl rfl (show _ = [.int .i64 ci, .slice a_cL n_cL c_cL, .slice a_cA n_cA c_cA, .slice a_cB n_cB c_cB, .slice a_cC n_cC c_cC] from rfl) rfl rfl fun H1 m2 => ?_
  refine KO.pv (PV.assign rfl) rfl rfl ?_
  refine KO.nil ?_
  refine KC.seq ?_
  refine KC.region ?_
  refine KO.loadN ag26_B16 sz26_B16 rfl (m2.row (i := 0) rfl) (takeN_of (p := [.int .i64 ci, .slice a_cL n_cL c_cL, .slice a_cA n_cA c_cA, .slice a_cB n_cB c_cB, .slice a_cC n_cC c_cC]) rfl  rfl) rfl rfl ?_
  refine KO.makeMap KP (VI fun x => 0 ≤ x ∧ x / 2 ≤ 4002) m2 rfl rfl fun H3 m4 => ?_
  refine KO.pv (PV.build rfl (bl319_0Ai64ssss_1m_B16 _ _ _ _ _ _ _ _ _ _ _ _ _ _)) rfl rfl ?_
  refine KO.boxM m4 rfl rfl (show _ = [.int .i64 ci, .slice a_cL n_cL c_cL, .slice a_cA n_cA c_cA, .slice a_cB n_cB c_cB, .slice a_cC n_cC c_cC, .map (some H1.next)] from rfl) rfl rfl fun H5 m6 => ?_
  refine KO.pv (PV.assign rfl) rfl rfl ?_
  refine KO.nil ?_
  refine KC.seq ?_
  refine KC.drawG (n := 16) (anc := [0, 0, 0, 4, 12, 0, 32, 124, 253, 509, 1021, 2045, 4095, 8191, 16383, 32767]) (hv := [4, 7, 11, 15]) (ord := [2, 3, 4, 5, 6, 7, 0, 8, 9, 10, 11, 1, 12, 13, 14, 15]) (by kernel_rfl) (by kernel_rfl) (by kernel_rfl) (by kernel_rfl) (by kernel_rfl) fun H7 n8 g9 => ?_
  have m10 := m6.room n8 g9 [] (by decide) (by decide)
  refine KD.pv 4 (PV.fieldAddr fo26_1_B16 rfl) rfl rfl rfl (by kernel_rfl) rfl rfl rfl ?_
  refine KD.load 12 rfl (m10.row (i := 2) rfl) (by rw [read1 ag22_B16]; exact rfl) (pastGo (k := 1) (l := [H7]) (by kernel_rfl) rfl (pastCons ⟨_, (m10.row (i := 2) rfl), (by rw [read1 ag22_B16]; exact rfl)⟩ pastNil)) veq_sl rfl (by kernel_rfl) rfl rfl rfl ?_
  refine KD.call 28 rfl rfl rfl (by kernel_rfl) rfl rfl rfl (Clone_api_Latch H7 a_cL n_cL c_cL _ (V.mem m10 h_cL) (by first | omega | assumption)) fun v11 H11 q11 => ?_
  obtain ⟨a11, n11, xs11, D11, hv11, mc11, p11_0, p11_1, p11_2, p11_3⟩ := q11
  dsimp only at hv11 mc11
  subst hv11
  have m12 := m10.seq mc11
  refine KD.pv 60 (PV.fieldAddr fo26_2_B16 rfl) rfl rfl rfl (by kernel_rfl) rfl rfl rfl ?_
  refine KD.load 124 rfl (m12.row (i := 3) rfl) (by rw [read1 ag23_B16]; exact rfl) (pastGo (k := 2) (l := [H11, H7]) (by kernel_rfl) rfl (pastCons ⟨_, (m12.row (i := 3) rfl), (by rw [read1 ag23_B16]; exact rfl)⟩ (pastCons ⟨_, (m10.row (i := 2) rfl), (by rw [read1 ag23_B16]; exact rfl)⟩ pastNil))) veq_sl rfl (by kernel_rfl) rfl rfl rfl ?_
  refine KD.call 252 rfl rfl rfl (by kernel_rfl) rfl rfl rfl (Clone_api_And H11 a_cA n_cA c_cA _ (V.mem m12 h_cA) (by first | omega | assumption)) fun v13 H13 q13 => ?_
  obtain ⟨a13, n13, xs13, D13, hv13, mc13, p13_0, p13_1, p13_2, p13_3⟩ := q13
  dsimp only at hv13 mc13
  subst hv13
  have m14 := m12.seq mc13
  refine KD.pv 253 (PV.move rfl) rfl rfl rfl (by kernel_rfl) rfl rfl rfl ?_
  refine KD.pv 509 (PV.nilCheck rfl) rfl rfl rfl (by kernel_rfl) rfl rfl rfl ?_
  refine KD.pv 1021 (PV.fieldAddr fo319_0_B16 rfl) rfl rfl rfl (by kernel_rfl) rfl rfl rfl ?_
  refine KD.pv 2045 (PV.fieldAddr fo26_1_B16 rfl) rfl rfl rfl (by kernel_rfl) rfl rfl rfl ?_
  refine KD.storeM 4093 m14 (j := 2) rfl sz22_B16 rfl rfl rfl (show 1 + 1 ≤ 6 by decide) (show _ = [.int .i64 ci, .slice a11 n11 n11, .slice a_cA n_cA c_cA, .slice a_cB n_cB c_cB, .slice a_cC n_cC c_cC, .map (some H1.next)] from rfl) rfl (by kernel_rfl) rfl rfl fun H15 m16 => ?_
  refine KD.pv 4095 (PV.move rfl) rfl rfl rfl (by kernel_rfl) rfl rfl rfl ?_
  refine KD.pv 8191 (PV.nilCheck rfl) rfl rfl rfl (by kernel_rfl) rfl rfl rfl ?_
  refine KD.pv 16383 (PV.fieldAddr fo319_0_B16 rfl) rfl rfl rfl (by kernel_rfl) rfl rfl rfl ?_
  refine KD.pv 32767 (PV.fieldAddr fo26_2_B16 rfl) rfl rfl rfl (by kernel_rfl) rfl rfl rfl ?_
  refine KD.storeM 65535 m16 (j := 2) rfl sz23_B16 rfl rfl rfl (show 2 + 1 ≤ 6 by decide) (show _ = [.int .i64 ci, .slice a11 n11 n11, .slice a13 n13 n13, .slice a_cB n_cB c_cB, .slice a_cC n_cC c_cC, .map (some H1.next)] from rfl) rfl (by kernel_rfl) rfl rfl fun H17 m18 => ?_
  refine KD.nil ⟨rfl, ?_⟩
  refine KC.seq ?_
  refine KC.drawG (n := 16) (anc := [0, 0, 0, 4, 12, 0, 32, 124, 253, 509, 1021, 2045, 4095, 8191, 16383, 32767]) (hv := [4, 7, 11, 15]) (ord := [2, 3, 4, 5, 6, 7, 0, 8, 9, 10, 11, 1, 12, 13, 14, 15]) (by kernel_rfl) (by kernel_rfl) (by kernel_rfl) (by kernel_rfl) (by kernel_rfl) fun H19 n20 g21 => ?_
  have m22 := m18.room n20 g21 [] (by decide) (by decide)
  refine KD.pv 4 (PV.fieldAddr fo26_3_B16 rfl) rfl rfl rfl (by kernel_rfl) rfl rfl rfl ?_
  refine KD.load 12 rfl (m22.row (i := 4) rfl) (by rw [read1 ag24_B16]; exact rfl) (pastGo (k := 1) (l := [H19]) (by kernel_rfl) rfl (pastCons ⟨_, (m22.row (i := 4) rfl), (by rw [read1 ag24_B16]; exact rfl)⟩ pastNil)) veq_sl rfl (by kernel_rfl) rfl rfl rfl ?_
  refine KD.call 28 rfl rfl rfl (by kernel_rfl) rfl rfl rfl (Clone_int H19 a_cB n_cB c_cB _ (V.mem m22 h_cB) (by first | omega | assumption)) fun v23 H23 q23 => ?_
  obtain ⟨a23, n23, xs23, D23, hv23, mc23, p23_0, p23_1, p23_2, p23_3⟩ := q23
  dsimp only at hv23 mc23
  subst hv23
  have m24 := m22.seq mc23
  refine KD.pv 60 (PV.fieldAddr fo26_4_B16 rfl) rfl rfl rfl (by kernel_rfl) rfl rfl rfl ?_
  refine KD.load 124 rfl (m24.row (i := 5) rfl) (by rw [read1 ag24_B16]; exact rfl) (pastGo (k := 2) (l := [H23, H19]) (by kernel_rfl) rfl (pastCons ⟨_, (m24.row (i := 5) rfl), (by rw [read1 ag24_B16]; exact rfl)⟩ (pastCons ⟨_, (m22.row (i := 4) rfl), (by rw [read1 ag24_B16]; exact rfl)⟩ pastNil))) veq_sl rfl (by kernel_rfl) rfl rfl rfl ?_
  refine KD.call 252 rfl rfl rfl (by kernel_rfl) rfl rfl rfl (Clone_int H23 a_cC n_cC c_cC _ (V.mem m24 h_cC) (by first | omega | assumption)) fun v25 H25 q25 => ?_
  obtain ⟨a25, n25, xs25, D25, hv25, mc25, p25_0, p25_1, p25_2, p25_3⟩ := q25
  dsimp only at hv25 mc25
  subst hv25
  have m26 := m24.seq mc25
  refine KD.pv 253 (PV.move rfl) rfl rfl rfl (by kernel_rfl) rfl rfl rfl ?_
  refine KD.pv 509 (PV.nilCheck rfl) rfl rfl rfl (by kernel_rfl) rfl rfl rfl ?_
  refine KD.pv 1021 (PV.fieldAddr fo319_0_B16 rfl) rfl rfl rfl (by kernel_rfl) rfl rfl rfl ?_
  refine KD.pv 2045 (PV.fieldAddr fo26_3_B16 rfl) rfl rfl rfl (by kernel_rfl) rfl rfl rfl ?_
  refine KD.storeM 4093 m26 (j := 4) rfl sz24_B16 rfl rfl rfl (show 3 + 1 ≤ 6 by decide) (show _ = [.int .i64 ci, .slice a11 n11 n11, .slice a13 n13 n13, .slice a23 n23 n23, .slice a_cC n_cC c_cC, .map (some H1.next)] from rfl) rfl (by kernel_rfl) rfl rfl fun H27 m28 => ?_
  refine KD.pv 4095 (PV.move rfl) rfl rfl rfl (by kernel_rfl) rfl rfl rfl ?_
  refine KD.pv 8191 (PV.nilCheck rfl) rfl rfl rfl (by kernel_rfl) rfl rfl rfl ?_
  refine KD.pv 16383 (PV.fieldAddr fo319_0_B16 rfl) rfl rfl rfl (by kernel_rfl) rfl rfl rfl ?_
  refine KD.pv 32767 (PV.fieldAddr fo26_4_B16 rfl) rfl rfl rfl (by kernel_rfl) rfl rfl rfl ?_
  refine KD.storeM 65535 m28 (j := 4) rfl sz24_B16 rfl rfl rfl (show 4 + 1 ≤ 6 by decide) (show _ = [.int .i64 ci, .slice a11 n11 n11, .slice a13 n13 n13, .slice a23 n23 n23, .slice a25 n25 n25, .map (some H1.next)] from rfl) rfl (by kernel_rfl) rfl rfl fun H29 m30 => ?_
  refine KD.nil ⟨rfl, ?_⟩
  refine KC.seq ?_
  refine KC.seq ?_
  refine KC.region ?_
  refine KO.pv (PV.fieldAddr fo26_2_B16 rfl) rfl rfl ?_
  refine KO.load1 ag23_B16 rfl (m30.row (i := 6) rfl) rfl rfl rfl ?_
  refine KO.pv (PV.len un23_B16 rfl) rfl rfl ?_
  refine KO.pv (PV.move rfl) rfl rfl ?_
  refine KO.nil ?_
  refine KC.block ?_
  refine KC.sub (l' := [(1, .pointer (some ⟨H.next, 0, none⟩)), (3, .pointer (some ⟨H3.next, 0, none⟩)), (42, .slice a_cA n_cA c_cA), (43, .int .i64 (n_cA : Int)), (44, .int .i64 0)]) (.cons rfl (.cons rfl (.cons rfl (.cons rfl (.cons rfl .nil))))) ?_
  refine KC.loopN (fun kq lq A => ∃ (x44 : Int), kq = ((n_cA : Int) - x44).toNat ∧ lq = [(1, .pointer (some ⟨H.next, 0, none⟩)), (3, .pointer (some ⟨H3.next, 0, none⟩)), (42, .slice a_cA n_cA c_cA), (43, .int .i64 (n_cA : Int)), (44, .int .i64 x44)] ∧ Mem [] H A [R.lst 3 1 a25 n25 (cells (EI .i64) xs25) D25, R.lst 3 1 a23 n23 (cells (EI .i64) xs23) D23, R.lst 187 2 a13 n13 (cells EP xs13) D13, R.lst 150 2 a11 n11 (cells EP xs11) D11, R.row H3.next 319 true [.int .i64 ci, .slice a11 n11 n11, .slice a13 n13 n13, .slice a23 n23 n23, .slice a25 n25 n25, .map (some H1.next)], R.mp H1.next KP (VI fun x => 0 ≤ x ∧ x / 2 ≤ 4002), R.row H.next 26 true [.int .i64 ci, .slice a_cL n_cL c_cL, .slice a_cA n_cA c_cA, .slice a_cB n_cB c_cB, .slice a_cC n_cC c_cC]] ∧ (0 ≤ x44 ∧ x44 ≤ (n_cA : Int))) ?_ (((n_cA : Int) - 0).toNat) ⟨0, rfl, rfl, (m30.pick [0, 1, 2, 3, 4, 5, 6] (by decide) rfl), (by first | omega | assumption | (constructor <;> omega))⟩
  rintro kq lq A31 ⟨x44, rfl, rfl, m32, hr5⟩
  refine KC.seq ?_
  refine KC.region ?_
  refine KO.pv (PV.lssD rfl rfl rfl) rfl rfl ?_
  refine KO.nil ?_
  refine KC.seq ?_
  refine KC.condD rfl (fun h33 => ?_) (fun h33 => ?_)
  · refine KC.skip ?_
    refine KC.seq ?_
    refine KC.block ?_
    refine KC.seq ?_
    refine KC.region ?_
    refine KO.pv (PV.move rfl) rfl rfl ?_
    obtain ⟨b34, o34, p34, r34, e34, ha34, hb34, hr34, hx34, hw34, hc34, ht34⟩ := V.at_ h_cA (z := x44) (by omega) (by omega)
    have hc34_0 : r34.cs[o34 + (x44).toNat * 2 + 0]? = some (.int .i64 e34.1) := hc34 0 (by decide)
    have hc34_1 : r34.cs[o34 + (x44).toNat * 2 + 1]? = some (.int .i64 e34.2) := hc34 1 (by decide)
    obtain ⟨hwa34, hwb34⟩ := hw34
    obtain ⟨loa34, hia34⟩ := rangei64 hwa34
    obtain ⟨lob34, hib34⟩ := rangei64 hwb34
    refine KO.pv (PV.indexAddrZ un23_B16 sz187_B16 rfl ha34 rfl (by omega) (by omega)) rfl rfl ?_
    refine KO.loadN ag187_B16 sz187_B16 rfl (m32.row0 hb34 hr34) ht34 rfl rfl ?_
    refine KO.allocM m32 zt187_B16 rfl rfl fun H35 m36 => ?_
    refine KO.pv (PV.assign rfl) rfl rfl ?_
    refine KO.storeM m36 (i := 0) rfl sz187_B16 rfl rfl rfl (show 0 + 2 ≤ 2 by decide) (show _ = [.int .i64 e34.1, .int .i64 e34.2] from rfl) rfl fun H37 m38 => ?_
    refine KO.nil ?_
    refine KC.seq ?_
    refine KC.region ?_
    refine KO.pv (PV.fieldAddr fo187_0_B16 rfl) rfl rfl ?_
    refine KO.load1 ag3_B16 rfl (m38.row (i := 0) rfl) rfl rfl rfl ?_
    refine KO.pv (PV.fieldAddr fo187_1_B16 rfl) rfl rfl ?_
    refine KO.load1 ag3_B16 rfl (m38.row (i := 0) rfl) rfl rfl rfl ?_
    refine KO.pv (PV.build rfl (bl258_0i64_1i64_B16 _ _)) rfl rfl ?_
    refine KO.allocM m38 zt258_B16 rfl rfl fun H39 m40 => ?_
    refine KO.storeM m40 (i := 0) rfl sz258_B16 rfl rfl rfl (show 0 + 2 ≤ 2 by decide) (show _ = [.int .i64 e34.1, .int .i64 e34.2] from rfl) rfl fun H41 m42 => ?_
    refine KO.nil ?_
    refine KC.seq ?_
    refine KC.drawG (n := 11) (anc := [0, 1, 3, 7, 0, 31, 63, 127, 127, 255, 1023]) (hv := []) (ord := [0, 1, 2, 3, 4, 5, 6, 7, 8, 9, 10]) (by kernel_rfl) (by kernel_rfl) (by kernel_rfl) (by kernel_rfl) (by kernel_rfl) fun H43 n44 g45 => ?_
    have m46 := m42.room n44 g45 [] (by decide) (by decide)
    refine KD.pv 1 (PV.move rfl) rfl rfl rfl (by kernel_rfl) rfl rfl rfl ?_
    refine KD.pv 3 (PV.nilCheck rfl) rfl rfl rfl (by kernel_rfl) rfl rfl rfl ?_
    refine KD.pv 7 (PV.fieldAddr fo319_1_B16 rfl) rfl rfl rfl (by kernel_rfl) rfl rfl rfl ?_
    refine KD.load 15 rfl (m46.row (i := 6) rfl) (by rw [read1 ag317_B16]; exact rfl) (pastGo (k := 1) (l := [H43]) (by kernel_rfl) rfl (pastCons ⟨_, (m46.row (i := 6) rfl), (by rw [read1 ag317_B16]; exact rfl)⟩ pastNil)) veq_map rfl (by kernel_rfl) rfl rfl rfl ?_
    refine KD.load 31 rfl (m46.row (i := 0) rfl) (readN ag258_B16 sz258_B16 (takeN_of (p := [.int .i64 e34.1, .int .i64 e34.2]) rfl  rfl)) (pastGo (k := 1) (l := [H43]) (by kernel_rfl) rfl (pastCons ⟨_, (m46.row (i := 0) rfl), (readN ag258_B16 sz258_B16 (takeN_of (p := [.int .i64 e34.1, .int .i64 e34.2]) rfl  rfl))⟩ pastNil)) (veq_agg (veqCons veqI (veqCons veqI veqNil))) rfl (by kernel_rfl) rfl rfl rfl ?_
    refine KD.lookup2 63 m46 (j := 7) rfl KP.keys mt317_B16 (kk317_B16 _ _) zv317_B16 rfl rfl ⟨_, _, rfl⟩ (fun Hp hp => List.mem_singleton.1 (List.mem_of_mem_take hp)) veqI VI.veq rfl (by kernel_rfl) rfl rfl rfl fun v47 y47 hv47 hz47 => ?_
    obtain ⟨x47, rfl, hx47⟩ : ∃ x : Int, v47 = .int .i64 x ∧ (0 ≤ x ∧ x / 2 ≤ 4002) := VI.got hv47 hz47 (by first | omega | (constructor <;> omega))
    refine KD.pv 127 (PV.move rfl) rfl rfl rfl (by kernel_rfl) rfl rfl rfl ?_
    refine KD.pv 255 (PV.extract rfl rfl) rfl rfl rfl (by kernel_rfl) rfl rfl rfl ?_
    refine KD.pv 511 (PV.extract rfl rfl) rfl rfl rfl (by kernel_rfl) rfl rfl rfl ?_
    refine KD.pv 1023 (PV.assign rfl) rfl rfl rfl (by kernel_rfl) rfl rfl rfl ?_
    refine KD.pv 2047 (PV.assign rfl) rfl rfl rfl (by kernel_rfl) rfl rfl rfl ?_
    refine KD.nil ⟨rfl, ?_⟩
    refine KC.seq ?_
    refine KC.region ?_
    refine KO.pv (PV.move rfl) rfl rfl ?_
    rcases Bool.eq_false_or_eq_true y47 with h48 | h48
    · subst h48
      refine KO.pv (PV.notB rfl rfl) rfl rfl ?_
      refine KO.nil ?_
      refine KC.condF rfl ?_
      refine KC.skip ?_
      refine KC.region ?_
      refine KO.pv (PV.add rfl rfl (wrap64 (by omega) (by omega))) rfl rfl ?_
      refine KO.pv (PV.move rfl) rfl rfl ?_
      refine KO.nil ?_
      exact ⟨_, _, (by omega), (.cons rfl (.cons rfl (.cons rfl (.cons rfl (.cons rfl .nil))))), (x44 + 1), rfl, rfl, (m46.pick [2, 3, 4, 5, 6, 7, 8] (by decide) rfl), (by first | omega | assumption | (constructor <;> omega))⟩
    · subst h48
      refine KO.pv (PV.notB rfl rfl) rfl rfl ?_
      refine KO.nil ?_
      refine KC.condT rfl ?_
      refine KC.drawG (n := 16) (anc := [0, 1, 3, 7, 0, 0, 32, 0, 128, 384, 992, 2016, 0, 8160, 16352, 32767]) (hv := [15]) (ord := [0, 1, 2, 3, 4, 5, 6, 7, 8, 9, 10, 11, 12, 13, 14, 15]) (by kernel_rfl) (by kernel_rfl) (by kernel_rfl) (by kernel_rfl) (by kernel_rfl) fun H49 n50 g51 => ?_
      have m52 := m46.room n50 g51 [] (by decide) (by decide)
      refine KD.pv 1 (PV.move rfl) rfl rfl rfl (by kernel_rfl) rfl rfl rfl ?_
      refine KD.pv 3 (PV.nilCheck rfl) rfl rfl rfl (by kernel_rfl) rfl rfl rfl ?_
      refine KD.pv 7 (PV.fieldAddr fo319_1_B16 rfl) rfl rfl rfl (by kernel_rfl) rfl rfl rfl ?_
      refine KD.load 15 rfl (m52.row (i := 6) rfl) (by rw [read1 ag317_B16]; exact rfl) (pastGo (k := 1) (l := [H49]) (by kernel_rfl) rfl (pastCons ⟨_, (m52.row (i := 6) rfl), (by rw [read1 ag317_B16]; exact rfl)⟩ pastNil)) veq_map rfl (by kernel_rfl) rfl rfl rfl ?_
      refine KD.load 31 rfl (m52.row (i := 0) rfl) (readN ag258_B16 sz258_B16 (takeN_of (p := [.int .i64 e34.1, .int .i64 e34.2]) rfl  rfl)) (pastGo (k := 1) (l := [H49]) (by kernel_rfl) rfl (pastCons ⟨_, (m52.row (i := 0) rfl), (readN ag258_B16 sz258_B16 (takeN_of (p := [.int .i64 e34.1, .int .i64 e34.2]) rfl  rfl))⟩ pastNil)) (veq_agg (veqCons veqI (veqCons veqI veqNil))) rfl (by kernel_rfl) rfl rfl rfl ?_
      refine KD.pv 63 (PV.fieldAddr fo26_0_B16 rfl) rfl rfl rfl (by kernel_rfl) rfl rfl rfl ?_
      refine KD.load 127 rfl (m52.row (i := 8) rfl) (by rw [read1 ag3_B16]; exact rfl) (pastGo (k := 1) (l := [H49]) (by kernel_rfl) rfl (pastCons ⟨_, (m52.row (i := 8) rfl), (by rw [read1 ag3_B16]; exact rfl)⟩ pastNil)) veq_int rfl (by kernel_rfl) rfl rfl rfl ?_
      refine KD.pv 255 (PV.fieldAddr fo26_1_B16 rfl) rfl rfl rfl (by kernel_rfl) rfl rfl rfl ?_
      refine KD.load 511 rfl (m52.row (i := 8) rfl) (by rw [read1 ag22_B16]; exact rfl) (pastGo (k := 1) (l := [H49]) (by kernel_rfl) rfl (pastCons ⟨_, (m52.row (i := 8) rfl), (by rw [read1 ag22_B16]; exact rfl)⟩ pastNil)) veq_sl rfl (by kernel_rfl) rfl rfl rfl ?_
      refine KD.pv 1023 (PV.len un22_B16 rfl) rfl rfl (rd_int _) (by kernel_rfl) rfl rfl rfl ?_
      refine KD.pv 2047 (PV.add rfl rfl (wrap64 (by omega) (by omega))) rfl rfl rfl (by kernel_rfl) rfl rfl rfl ?_
      refine KD.pv 4095 (PV.add rfl rfl (wrap64 (by omega) (by omega))) rfl rfl rfl (by kernel_rfl) rfl rfl rfl ?_
      refine KD.pv 8191 (PV.move rfl) rfl rfl rfl (by kernel_rfl) rfl rfl rfl ?_
      refine KD.pv 16383 (PV.add rfl rfl (wrap64 (by omega) (by omega))) rfl rfl rfl (by kernel_rfl) rfl rfl rfl ?_
      refine KD.pv 32767 (PV.mul rfl rfl (wrap64 (by omega) (by omega))) rfl rfl rfl (by kernel_rfl) rfl rfl rfl ?_
      refine KD.mapPut 65535 m52 (j := 7) rfl (.inl rfl) KP.keys mt317_B16 (kk317_B16 _ _) rfl rfl rfl ⟨_, _, rfl⟩ ⟨_, rfl, by first | omega | (constructor <;> omega)⟩ rfl (by kernel_rfl) rfl rfl fun H53 m54 => ?_
      refine KD.nil ⟨rfl, ?_⟩
      refine KC.region ?_
      refine KO.pv (PV.add rfl rfl (wrap64 (by omega) (by omega))) rfl rfl ?_
      refine KO.pv (PV.move rfl) rfl rfl ?_
      refine KO.nil ?_
      exact ⟨_, _, (by omega), (.cons rfl (.cons rfl (.cons rfl (.cons rfl (.cons rfl .nil))))), (x44 + 1), rfl, rfl, (m54.pick [2, 3, 4, 5, 6, 7, 8] (by decide) rfl), (by first | omega | assumption | (constructor <;> omega))⟩
  · refine KC.exit ?_
    refine KC.seq ?_
    refine KC.region ?_
    refine KO.pv (PV.move rfl) rfl rfl ?_
    refine KO.pv (PV.assign rfl) rfl rfl ?_
    refine KO.nil ?_
    exact KC.ret ⟨rfl, _, (.tmp rfl .nil), H3.next, H1.next, a11, n11, xs11, D11, a13, n13, xs13, D13, a23, n23, xs23, D23, a25, n25, xs25, D25, rfl, m32.pick [4, 3, 2, 1, 0, 5] (by decide) rfl, (by first | omega | (intro h; omega) | (simp only [List.length_nil, true_and, and_true, or_true, true_or] <;> omega) | (exact ⟨p11_1, p13_1, p23_1, p25_1⟩)), (by first | omega | (intro h; omega) | (simp only [List.length_nil, true_and, and_true, or_true, true_or] <;> omega) | (exact fun u hu => p11_3 u hu)), (by first | omega | (intro h; omega) | (simp only [List.length_nil, true_and, and_true, or_true, true_or] <;> omega) | (exact fun u hu => p13_3 u hu)), (by first | omega | (intro h; omega) | (simp only [List.length_nil, true_and, and_true, or_true, true_or] <;> omega) | (exact fun u hu => p23_3 u hu)), (by first | omega | (intro h; omega) | (simp only [List.length_nil, true_and, and_true, or_true, true_or] <;> omega) | (exact fun u hu => p25_3 u hu))⟩
theorem hash_of (H : AHeap) (l : Int) (b_t : Nat) (r_told n_told : Nat) (told : List Int) (w_l : IntKind.i64.wrap l = l) (h_g : Mem ([b_t] ++ ([r_told] ++ [])) H H [R.row b_t 24 true [.slice (some ⟨r_told, 0, none⟩) n_told n_told], R.row r_told 3 true (cells (EI .i64) told)]) (len_told : told.length = n_told) (max_told : n_told ≤ 330000000) (wf_told : ∀ u ∈ told, (EI .i64).wf u) (h0 : 0 ≤ l ∧ l / 2 < n_told) (ht : ∀ u ∈ told, 0 ≤ u ∧ u / 2 ≤ 4002) : WF E0 230 [.int .i64 l, .pointer (some ⟨b_t, 0, none⟩)] H fun q => ∃ (z : Int), q.1 = .int .i64 z ∧ Mem ([b_t] ++ ([r_told] ++ [])) H q.2 [R.row b_t 24 true [.slice (some ⟨r_told, 0, none⟩) n_told n_told], R.row r_told 3 true (cells (EI .i64) told)] ∧ (0 ≤ z ∧ z / 2 ≤ 4002) := by
  obtain ⟨lo_l, hi_l⟩ := rangei64 w_l
  have m0 := h_g
  refine WF.kg Tryz.func230 rfl rfl ?_
  refine KC.seq ?_
  refine KC.region ?_
  refine KO.pv (PV.assign rfl) rfl rfl ?_
  refine KO.nil ?_
  refine KC.seq ?_
  refine KC.region ?_
  refine KO.load1 ag24_B16 rfl (m0.row (i := 0) rfl) rfl rfl rfl ?_
  refine KO.pv (PV.move rfl) rfl rfl ?_
  refine KO.pv (PV.quo rfl rfl (by omega) (quoN (by omega) (by omega))) rfl rfl ?_
  refine KO.pv (PV.indexAddrZ un24_B16 sz3_B16 rfl rfl rfl (by omega) (by omega)) rfl rfl ?_
  obtain ⟨e2, hx2⟩ : ∃ x, (told)[((l / 2)).toNat]? = some x := ⟨_, List.getElem?_eq_getElem (by first | omega | (simp only [splice, List.length_append, List.length_set, List.length_replicate, List.length_map, List.length_take, List.length_drop, List.length_cons, List.length_nil] <;> omega))⟩
  have hw2 := wf_told _ (List.mem_of_getElem? hx2)
  have hw2 : IntKind.i64.wrap e2 = e2 := hw2
  obtain ⟨lo2, hi2⟩ := rangei64 hw2
  have k2 := ht _ (List.mem_of_getElem? hx2)
  refine KO.load1 ag3_B16 rfl (m0.row (i := 1) rfl) (cells_at1 hx2 rfl) rfl rfl ?_
  refine KO.pv (PV.move rfl) rfl rfl ?_
  refine KO.pv (PV.and1 rfl rfl (by omega) (by omega)) rfl rfl ?_
  obtain ⟨x3, rx3, dx3, zx3, qx3⟩ := xorB (e2) ((l % 2)) (by omega) (by omega) (by omega) (by omega)
  refine KO.pv (PV.xorB rfl rfl qx3) rfl rfl ?_
  refine KO.pv (PV.assign rfl) rfl rfl ?_
  refine KO.nil ?_
  exact KC.ret ⟨rfl, _, (.tmp rfl .nil), x3, rfl, m0.pick [0, 1] (by decide) rfl, (by first | omega | (intro h; omega) | (simp only [List.length_nil, true_and, and_true, or_true, true_or] <;> omega))⟩
set_option maxHeartbeats 4000000 in
theorem hash_Build (H : AHeap) (ci : Int) (a_cL : Option Addr) (n_cL c_cL : Nat) (cL : List (Int × Int)) (a_cA : Option Addr) (n_cA c_cA : Nat) (cA : List (Int × Int)) (a_cB : Option Addr) (n_cB c_cB : Nat) (cB : List Int) (a_cC : Option Addr) (n_cC c_cC : Nat) (cC : List Int) (a_g : Option Addr) (n_g c_g : Nat) (g : List Int) (w_ci : IntKind.i64.wrap ci = ci) (h_cL : V EP H a_cL n_cL c_cL cL) (h_cA : V EP H a_cA n_cA c_cA cA) (h_cB : V (EI .i64) H a_cB n_cB c_cB cB) (h_cC : V (EI .i64) H a_cC n_cC c_cC cC) (h_g : V (EI .i64) H a_g n_g c_g g) : WF E0 172 [.agg #[.int .i64 ci, .slice a_cL n_cL c_cL, .slice a_cA n_cA c_cA, .slice a_cB n_cB c_cB, .slice a_cC n_cC c_cC], .slice a_g n_g c_g] H fun q => ∃ (r0 : Int) (r1a : Option Addr) (r1n : Nat) (r1c : Nat) (r1 : List (Int × Int)) (r1D : List Nat) (r2a : Option Addr) (r2n : Nat) (r2c : Nat) (r2 : List (Int × Int)) (r2D : List Nat) (r3a : Option Addr) (r3n : Nat) (r3c : Nat) (r3 : List Int) (r3D : List Nat) (r4a : Option Addr) (r4n : Nat) (r4c : Nat) (r4 : List Int) (r4D : List Nat) (ta : Option Addr) (tn : Nat) (tc : Nat) (t : List Int) (tD : List Nat) (e : Int), q.1 = .tuple #[.agg #[.int .i64 r0, .slice r1a r1n r1c, .slice r2a r2n r2c, .slice r3a r3n r3c, .slice r4a r4n r4c], .slice ta tn tc, .int .i64 e] ∧ Mem [] H q.2 [R.own EP r1a r1n r1c r1 r1D, R.own EP r2a r2n r2c r2 r2D, R.own (EI .i64) r3a r3n r3c r3 r3D, R.own (EI .i64) r4a r4n r4c r4 r4D, R.own (EI .i64) ta tn tc t tD] ∧ (0 ≤ e ∧ e ≤ 100) ∧ (r1n ≤ 1000 ∧ r2n ≤ 1001 ∧ r3n ≤ 100 ∧ r4n ≤ 100 ∧ tn ≤ 1001) ∧ ((0 ≤ r0 ∧ r0 ≤ 1000000)) ∧ (CirOK ci cL cA cB cC → (n_g : Int) = 1 + ci + n_cL + n_cA → (∀ (j : Nat) u, g[j]? = some u → -1 ≤ u ∧ u < 2 * (j : Int) ∧ (0 ≤ u → ci < j)) → e = 0) ∧ (e = 0 → r1n = n_cL ∧ CirOK ci cL cA cB cC) := by
  obtain ⟨lo_ci, hi_ci⟩ := rangei64 w_ci
  obtain ⟨len_cL, cap_cL, max_cL, wf_cL⟩ := h_cL.len
  obtain ⟨len_cA, cap_cA, max_cA, wf_cA⟩ := h_cA.len
  obtain ⟨len_cB, cap_cB, max_cB, wf_cB⟩ := h_cB.len
  obtain ⟨len_cC, cap_cC, max_cC, wf_cC⟩ := h_cC.len
  obtain ⟨len_g, cap_g, max_g, wf_g⟩ := h_g.len
  have m0 : Mem [] H H [] := Mem.start
  refine WF.kg Tryz.func172 rfl rfl ?_
  refine KC.seq ?_
  refine KC.region ?_
  refine KO.boxM m0 rfl rfl (show _ = [.int .i64 ci, .slice a_cL n_cL c_cL, .slice a_cA n_cA c_cA, .slice a_cB n_cB c_cB, .slice a_cC n_cC c_cC] from rfl) rfl rfl fun H1 m2 => ?_
  refine KO.allocM m2 zt26_B16 rfl rfl fun H3 m4 => ?_
  refine KO.pv (PV.assign rfl) rfl rfl ?_
  refine KO.pv (PV.assign rfl) rfl rfl ?_
  refine KO.nil ?_
  refine KC.seq ?_
  refine KC.region ?_
  refine KO.loadN ag26_B16 sz26_B16 rfl (m4.row (i := 1) rfl) (takeN_of (p := [.int .i64 ci, .slice a_cL n_cL c_cL, .slice a_cA n_cA c_cA, .slice a_cB n_cB c_cB, .slice a_cC n_cC c_cC]) rfl  rfl) rfl rfl ?_
  refine KO.call rfl rfl rfl rfl (gates_Vars H3 ci a_cL n_cL c_cL _ a_cA n_cA c_cA _ a_cB n_cB c_cB _ a_cC n_cC c_cC _ (wrap64 (by omega) (by omega)) (V.mem m4 h_cL) (V.mem m4 h_cA) (V.mem m4 h_cB) (V.mem m4 h_cC)) fun v5 H5 q5 => ?_
  obtain ⟨n5, e5, hv5, mc5, p5_0, p5_1, p5_2⟩ := q5
  dsimp only at hv5 mc5
  subst hv5
  have m6 := m4.seq mc5
  refine KO.pv (PV.move rfl) rfl rfl ?_
  refine KO.pv (PV.extract rfl rfl) rfl rfl ?_
  refine KO.pv (PV.extract rfl rfl) rfl rfl ?_
  refine KO.pv (PV.assign rfl) rfl rfl ?_
  refine KO.pv (PV.assign rfl) rfl rfl ?_
  refine KO.nil ?_
  refine KC.seq ?_
  refine KC.seq ?_
  refine KC.region ?_
  refine KO.pv (PV.move rfl) rfl rfl ?_
  refine KO.pv (PV.neqD rfl rfl rfl) rfl rfl ?_
  refine KO.nil ?_
  refine KC.condD rfl (fun h7 => ?_) (fun h7 => ?_)
  · refine KC.seq ?_
    refine KC.region ?_
    refine KO.pv (PV.build rfl bl26__B16) rfl rfl ?_
    refine KO.pv (PV.move rfl) rfl rfl ?_
    refine KO.storeM m6 (i := 0) rfl sz26_B16 rfl rfl rfl (show 0 + 5 ≤ 5 by decide) (show _ = [.int .i64 0, .slice none 0 0, .slice none 0 0, .slice none 0 0, .slice none 0 0] from rfl) rfl fun H8 m9 => ?_
    refine KO.pv (PV.assign rfl) rfl rfl ?_
    refine KO.pv (PV.assign rfl) rfl rfl ?_
    refine KO.nil ?_
    have m10 := m9.ownNil (C := EP)
    have m11 := m10.ownNil (C := EP)
    have m12 := m11.ownNil (C := (EI .i64))
    have m13 := m12.ownNil (C := (EI .i64))
    have m14 := m13.ownNil (C := (EI .i64))
    exact KC.ret ⟨rfl, _, (.cell rfl (ldN (m9.row (i := 0) rfl) ag26_B16 sz26_B16 rfl rfl) (.tmp rfl (.tmp rfl .nil))), 0, none, 0, 0, [], [], none, 0, 0, [], [], none, 0, 0, [], [], none, 0, 0, [], [], none, 0, 0, [], [], e5, rfl, m14.pick [4, 3, 2, 1, 0] (by decide) rfl, (by first | omega | (intro h; omega) | (simp only [List.length_nil, true_and, and_true, or_true, true_or] <;> omega)), (by first | omega | (intro h; omega) | (simp only [List.length_nil, true_and, and_true, or_true, true_or] <;> omega)), (by first | omega | (intro h; omega) | (simp only [List.length_nil, true_and, and_true, or_true, true_or] <;> omega)), (by first | omega | (intro h; omega) | (simp only [List.length_nil, true_and, and_true, or_true, true_or] <;> omega) | (exact fun _ _ _ => rfl) | (exact fun h _ _ => p5_2 h) | (exact fun _ h _ => by omega)), (by first | omega | (intro h; omega) | (simp only [List.length_nil, true_and, and_true, or_true, true_or] <;> omega) | (exact fun _ => ⟨by omega, by assumption⟩))⟩
  · have p5_0t := p5_0 (by omega)
    obtain ⟨p5_0s, p5_0u⟩ := id p5_0t
    obtain ⟨p5_0_i0, p5_0_al, p5_0_b, p5_0_c, p5_0_hb, p5_0_hc, p5_0_hl, p5_0_ha⟩ := id p5_0s
    refine KC.skip ?_
    refine KC.seq ?_
    refine KC.seq ?_
    refine KC.region ?_
    refine KO.pv (PV.move rfl) rfl rfl ?_
    refine KO.pv (PV.len un24_B16 rfl) rfl rfl ?_
    refine KO.pv (PV.move rfl) rfl rfl ?_
    refine KO.pv (PV.add rfl rfl (wrap64 (by omega) (by omega))) rfl rfl ?_
    refine KO.pv (PV.neqD rfl rfl rfl) rfl rfl ?_
    refine KO.nil ?_
    refine KC.condD rfl (fun h15 => ?_) (fun h15 => ?_)
    · refine KC.seq ?_
      refine KC.region ?_
      refine KO.pv (PV.build rfl bl26__B16) rfl rfl ?_
      refine KO.storeM m6 (i := 0) rfl sz26_B16 rfl rfl rfl (show 0 + 5 ≤ 5 by decide) (show _ = [.int .i64 0, .slice none 0 0, .slice none 0 0, .slice none 0 0, .slice none 0 0] from rfl) rfl fun H16 m17 => ?_
      refine KO.pv (PV.assign rfl) rfl rfl ?_
      refine KO.pv (PV.assign rfl) rfl rfl ?_
      refine KO.nil ?_
      have m18 := m17.ownNil (C := EP)
      have m19 := m18.ownNil (C := EP)
      have m20 := m19.ownNil (C := (EI .i64))
      have m21 := m20.ownNil (C := (EI .i64))
      have m22 := m21.ownNil (C := (EI .i64))
      exact KC.ret ⟨rfl, _, (.cell rfl (ldN (m17.row (i := 0) rfl) ag26_B16 sz26_B16 rfl rfl) (.tmp rfl (.tmp rfl .nil))), 0, none, 0, 0, [], [], none, 0, 0, [], [], none, 0, 0, [], [], none, 0, 0, [], [], none, 0, 0, [], [], 2, rfl, m22.pick [4, 3, 2, 1, 0] (by decide) rfl, (by first | omega | (intro h; omega) | (simp only [List.length_nil, true_and, and_true, or_true, true_or] <;> omega)), (by first | omega | (intro h; omega) | (simp only [List.length_nil, true_and, and_true, or_true, true_or] <;> omega)), (by first | omega | (intro h; omega) | (simp only [List.length_nil, true_and, and_true, or_true, true_or] <;> omega)), (by first | omega | (intro h; omega) | (simp only [List.length_nil, true_and, and_true, or_true, true_or] <;> omega) | (exact fun _ _ _ => rfl) | (exact fun h _ _ => p5_2 h) | (exact fun _ h _ => by omega)), (by first | omega | (intro h; omega) | (simp only [List.length_nil, true_and, and_true, or_true, true_or] <;> omega) | (exact fun _ => ⟨by omega, by assumption⟩))⟩
    · refine KC.skip ?_
      refine KC.seq ?_
      refine KC.seq ?_
      refine KC.region ?_
      refine KO.pv (PV.move rfl) rfl rfl ?_
      refine KO.pv (PV.len un24_B16 rfl) rfl rfl ?_
      refine KO.pv (PV.move rfl) rfl rfl ?_
      refine KO.nil ?_
      refine KC.block ?_
      refine KC.sub (l' := [(1, .slice a_g n_g c_g), (2, .pointer (some ⟨H.next, 0, none⟩)), (4, .pointer (some ⟨H1.next, 0, none⟩)), (7, .int .i64 n5), (37, .slice a_g n_g c_g), (38, .int .i64 (n_g : Int)), (39, .int .i64 0)]) (.cons rfl (.cons rfl (.cons rfl (.cons rfl (.cons rfl (.cons rfl (.cons rfl .nil))))))) ?_
      refine KC.loopN (fun kq lq A => ∃ (x39 : Int), kq = ((n_g : Int) - x39).toNat ∧ lq = [(1, .slice a_g n_g c_g), (2, .pointer (some ⟨H.next, 0, none⟩)), (4, .pointer (some ⟨H1.next, 0, none⟩)), (7, .int .i64 n5), (37, .slice a_g n_g c_g), (38, .int .i64 (n_g : Int)), (39, .int .i64 x39)] ∧ Mem [] H A [R.row H1.next 26 true [.int .i64 0, .slice none 0 0, .slice none 0 0, .slice none 0 0, .slice none 0 0], R.row H.next 26 true [.int .i64 ci, .slice a_cL n_cL c_cL, .slice a_cA n_cA c_cA, .slice a_cB n_cB c_cB, .slice a_cC n_cC c_cC]] ∧ (0 ≤ x39 ∧ x39 ≤ (n_g : Int)) ∧ (Ahead g x39 fun j u => u < 2 * (j : Int))) ?_ (((n_g : Int) - 0).toNat) ⟨0, rfl, rfl, (m6.pick [0, 1] (by decide) rfl), (by first | omega | assumption | (constructor <;> omega)), Ahead.zero⟩
      rintro kq lq A23 ⟨x39, rfl, rfl, m24, hr7, hpre⟩
      refine KC.seq ?_
      refine KC.region ?_
      refine KO.pv (PV.lssD rfl rfl rfl) rfl rfl ?_
      refine KO.nil ?_
      refine KC.seq ?_
      refine KC.condD rfl (fun h25 => ?_) (fun h25 => ?_)
      · refine KC.skip ?_
        refine KC.seq ?_
        refine KC.block ?_
        refine KC.seq ?_
        refine KC.region ?_
        refine KO.pv (PV.move rfl) rfl rfl ?_
        obtain ⟨b26, o26, p26, r26, e26, ha26, hb26, hr26, hx26, hw26, hc26, ht26⟩ := V.at_ h_g (z := x39) (by omega) (by omega)
        have hc26_0 : r26.cs[o26 + (x39).toNat * 1 + 0]? = some (.int .i64 e26) := hc26 0 (by decide)
        have hw26 : IntKind.i64.wrap e26 = e26 := hw26
        obtain ⟨lo26, hi26⟩ := rangei64 hw26
        refine KO.pv (PV.indexAddrZ un24_B16 sz3_B16 rfl ha26 rfl (by omega) (by omega)) rfl rfl ?_
        refine KO.load1 ag3_B16 rfl (m24.row0 hb26 hr26) hc26_0 rfl rfl ?_
        refine KO.pv (PV.assign rfl) rfl rfl ?_
        refine KO.pv (PV.assign rfl) rfl rfl ?_
        refine KO.nil ?_
        refine KC.seq ?_
        refine KC.region ?_
        refine KO.pv (PV.move rfl) rfl rfl ?_
        by_cases h27 : e26 < (-1)
        · refine KO.pv (PV.lssD rfl rfl (decide_eq_true h27)) rfl rfl ?_
          refine KO.pv (PV.move rfl) rfl rfl ?_
          refine KO.no rfl rfl rfl ?_
          refine KO.no rfl rfl rfl ?_
          refine KO.no rfl rfl rfl ?_
          refine KO.no rfl rfl rfl ?_
          refine KO.pv (PV.pickT rfl rfl rfl) rfl rfl ?_
          refine KO.pv (PV.move rfl) rfl rfl ?_
          refine KO.no rfl rfl rfl ?_
          refine KO.no rfl rfl rfl ?_
          refine KO.no rfl rfl rfl ?_
          refine KO.no rfl rfl rfl ?_
          refine KO.no rfl rfl rfl ?_
          refine KO.no rfl rfl rfl ?_
          refine KO.no rfl rfl rfl ?_
          refine KO.no rfl rfl rfl ?_
          refine KO.pv (PV.pickT rfl rfl rfl) rfl rfl ?_
          refine KO.nil ?_
          refine KC.condT rfl ?_
          refine KC.seq ?_
          refine KC.region ?_
          refine KO.pv (PV.build rfl bl26__B16) rfl rfl ?_
          refine KO.storeM m24 (i := 0) rfl sz26_B16 rfl rfl rfl (show 0 + 5 ≤ 5 by decide) (show _ = [.int .i64 0, .slice none 0 0, .slice none 0 0, .slice none 0 0, .slice none 0 0] from rfl) rfl fun H28 m29 => ?_
          refine KO.pv (PV.assign rfl) rfl rfl ?_
          refine KO.pv (PV.assign rfl) rfl rfl ?_
          refine KO.nil ?_
          have m30 := m29.ownNil (C := EP)
          have m31 := m30.ownNil (C := EP)
          have m32 := m31.ownNil (C := (EI .i64))
          have m33 := m32.ownNil (C := (EI .i64))
          have m34 := m33.ownNil (C := (EI .i64))
          exact KC.ret ⟨rfl, _, (.cell rfl (ldN (m29.row (i := 0) rfl) ag26_B16 sz26_B16 rfl rfl) (.tmp rfl (.tmp rfl .nil))), 0, none, 0, 0, [], [], none, 0, 0, [], [], none, 0, 0, [], [], none, 0, 0, [], [], none, 0, 0, [], [], 2, rfl, m34.pick [4, 3, 2, 1, 0] (by decide) rfl, (by first | omega | (intro h; omega) | (simp only [List.length_nil, true_and, and_true, or_true, true_or] <;> omega)), (by first | omega | (intro h; omega) | (simp only [List.length_nil, true_and, and_true, or_true, true_or] <;> omega)), (by first | omega | (intro h; omega) | (simp only [List.length_nil, true_and, and_true, or_true, true_or] <;> omega)), (by first | omega | (intro h; omega) | (simp only [List.length_nil, true_and, and_true, or_true, true_or] <;> omega) | (exact fun _ _ _ => rfl) | (exact fun h _ _ => p5_2 h) | (exact fun _ h _ => by omega) | (exact fun _ _ h => by have h2 := h _ _ hx26; omega)), (by first | omega | (intro h; omega) | (simp only [List.length_nil, true_and, and_true, or_true, true_or] <;> omega) | (exact fun _ => ⟨by omega, by assumption⟩))⟩
        · refine KO.pv (PV.lssD rfl rfl (decide_eq_false h27)) rfl rfl ?_
          refine KO.pv (PV.move rfl) rfl rfl ?_
          refine KO.pv (PV.move rfl) rfl rfl ?_
          refine KO.pv (PV.move rfl) rfl rfl ?_
          refine KO.pv (PV.mul rfl rfl (wrap64 (by omega) (by omega))) rfl rfl ?_
          by_cases h35 : (2 * x39) ≤ e26
          · refine KO.pv (PV.geqD rfl rfl (decide_eq_true h35)) rfl rfl ?_
            refine KO.pv (PV.pickF rfl rfl rfl) rfl rfl ?_
            refine KO.pv (PV.move rfl) rfl rfl ?_
            refine KO.no rfl rfl rfl ?_
            refine KO.no rfl rfl rfl ?_
            refine KO.no rfl rfl rfl ?_
            refine KO.no rfl rfl rfl ?_
            refine KO.no rfl rfl rfl ?_
            refine KO.no rfl rfl rfl ?_
            refine KO.no rfl rfl rfl ?_
            refine KO.no rfl rfl rfl ?_
            refine KO.pv (PV.pickT rfl rfl rfl) rfl rfl ?_
            refine KO.nil ?_
            refine KC.condT rfl ?_
            refine KC.seq ?_
            refine KC.region ?_
            refine KO.pv (PV.build rfl bl26__B16) rfl rfl ?_
            refine KO.storeM m24 (i := 0) rfl sz26_B16 rfl rfl rfl (show 0 + 5 ≤ 5 by decide) (show _ = [.int .i64 0, .slice none 0 0, .slice none 0 0, .slice none 0 0, .slice none 0 0] from rfl) rfl fun H36 m37 => ?_
            refine KO.pv (PV.assign rfl) rfl rfl ?_
            refine KO.pv (PV.assign rfl) rfl rfl ?_
            refine KO.nil ?_
            have m38 := m37.ownNil (C := EP)
            have m39 := m38.ownNil (C := EP)
            have m40 := m39.ownNil (C := (EI .i64))
            have m41 := m40.ownNil (C := (EI .i64))
            have m42 := m41.ownNil (C := (EI .i64))
            exact KC.ret ⟨rfl, _, (.cell rfl (ldN (m37.row (i := 0) rfl) ag26_B16 sz26_B16 rfl rfl) (.tmp rfl (.tmp rfl .nil))), 0, none, 0, 0, [], [], none, 0, 0, [], [], none, 0, 0, [], [], none, 0, 0, [], [], none, 0, 0, [], [], 2, rfl, m42.pick [4, 3, 2, 1, 0] (by decide) rfl, (by first | omega | (intro h; omega) | (simp only [List.length_nil, true_and, and_true, or_true, true_or] <;> omega)), (by first | omega | (intro h; omega) | (simp only [List.length_nil, true_and, and_true, or_true, true_or] <;> omega)), (by first | omega | (intro h; omega) | (simp only [List.length_nil, true_and, and_true, or_true, true_or] <;> omega)), (by first | omega | (intro h; omega) | (simp only [List.length_nil, true_and, and_true, or_true, true_or] <;> omega) | (exact fun _ _ _ => rfl) | (exact fun h _ _ => p5_2 h) | (exact fun _ h _ => by omega) | (exact fun _ _ h => by have h2 := h _ _ hx26; omega)), (by first | omega | (intro h; omega) | (simp only [List.length_nil, true_and, and_true, or_true, true_or] <;> omega) | (exact fun _ => ⟨by omega, by assumption⟩))⟩
          · refine KO.pv (PV.geqD rfl rfl (decide_eq_false h35)) rfl rfl ?_
            refine KO.pv (PV.pickF rfl rfl rfl) rfl rfl ?_
            refine KO.pv (PV.move rfl) rfl rfl ?_
            refine KO.pv (PV.move rfl) rfl rfl ?_
            by_cases h43 : 0 ≤ e26
            · refine KO.pv (PV.geqD rfl rfl (decide_eq_true h43)) rfl rfl ?_
              refine KO.pv (PV.move rfl) rfl rfl ?_
              refine KO.pv (PV.move rfl) rfl rfl ?_
              refine KO.pv (PV.fieldAddr fo26_0_B16 rfl) rfl rfl ?_
              refine KO.load1 ag3_B16 rfl (m24.row (i := 1) rfl) rfl rfl rfl ?_
              refine KO.pv (PV.leqD rfl rfl rfl) rfl rfl ?_
              refine KO.pv (PV.pickT rfl rfl rfl) rfl rfl ?_
              refine KO.pv (PV.pickF rfl rfl rfl) rfl rfl ?_
              refine KO.nil ?_
              refine KC.condD rfl (fun h44 => ?_) (fun h44 => ?_)
              · refine KC.seq ?_
                refine KC.region ?_
                refine KO.pv (PV.build rfl bl26__B16) rfl rfl ?_
                refine KO.storeM m24 (i := 0) rfl sz26_B16 rfl rfl rfl (show 0 + 5 ≤ 5 by decide) (show _ = [.int .i64 0, .slice none 0 0, .slice none 0 0, .slice none 0 0, .slice none 0 0] from rfl) rfl fun H45 m46 => ?_
                refine KO.pv (PV.assign rfl) rfl rfl ?_
                refine KO.pv (PV.assign rfl) rfl rfl ?_
                refine KO.nil ?_
                have m47 := m46.ownNil (C := EP)
                have m48 := m47.ownNil (C := EP)
                have m49 := m48.ownNil (C := (EI .i64))
                have m50 := m49.ownNil (C := (EI .i64))
                have m51 := m50.ownNil (C := (EI .i64))
                exact KC.ret ⟨rfl, _, (.cell rfl (ldN (m46.row (i := 0) rfl) ag26_B16 sz26_B16 rfl rfl) (.tmp rfl (.tmp rfl .nil))), 0, none, 0, 0, [], [], none, 0, 0, [], [], none, 0, 0, [], [], none, 0, 0, [], [], none, 0, 0, [], [], 2, rfl, m51.pick [4, 3, 2, 1, 0] (by decide) rfl, (by first | omega | (intro h; omega) | (simp only [List.length_nil, true_and, and_true, or_true, true_or] <;> omega)), (by first | omega | (intro h; omega) | (simp only [List.length_nil, true_and, and_true, or_true, true_or] <;> omega)), (by first | omega | (intro h; omega) | (simp only [List.length_nil, true_and, and_true, or_true, true_or] <;> omega)), (by first | omega | (intro h; omega) | (simp only [List.length_nil, true_and, and_true, or_true, true_or] <;> omega) | (exact fun _ _ _ => rfl) | (exact fun h _ _ => p5_2 h) | (exact fun _ h _ => by omega) | (exact fun _ _ h => by have h2 := h _ _ hx26; omega)), (by first | omega | (intro h; omega) | (simp only [List.length_nil, true_and, and_true, or_true, true_or] <;> omega) | (exact fun _ => ⟨by omega, by assumption⟩))⟩
              · refine KC.skip ?_
                refine KC.region ?_
                refine KO.pv (PV.add rfl rfl (wrap64 (by omega) (by omega))) rfl rfl ?_
                refine KO.pv (PV.move rfl) rfl rfl ?_
                refine KO.nil ?_
                exact ⟨_, _, (by omega), (.cons rfl (.cons rfl (.cons rfl (.cons rfl (.cons rfl (.cons rfl (.cons rfl .nil))))))), (x39 + 1), rfl, rfl, (m24.pick [0, 1] (by decide) rfl), (by first | omega | assumption | (constructor <;> omega)), (hpre.step (by assumption) (by omega) (by omega))⟩
            · refine KO.pv (PV.geqD rfl rfl (decide_eq_false h43)) rfl rfl ?_
              refine KO.pv (PV.move rfl) rfl rfl ?_
              refine KO.no rfl rfl rfl ?_
              refine KO.no rfl rfl rfl ?_
              refine KO.no rfl rfl rfl ?_
              refine KO.no rfl rfl rfl ?_
              refine KO.pv (PV.pickF rfl rfl rfl) rfl rfl ?_
              refine KO.pv (PV.pickF rfl rfl rfl) rfl rfl ?_
              refine KO.nil ?_
              refine KC.condF rfl ?_
              refine KC.skip ?_
              refine KC.region ?_
              refine KO.pv (PV.add rfl rfl (wrap64 (by omega) (by omega))) rfl rfl ?_
              refine KO.pv (PV.move rfl) rfl rfl ?_
              refine KO.nil ?_
              exact ⟨_, _, (by omega), (.cons rfl (.cons rfl (.cons rfl (.cons rfl (.cons rfl (.cons rfl (.cons rfl .nil))))))), (x39 + 1), rfl, rfl, (m24.pick [0, 1] (by decide) rfl), (by first | omega | assumption | (constructor <;> omega)), (hpre.step (by assumption) (by omega) (by omega))⟩
      · refine KC.exit ?_
        have hkg := hpre.all len_g (by omega)
        refine KC.seq ?_
        refine KC.region ?_
        refine KO.loadN ag26_B16 sz26_B16 rfl (m24.row (i := 1) rfl) (takeN_of (p := [.int .i64 ci, .slice a_cL n_cL c_cL, .slice a_cA n_cA c_cA, .slice a_cB n_cB c_cB, .slice a_cC n_cC c_cC]) rfl  rfl) rfl rfl ?_
        refine KO.allocM m24 zt26_B16 rfl rfl fun H52 m53 => ?_
        refine KO.storeM m53 (i := 0) rfl sz26_B16 rfl rfl rfl (show 0 + 5 ≤ 5 by decide) (show _ = [.int .i64 ci, .slice a_cL n_cL c_cL, .slice a_cA n_cA c_cA, .slice a_cB n_cB c_cB, .slice a_cC n_cC c_cC] from rfl) rfl fun H54 m55 => ?_
        refine KO.nil ?_
        refine KC.seq ?_
        refine KC.region ?_
        refine KO.pv (PV.fieldAddr fo26_2_B16 rfl) rfl rfl ?_
        refine KO.storeM m55 (i := 0) rfl sz23_B16 rfl rfl rfl (show 2 + 1 ≤ 5 by decide) (show _ = [.int .i64 ci, .slice a_cL n_cL c_cL, .slice none 0 0, .slice a_cB n_cB c_cB, .slice a_cC n_cC c_cC] from rfl) rfl fun H56 m57 => ?_
        refine KO.nil ?_
        refine KC.seq ?_
        refine KC.region ?_
        refine KO.loadN ag26_B16 sz26_B16 rfl (m57.row (i := 0) rfl) (takeN_of (p := [.int .i64 ci, .slice a_cL n_cL c_cL, .slice none 0 0, .slice a_cB n_cB c_cB, .slice a_cC n_cC c_cC]) rfl  rfl) rfl rfl ?_
        refine KO.call rfl rfl rfl rfl (hash_begin H56 ci a_cL n_cL c_cL _ none 0 0 [] a_cB n_cB c_cB _ a_cC n_cC c_cC _ (wrap64 (by omega) (by omega)) (V.mem m57 h_cL) (V.nil (fun _ h => by cases h)) (V.mem m57 h_cB) (V.mem m57 h_cC) (by first | omega | assumption)) fun v58 H58 q58 => ?_
        obtain ⟨b58, m58, a1_58, n1_58, l1_58, D1_58, a2_58, n2_58, l2_58, D2_58, a3_58, n3_58, l3_58, D3_58, a4_58, n4_58, l4_58, D4_58, hv58, mc58, p58_0, p58_1, p58_2, p58_3, p58_4⟩ := q58
        dsimp only at hv58 mc58
        subst hv58
        have m59 := m57.seq mc58
        have ll58_1 : l1_58.length = n1_58 := m59.lstLen (E := EP) (i := 1) rfl
        have ll58_2 : l2_58.length = n2_58 := m59.lstLen (E := EP) (i := 2) rfl
        have ll58_3 : l3_58.length = n3_58 := m59.lstLen (E := (EI .i64)) (i := 3) rfl
        have ll58_4 : l4_58.length = n4_58 := m59.lstLen (E := (EI .i64)) (i := 4) rfl
        refine KO.pv (PV.assign rfl) rfl rfl ?_
        refine KO.nil ?_
        refine KC.seq ?_
        refine KC.region ?_
        refine KO.pv (PV.move rfl) rfl rfl ?_
        refine KO.pv (PV.add rfl rfl (wrap64 (by omega) (by omega))) rfl rfl ?_
        refine KO.makeSliceM (C := (EI .i64)) 0 m59 el24_B16 ez3_B16 sb3_B16 rfl rfl (by omega) (by omega) (by omega) rfl rfl fun H60 m61 => ?_
        refine KO.allocM m61 zt24_B16 rfl rfl fun H62 m63 => ?_
        refine KO.storeM m63 (i := 0) rfl sz24_B16 rfl rfl rfl (show 0 + 1 ≤ 1 by decide) (show _ = [.slice (some ⟨H58.next, 0, none⟩) (((n5 + 1)).toNat) (((n5 + 1)).toNat)] from rfl) rfl fun H64 m65 => ?_
        refine KO.nil ?_
        refine KC.seq ?_
        refine KC.region ?_
        refine KO.pv (PV.makeFunc rfl rfl) rfl rfl ?_
        refine KO.pv (PV.assign rfl) rfl rfl ?_
        refine KO.nil ?_
        refine KC.seq ?_
        refine KC.region ?_
        refine KO.pv (PV.fieldAddr fo26_0_B16 rfl) rfl rfl ?_
        refine KO.load1 ag3_B16 rfl (m65.row (i := 10) rfl) rfl rfl rfl ?_
        refine KO.pv (PV.fieldAddr fo26_1_B16 rfl) rfl rfl ?_
        refine KO.load1 ag22_B16 rfl (m65.row (i := 10) rfl) rfl rfl rfl ?_
        refine KO.pv (PV.len un22_B16 rfl) rfl rfl ?_
        refine KO.pv (PV.add rfl rfl (wrap64 (by omega) (by omega))) rfl rfl ?_
        refine KO.pv (PV.add rfl rfl (wrap64 (by omega) (by omega))) rfl rfl ?_
        refine KO.pv (PV.assign rfl) rfl rfl ?_
        refine KO.nil ?_
        refine KC.seq ?_
        refine KC.seq ?_
        refine KC.region ?_
        refine KO.load1 ag24_B16 rfl (m65.row (i := 0) rfl) rfl rfl rfl ?_
        refine KO.pv (PV.len un24_B16 rfl) rfl rfl ?_
        refine KO.pv (PV.move rfl) rfl rfl ?_
        refine KO.nil ?_
        refine KC.block ?_
        refine KC.sub (l' := [(1, .slice a_g n_g c_g), (2, .pointer (some ⟨H.next, 0, none⟩)), (4, .pointer (some ⟨H1.next, 0, none⟩)), (12, .pointer (some ⟨b58, 0, none⟩)), (13, .pointer (some ⟨H60.next, 0, none⟩)), (14, .func (.func 230) #[] #[.pointer (some ⟨H60.next, 0, none⟩)]), (15, .int .i64 ((ci + (n_cL : Int)) + 1)), (80, .int .i64 (((n5 + 1)).toNat : Int)), (81, .int .i64 0)]) (.cons rfl (.cons rfl (.cons rfl (.cons rfl (.cons rfl (.cons rfl (.cons rfl (.cons rfl (.cons rfl .nil))))))))) ?_
        refine KC.loopN (fun kq lq A => ∃ (x81 : Int) (l70 : List Int) (a_c12_2 : Option Addr) (n_c12_2 : Nat) (l_c12_2 : List (Int × Int)) (D_c12_2 : List Nat), kq = ((((n5 + 1)).toNat : Int) - x81).toNat ∧ lq = [(1, .slice a_g n_g c_g), (2, .pointer (some ⟨H.next, 0, none⟩)), (4, .pointer (some ⟨H1.next, 0, none⟩)), (12, .pointer (some ⟨b58, 0, none⟩)), (13, .pointer (some ⟨H60.next, 0, none⟩)), (14, .func (.func 230) #[] #[.pointer (some ⟨H60.next, 0, none⟩)]), (15, .int .i64 ((ci + (n_cL : Int)) + 1)), (80, .int .i64 (((n5 + 1)).toNat : Int)), (81, .int .i64 x81)] ∧ Mem [] H A [R.row H60.next 24 true [.slice (some ⟨H58.next, 0, none⟩) (((n5 + 1)).toNat) (((n5 + 1)).toNat)], R.row H58.next 3 true (cells (EI .i64) l70), R.row b58 319 true [.int .i64 ci, .slice a1_58 n1_58 n1_58, .slice a_c12_2 n_c12_2 n_c12_2, .slice a3_58 n3_58 n3_58, .slice a4_58 n4_58 n4_58, .map (some m58)], R.lst 150 2 a1_58 n1_58 (cells EP l1_58) D1_58, R.lst 187 2 a_c12_2 n_c12_2 (cells EP l_c12_2) D_c12_2, R.lst 3 1 a3_58 n3_58 (cells (EI .i64) l3_58) D3_58, R.lst 3 1 a4_58 n4_58 (cells (EI .i64) l4_58) D4_58, R.mp m58 KP (VI fun x => 0 ≤ x ∧ x / 2 ≤ 4002), R.row H1.next 26 true [.int .i64 0, .slice none 0 0, .slice none 0 0, .slice none 0 0, .slice none 0 0], R.row H.next 26 true [.int .i64 ci, .slice a_cL n_cL c_cL, .slice a_cA n_cA c_cA, .slice a_cB n_cB c_cB, .slice a_cC n_cC c_cC]] ∧ (0 ≤ x81 ∧ x81 ≤ (((n5 + 1)).toNat : Int)) ∧ ((n_c12_2 : Int) ≤ x81) ∧ (l70.length = ((n5 + 1)).toNat) ∧ (∀ u ∈ l70, (EI .i64).wf u) ∧ (∀ u ∈ l70, 0 ≤ u ∧ u / 2 ≤ 4002) ∧ (l_c12_2.length = n_c12_2) ∧ (∀ u ∈ l_c12_2, (EP).wf u)) ?_ (((((n5 + 1)).toNat : Int) - 0).toNat) ⟨0, (List.replicate (((n5 + 1)).toNat) 0), a2_58, n2_58, l2_58, D2_58, rfl, rfl, (m65.pick [0, 1, 2, 3, 4, 5, 6, 7, 9, 10] (by decide) rfl), (by first | omega | assumption | (constructor <;> omega)), (by omega), (by first | omega | (simp only [splice, List.length_append, List.length_set, List.length_replicate, List.length_map, List.length_take, List.length_drop, List.length_cons, List.length_nil] <;> omega)), (all_rep (wf64 (by omega) (by omega))), (all_rep (by first | omega | assumption | (constructor <;> omega))), (by first | omega | (simp only [splice, List.length_append, List.length_set, List.length_replicate, List.length_map, List.length_take, List.length_drop, List.length_cons, List.length_nil] <;> omega)), (by assumption)⟩
        rintro kq lq A66 ⟨x81, l70, a_c12_2, n_c12_2, l_c12_2, D_c12_2, rfl, rfl, m67, hr19, hA, hl_l70, hw_l70, ht, hl_l_c12_2, hw_l_c12_2⟩
        refine KC.seq ?_
        refine KC.region ?_
        refine KO.pv (PV.lssD rfl rfl rfl) rfl rfl ?_
        refine KO.nil ?_
        refine KC.seq ?_
        refine KC.condD rfl (fun h68 => ?_) (fun h68 => ?_)
        · refine KC.skip ?_
          refine KC.seq ?_
          refine KC.block ?_
          refine KC.seq ?_
          refine KC.region ?_
          refine KO.pv (PV.move rfl) rfl rfl ?_
          refine KO.pv (PV.assign rfl) rfl rfl ?_
          refine KO.nil ?_
          refine KC.block ?_
          refine KC.seq ?_
          refine KC.region ?_
          refine KO.pv (PV.move rfl) rfl rfl ?_
          refine KO.pv (PV.move rfl) rfl rfl ?_
          obtain ⟨b69, o69, p69, r69, e69, ha69, hb69, hr69, hx69, hw69, hc69, ht69⟩ := V.at_ h_g (z := x81) (by omega) (by omega)
          have hc69_0 : r69.cs[o69 + (x81).toNat * 1 + 0]? = some (.int .i64 e69) := hc69 0 (by decide)
          have hw69 : IntKind.i64.wrap e69 = e69 := hw69
          obtain ⟨lo69, hi69⟩ := rangei64 hw69
          have hkg69 := hkg _ _ hx69
          refine KO.pv (PV.indexAddrZ un24_B16 sz3_B16 rfl ha69 rfl (by omega) (by omega)) rfl rfl ?_
          refine KO.load1 ag3_B16 rfl (m67.row0 hb69 hr69) hc69_0 rfl rfl ?_
          refine KO.pv (PV.geqD rfl rfl rfl) rfl rfl ?_
          refine KO.pv (PV.assign rfl) rfl rfl ?_
          refine KO.nil ?_
          refine KC.condD rfl (fun h70 => ?_) (fun h70 => ?_)
          · refine KC.drawG (n := 10) (anc := [0, 0, 0, 0, 0, 24, 56, 124, 255, 511]) (hv := [7, 9]) (ord := [2, 3, 4, 5, 6, 7, 0, 1, 8, 9]) (by kernel_rfl) (by kernel_rfl) (by kernel_rfl) (by kernel_rfl) (by kernel_rfl) fun H71 n72 g73 => ?_
            have m74 := m67.room n72 g73 [] (by decide) (by decide)
            refine KD.pv 4 (PV.move rfl) rfl rfl rfl (by kernel_rfl) rfl rfl rfl ?_
            refine KD.pv 12 (PV.move rfl) rfl rfl rfl (by kernel_rfl) rfl rfl rfl ?_
            refine KD.pv 28 (PV.move rfl) rfl rfl rfl (by kernel_rfl) rfl rfl rfl ?_
            obtain ⟨b75, o75, p75, r75, e75, ha75, hb75, hr75, hx75, hw75, hc75, ht75⟩ := V.at_ h_g (z := x81) (by omega) (by omega)
            have hc75_0 : r75.cs[o75 + (x81).toNat * 1 + 0]? = some (.int .i64 e75) := hc75 0 (by decide)
            have hw75 : IntKind.i64.wrap e75 = e75 := hw75
            obtain ⟨lo75, hi75⟩ := rangei64 hw75
            have hkg75 := hkg _ _ hx75
            have hq75 : e75 = e69 := Option.some.inj (hx75.symm.trans hx69)
            refine KD.pv 60 (PV.indexAddrZ un24_B16 sz3_B16 rfl ha75 rfl (by omega) (by omega)) rfl rfl rfl (by kernel_rfl) rfl rfl rfl ?_
            refine KD.load 124 rfl (m74.row0 hb75 hr75) (by rw [read1 ag3_B16]; exact hc75_0) (pastGo (k := 1) (l := [H71]) (by kernel_rfl) rfl (pastCons ⟨_, (m74.row0 hb75 hr75), (by rw [read1 ag3_B16]; exact hc75_0)⟩ pastNil)) veq_int rfl (by kernel_rfl) rfl rfl rfl ?_
            have m76 : Mem [] H H71 [R.row H60.next 24 true [.slice (some ⟨H58.next, 0, none⟩) (((n5 + 1)).toNat) (((n5 + 1)).toNat)], R.row H58.next 3 true (cells (EI .i64) l70), R.row b58 319 true [.int .i64 ci, .slice a1_58 n1_58 n1_58, .slice a_c12_2 n_c12_2 n_c12_2, .slice a3_58 n3_58 n3_58, .slice a4_58 n4_58 n4_58, .map (some m58)], R.lst 150 2 a1_58 n1_58 (cells EP l1_58) D1_58, R.lst 187 2 a_c12_2 n_c12_2 (cells EP l_c12_2) D_c12_2, R.lst 3 1 a3_58 n3_58 (cells (EI .i64) l3_58) D3_58, R.lst 3 1 a4_58 n4_58 (cells (EI .i64) l4_58) D4_58, R.mp m58 KP (VI fun x => 0 ≤ x ∧ x / 2 ≤ 4002), R.row H1.next 26 true [.int .i64 0, .slice none 0 0, .slice none 0 0, .slice none 0 0, .slice none 0 0], R.row H.next 26 true [.int .i64 ci, .slice a_cL n_cL c_cL, .slice a_cA n_cA c_cA, .slice a_cB n_cB c_cB, .slice a_cC n_cC c_cC]] := m74.pick [0, 1, 2, 3, 4, 5, 6, 7, 8, 9] (by decide) rfl
            refine KD.callV 252 rfl rfl rfl rfl (by kernel_rfl) rfl rfl rfl (hash_of H71 e75 H60.next H58.next (((n5 + 1)).toNat) _ (wrap64 (by omega) (by omega)) (m76.ownK (Rs := [R.row H60.next 24 true [.slice (some ⟨H58.next, 0, none⟩) (((n5 + 1)).toNat) (((n5 + 1)).toNat)], R.row H58.next 3 true (cells (EI .i64) l70)])) (by first | omega | (simp only [splice, List.length_append, List.length_set, List.length_replicate, List.length_map, List.length_take, List.length_drop, List.length_cons, List.length_nil] <;> omega)) (by omega) hw_l70 (by first | omega | assumption) (by first | assumption | exact all_rep (by omega))) fun v77 H77 q77 => ?_
            obtain ⟨z77, hv77, mc77, p77_0⟩ := q77
            dsimp only at hv77 mc77
            subst hv77
            have m78 := m76.seqK (Rs := [R.row H60.next 24 true [.slice (some ⟨H58.next, 0, none⟩) (((n5 + 1)).toNat) (((n5 + 1)).toNat)], R.row H58.next 3 true (cells (EI .i64) l70)]) mc77
            refine KD.load 253 rfl (m78.row (i := 0) rfl) (by rw [read1 ag24_B16]; exact rfl) (pastGo (k := 2) (l := [H77, H71]) (by kernel_rfl) rfl (pastCons ⟨_, (m78.row (i := 0) rfl), (by rw [read1 ag24_B16]; exact rfl)⟩ (pastCons ⟨_, (m74.row (i := 0) rfl), (by rw [read1 ag24_B16]; exact rfl)⟩ pastNil))) veq_sl rfl (by kernel_rfl) rfl rfl rfl ?_
            refine KD.pv 255 (PV.move rfl) rfl rfl rfl (by kernel_rfl) rfl rfl rfl ?_
            refine KD.pv 511 (PV.indexAddrZ un24_B16 sz3_B16 rfl rfl rfl (by omega) (by omega)) rfl rfl rfl (by kernel_rfl) rfl rfl rfl ?_
            refine KD.storeM 1023 m78 (j := 1) rfl sz3_B16 rfl rfl rfl (cells_room (C := (EI .i64)) (xs := l70) (i := (x81).toNat) (by first | omega | (simp only [splice, List.length_append, List.length_set, List.length_replicate, List.length_map, List.length_take, List.length_drop, List.length_cons, List.length_nil] <;> omega)) rfl) (cells_put0 (C := (EI .i64)) (xs := l70) (i := (x81).toNat) z77 (by first | omega | (simp only [splice, List.length_append, List.length_set, List.length_replicate, List.length_map, List.length_take, List.length_drop, List.length_cons, List.length_nil] <;> omega))) rfl (by kernel_rfl) rfl rfl fun H80 m81 => ?_
            refine KD.nil ⟨rfl, ?_⟩
            refine KC.region ?_
            refine KO.pv (PV.add rfl rfl (wrap64 (by omega) (by omega))) rfl rfl ?_
            refine KO.pv (PV.move rfl) rfl rfl ?_
            refine KO.nil ?_
            exact ⟨_, _, (by omega), (.cons rfl (.cons rfl (.cons rfl (.cons rfl (.cons rfl (.cons rfl (.cons rfl (.cons rfl (.cons rfl .nil))))))))), (x81 + 1), (l70.set ((x81).toNat) z77), a_c12_2, n_c12_2, l_c12_2, D_c12_2, rfl, rfl, (m81.pick [0, 1, 2, 3, 4, 5, 6, 7, 8, 9] (by decide) rfl), (by first | omega | assumption | (constructor <;> omega)), (by first | omega | (simp only [splice, List.length_append, List.length_set, List.length_replicate, List.length_map, List.length_take, List.length_drop, List.length_cons, List.length_nil] <;> omega)), (by first | omega | (simp only [splice, List.length_append, List.length_set, List.length_replicate, List.length_map, List.length_take, List.length_drop, List.length_cons, List.length_nil] <;> omega)), (all_set hw_l70 (wf64 (by omega) (by omega))), (all_set ht (by first | omega | assumption | (constructor <;> omega))), (by first | omega | (simp only [splice, List.length_append, List.length_set, List.length_replicate, List.length_map, List.length_take, List.length_drop, List.length_cons, List.length_nil] <;> omega)), hw_l_c12_2⟩
          · refine KC.seq ?_
            refine KC.region ?_
            refine KO.pv (PV.move rfl) rfl rfl ?_
            refine KO.pv (PV.move rfl) rfl rfl ?_
            refine KO.pv (PV.lssD rfl rfl rfl) rfl rfl ?_
            refine KO.pv (PV.assign rfl) rfl rfl ?_
            refine KO.nil ?_
            refine KC.condD rfl (fun h82 => ?_) (fun h82 => ?_)
            · refine KC.region ?_
              refine KO.load1 ag24_B16 rfl (m67.row (i := 0) rfl) rfl rfl rfl ?_
              refine KO.pv (PV.move rfl) rfl rfl ?_
              refine KO.pv (PV.move rfl) rfl rfl ?_
              refine KO.pv (PV.mul rfl rfl (wrap64 (by omega) (by omega))) rfl rfl ?_
              refine KO.pv (PV.indexAddrZ un24_B16 sz3_B16 rfl rfl rfl (by omega) (by omega)) rfl rfl ?_
              refine KO.storeM m67 (i := 1) rfl sz3_B16 rfl rfl rfl (cells_room (C := (EI .i64)) (xs := l70) (i := (x81).toNat) (by first | omega | (simp only [splice, List.length_append, List.length_set, List.length_replicate, List.length_map, List.length_take, List.length_drop, List.length_cons, List.length_nil] <;> omega)) rfl) (cells_put0 (C := (EI .i64)) (xs := l70) (i := (x81).toNat) (2 * x81) (by first | omega | (simp only [splice, List.length_append, List.length_set, List.length_replicate, List.length_map, List.length_take, List.length_drop, List.length_cons, List.length_nil] <;> omega))) rfl fun H84 m85 => ?_
              refine KO.nil ?_
              refine KC.region ?_
              refine KO.pv (PV.add rfl rfl (wrap64 (by omega) (by omega))) rfl rfl ?_
              refine KO.pv (PV.move rfl) rfl rfl ?_
              refine KO.nil ?_
              exact ⟨_, _, (by omega), (.cons rfl (.cons rfl (.cons rfl (.cons rfl (.cons rfl (.cons rfl (.cons rfl (.cons rfl (.cons rfl .nil))))))))), (x81 + 1), (l70.set ((x81).toNat) (2 * x81)), a_c12_2, n_c12_2, l_c12_2, D_c12_2, rfl, rfl, (m85.pick [0, 1, 2, 3, 4, 5, 6, 7, 8, 9] (by decide) rfl), (by first | omega | assumption | (constructor <;> omega)), (by first | omega | (simp only [splice, List.length_append, List.length_set, List.length_replicate, List.length_map, List.length_take, List.length_drop, List.length_cons, List.length_nil] <;> omega)), (by first | omega | (simp only [splice, List.length_append, List.length_set, List.length_replicate, List.length_map, List.length_take, List.length_drop, List.length_cons, List.length_nil] <;> omega)), (all_set hw_l70 (wf64 (by omega) (by omega))), (all_set ht (by first | omega | assumption | (constructor <;> omega))), (by first | omega | (simp only [splice, List.length_append, List.length_set, List.length_replicate, List.length_map, List.length_take, List.length_drop, List.length_cons, List.length_nil] <;> omega)), hw_l_c12_2⟩
            · refine KC.drawG (n := 26) (anc := [0, 0, 0, 0, 0, 16, 0, 0, 192, 496, 1008, 2032, 4088, 0, 0, 16384, 0, 0, 196608, 507904, 1032192, 2080768, 4194296, 8388604, 16777215, 33554431]) (hv := [12, 22, 23, 25]) (ord := [3, 4, 5, 6, 7, 8, 9, 10, 11, 12, 13, 14, 15, 16, 17, 18, 19, 20, 21, 22, 2, 23, 0, 1, 24, 25]) (by kernel_rfl) (by kernel_rfl) (by kernel_rfl) (by kernel_rfl) (by kernel_rfl) fun H86 n87 g88 => ?_
              have m89 := m67.room n87 g88 [] (by decide) (by decide)
              refine KD.pv 8 (PV.move rfl) rfl rfl rfl (by kernel_rfl) rfl rfl rfl ?_
              refine KD.pv 24 (PV.fieldAddr fo26_2_B16 rfl) rfl rfl rfl (by kernel_rfl) rfl rfl rfl ?_
              refine KD.load 56 rfl (m89.row (i := 9) rfl) (by rw [read1 ag23_B16]; exact rfl) (pastGo (k := 1) (l := [H86]) (by kernel_rfl) rfl (pastCons ⟨_, (m89.row (i := 9) rfl), (by rw [read1 ag23_B16]; exact rfl)⟩ pastNil)) veq_sl rfl (by kernel_rfl) rfl rfl rfl ?_
              refine KD.pv 120 (PV.move rfl) rfl rfl rfl (by kernel_rfl) rfl rfl rfl ?_
              refine KD.pv 248 (PV.move rfl) rfl rfl rfl (by kernel_rfl) rfl rfl rfl ?_
              refine KD.pv 504 (PV.sub rfl rfl (wrap64 (by omega) (by omega))) rfl rfl rfl (by kernel_rfl) rfl rfl rfl ?_
              obtain ⟨b90, o90, p90, r90, e90, ha90, hb90, hr90, hx90, hw90, hc90, ht90⟩ := V.at_ h_cA (z := (x81 - ((ci + (n_cL : Int)) + 1))) (by omega) (by omega)
              have hc90_0 : r90.cs[o90 + ((x81 - ((ci + (n_cL : Int)) + 1))).toNat * 2 + 0]? = some (.int .i64 e90.1) := hc90 0 (by decide)
              have hc90_1 : r90.cs[o90 + ((x81 - ((ci + (n_cL : Int)) + 1))).toNat * 2 + 1]? = some (.int .i64 e90.2) := hc90 1 (by decide)
              obtain ⟨hwa90, hwb90⟩ := hw90
              obtain ⟨loa90, hia90⟩ := rangei64 hwa90
              obtain ⟨lob90, hib90⟩ := rangei64 hwb90
              have gp5_0_ha_90 := p5_0_ha _ _ hx90
              refine KD.pv 1016 (PV.indexAddrZ un23_B16 sz187_B16 rfl ha90 rfl (by omega) (by omega)) rfl rfl rfl (by kernel_rfl) rfl rfl rfl ?_
              refine KD.pv 2040 (PV.fieldAddr fo187_0_B16 rfl) rfl rfl rfl (by kernel_rfl) rfl rfl rfl ?_
              refine KD.load 4088 rfl (m89.row0 hb90 hr90) (by rw [read1 ag3_B16]; exact hc90_0) (pastGo (k := 1) (l := [H86]) (by kernel_rfl) rfl (pastCons ⟨_, (m89.row0 hb90 hr90), (by rw [read1 ag3_B16]; exact hc90_0)⟩ pastNil)) veq_int rfl (by kernel_rfl) rfl rfl rfl ?_
              have m91 : Mem [] H H86 [R.row H60.next 24 true [.slice (some ⟨H58.next, 0, none⟩) (((n5 + 1)).toNat) (((n5 + 1)).toNat)], R.row H58.next 3 true (cells (EI .i64) l70), R.row b58 319 true [.int .i64 ci, .slice a1_58 n1_58 n1_58, .slice a_c12_2 n_c12_2 n_c12_2, .slice a3_58 n3_58 n3_58, .slice a4_58 n4_58 n4_58, .map (some m58)], R.lst 150 2 a1_58 n1_58 (cells EP l1_58) D1_58, R.lst 187 2 a_c12_2 n_c12_2 (cells EP l_c12_2) D_c12_2, R.lst 3 1 a3_58 n3_58 (cells (EI .i64) l3_58) D3_58, R.lst 3 1 a4_58 n4_58 (cells (EI .i64) l4_58) D4_58, R.mp m58 KP (VI fun x => 0 ≤ x ∧ x / 2 ≤ 4002), R.row H1.next 26 true [.int .i64 0, .slice none 0 0, .slice none 0 0, .slice none 0 0, .slice none 0 0], R.row H.next 26 true [.int .i64 ci, .slice a_cL n_cL c_cL, .slice a_cA n_cA c_cA, .slice a_cB n_cB c_cB, .slice a_cC n_cC c_cC]] := m89.pick [0, 1, 2, 3, 4, 5, 6, 7, 8, 9] (by decide) rfl
              refine KD.callV 8184 rfl rfl rfl rfl (by kernel_rfl) rfl rfl rfl (hash_of H86 e90.1 H60.next H58.next (((n5 + 1)).toNat) _ (wrap64 (by omega) (by omega)) (m91.ownK (Rs := [R.row H60.next 24 true [.slice (some ⟨H58.next, 0, none⟩) (((n5 + 1)).toNat) (((n5 + 1)).toNat)], R.row H58.next 3 true (cells (EI .i64) l70)])) (by first | omega | (simp only [splice, List.length_append, List.length_set, List.length_replicate, List.length_map, List.length_take, List.length_drop, List.length_cons, List.length_nil] <;> omega)) (by omega) hw_l70 (by first | omega | assumption) (by first | assumption | exact all_rep (by omega))) fun v92 H92 q92 => ?_
              obtain ⟨z92, hv92, mc92, p92_0⟩ := q92
              dsimp only at hv92 mc92
              subst hv92
              have m93 := m91.seqK (Rs := [R.row H60.next 24 true [.slice (some ⟨H58.next, 0, none⟩) (((n5 + 1)).toNat) (((n5 + 1)).toNat)], R.row H58.next 3 true (cells (EI .i64) l70)]) mc92
              refine KD.pv 16376 (PV.move rfl) rfl rfl rfl (by kernel_rfl) rfl rfl rfl ?_
              refine KD.pv 32760 (PV.fieldAddr fo26_2_B16 rfl) rfl rfl rfl (by kernel_rfl) rfl rfl rfl ?_
              refine KD.load 65528 rfl (m93.row (i := 9) rfl) (by rw [read1 ag23_B16]; exact rfl) (pastGo (k := 2) (l := [H92, H86]) (by kernel_rfl) rfl (pastCons ⟨_, (m93.row (i := 9) rfl), (by rw [read1 ag23_B16]; exact rfl)⟩ (pastCons ⟨_, (m89.row (i := 9) rfl), (by rw [read1 ag23_B16]; exact rfl)⟩ pastNil))) veq_sl rfl (by kernel_rfl) rfl rfl rfl ?_
              refine KD.pv 131064 (PV.move rfl) rfl rfl rfl (by kernel_rfl) rfl rfl rfl ?_
              refine KD.pv 262136 (PV.move rfl) rfl rfl rfl (by kernel_rfl) rfl rfl rfl ?_
              refine KD.pv 524280 (PV.sub rfl rfl (wrap64 (by omega) (by omega))) rfl rfl rfl (by kernel_rfl) rfl rfl rfl ?_
              obtain ⟨b94, o94, p94, r94, e94, ha94, hb94, hr94, hx94, hw94, hc94, ht94⟩ := V.at_ h_cA (z := (x81 - ((ci + (n_cL : Int)) + 1))) (by omega) (by omega)
              have hc94_0 : r94.cs[o94 + ((x81 - ((ci + (n_cL : Int)) + 1))).toNat * 2 + 0]? = some (.int .i64 e94.1) := hc94 0 (by decide)
              have hc94_1 : r94.cs[o94 + ((x81 - ((ci + (n_cL : Int)) + 1))).toNat * 2 + 1]? = some (.int .i64 e94.2) := hc94 1 (by decide)
              obtain ⟨hwa94, hwb94⟩ := hw94
              obtain ⟨loa94, hia94⟩ := rangei64 hwa94
              obtain ⟨lob94, hib94⟩ := rangei64 hwb94
              have gp5_0_ha_94 := p5_0_ha _ _ hx94
              have hq94 : e94 = e90 := Option.some.inj (hx94.symm.trans hx90)
              refine KD.pv 1048568 (PV.indexAddrZ un23_B16 sz187_B16 rfl ha94 rfl (by omega) (by omega)) rfl rfl rfl (by kernel_rfl) rfl rfl rfl ?_
              refine KD.pv 2097144 (PV.fieldAddr fo187_1_B16 rfl) rfl rfl rfl (by kernel_rfl) rfl rfl rfl ?_
              refine KD.load 4194296 rfl (m93.row0 hb94 hr94) (by rw [read1 ag3_B16]; exact hc94_1) (pastGo (k := 2) (l := [H92, H86]) (by kernel_rfl) rfl (pastCons ⟨_, (m93.row0 hb94 hr94), (by rw [read1 ag3_B16]; exact hc94_1)⟩ (pastCons ⟨_, (m89.row0 hb94 hr94), (by rw [read1 ag3_B16]; exact hc94_1)⟩ pastNil))) veq_int rfl (by kernel_rfl) rfl rfl rfl ?_
              have m95 : Mem [] H H92 [R.row H60.next 24 true [.slice (some ⟨H58.next, 0, none⟩) (((n5 + 1)).toNat) (((n5 + 1)).toNat)], R.row H58.next 3 true (cells (EI .i64) l70), R.row b58 319 true [.int .i64 ci, .slice a1_58 n1_58 n1_58, .slice a_c12_2 n_c12_2 n_c12_2, .slice a3_58 n3_58 n3_58, .slice a4_58 n4_58 n4_58, .map (some m58)], R.lst 150 2 a1_58 n1_58 (cells EP l1_58) D1_58, R.lst 187 2 a_c12_2 n_c12_2 (cells EP l_c12_2) D_c12_2, R.lst 3 1 a3_58 n3_58 (cells (EI .i64) l3_58) D3_58, R.lst 3 1 a4_58 n4_58 (cells (EI .i64) l4_58) D4_58, R.mp m58 KP (VI fun x => 0 ≤ x ∧ x / 2 ≤ 4002), R.row H1.next 26 true [.int .i64 0, .slice none 0 0, .slice none 0 0, .slice none 0 0, .slice none 0 0], R.row H.next 26 true [.int .i64 ci, .slice a_cL n_cL c_cL, .slice a_cA n_cA c_cA, .slice a_cB n_cB c_cB, .slice a_cC n_cC c_cC]] := m93.pick [0, 1, 2, 3, 4, 5, 6, 7, 8, 9] (by decide) rfl
              refine KD.callV 8388600 rfl rfl rfl rfl (by kernel_rfl) rfl rfl rfl (hash_of H92 e94.2 H60.next H58.next (((n5 + 1)).toNat) _ (wrap64 (by omega) (by omega)) (m95.ownK (Rs := [R.row H60.next 24 true [.slice (some ⟨H58.next, 0, none⟩) (((n5 + 1)).toNat) (((n5 + 1)).toNat)], R.row H58.next 3 true (cells (EI .i64) l70)])) (by first | omega | (simp only [splice, List.length_append, List.length_set, List.length_replicate, List.length_map, List.length_take, List.length_drop, List.length_cons, List.length_nil] <;> omega)) (by omega) hw_l70 (by first | omega | assumption) (by first | assumption | exact all_rep (by omega))) fun v96 H96 q96 => ?_
              obtain ⟨z96, hv96, mc96, p96_0⟩ := q96
              dsimp only at hv96 mc96
              subst hv96
              have m97 := m95.seqK (Rs := [R.row H60.next 24 true [.slice (some ⟨H58.next, 0, none⟩) (((n5 + 1)).toNat) (((n5 + 1)).toNat)], R.row H58.next 3 true (cells (EI .i64) l70)]) mc96
              refine KD.pv 8388604 (PV.move rfl) rfl rfl rfl (by kernel_rfl) rfl rfl rfl ?_
              have m98 : Mem [] H H96 [R.row b58 319 true [.int .i64 ci, .slice a1_58 n1_58 n1_58, .slice a_c12_2 n_c12_2 n_c12_2, .slice a3_58 n3_58 n3_58, .slice a4_58 n4_58 n4_58, .map (some m58)], R.lst 150 2 a1_58 n1_58 (cells EP l1_58) D1_58, R.lst 187 2 a_c12_2 n_c12_2 (cells EP l_c12_2) D_c12_2, R.lst 3 1 a3_58 n3_58 (cells (EI .i64) l3_58) D3_58, R.lst 3 1 a4_58 n4_58 (cells (EI .i64) l4_58) D4_58, R.mp m58 KP (VI fun x => 0 ≤ x ∧ x / 2 ≤ 4002), R.row H60.next 24 true [.slice (some ⟨H58.next, 0, none⟩) (((n5 + 1)).toNat) (((n5 + 1)).toNat)], R.row H58.next 3 true (cells (EI .i64) l70), R.row H1.next 26 true [.int .i64 0, .slice none 0 0, .slice none 0 0, .slice none 0 0, .slice none 0 0], R.row H.next 26 true [.int .i64 ci, .slice a_cL n_cL c_cL, .slice a_cA n_cA c_cA, .slice a_cB n_cB c_cB, .slice a_cC n_cC c_cC]] := m97.pick [2, 3, 4, 5, 6, 7, 0, 1, 8, 9] (by decide) rfl
              refine KD.call 16777212 rfl rfl rfl (by kernel_rfl) rfl rfl rfl (hash_and H96 b58 ci _ _ _ D1_58 _ _ _ D_c12_2 _ _ _ D3_58 _ _ _ D4_58 m58 z92 z96 (m98.ownK (Rs := [R.row b58 319 true [.int .i64 ci, .slice a1_58 n1_58 n1_58, .slice a_c12_2 n_c12_2 n_c12_2, .slice a3_58 n3_58 n3_58, .slice a4_58 n4_58 n4_58, .map (some m58)], R.lst 150 2 a1_58 n1_58 (cells EP l1_58) D1_58, R.lst 187 2 a_c12_2 n_c12_2 (cells EP l_c12_2) D_c12_2, R.lst 3 1 a3_58 n3_58 (cells (EI .i64) l3_58) D3_58, R.lst 3 1 a4_58 n4_58 (cells (EI .i64) l4_58) D4_58, R.mp m58 KP (VI fun x => 0 ≤ x ∧ x / 2 ≤ 4002)])) (wrap64 (by omega) (by omega)) (by assumption) hw_l_c12_2 (by assumption) (by assumption) (wrap64 (by omega) (by omega)) (wrap64 (by omega) (by omega)) (by first | omega | assumption) (by first | omega | assumption) (by first | omega | assumption)) fun v99 H99 q99 => ?_
              obtain ⟨z99, a99, n99, xs99, D99, hv99, mc99, p99_0, p99_1, p99_2⟩ := q99
              dsimp only at hv99 mc99
              subst hv99
              have m100 := m98.seqK (Rs := [R.row b58 319 true [.int .i64 ci, .slice a1_58 n1_58 n1_58, .slice a_c12_2 n_c12_2 n_c12_2, .slice a3_58 n3_58 n3_58, .slice a4_58 n4_58 n4_58, .map (some m58)], R.lst 150 2 a1_58 n1_58 (cells EP l1_58) D1_58, R.lst 187 2 a_c12_2 n_c12_2 (cells EP l_c12_2) D_c12_2, R.lst 3 1 a3_58 n3_58 (cells (EI .i64) l3_58) D3_58, R.lst 3 1 a4_58 n4_58 (cells (EI .i64) l4_58) D4_58, R.mp m58 KP (VI fun x => 0 ≤ x ∧ x / 2 ≤ 4002)]) mc99
              have ll99_2 : xs99.length = n99 := m100.lstLen (E := EP) (i := 2) rfl
              refine KD.load 16777213 rfl (m100.row (i := 6) rfl) (by rw [read1 ag24_B16]; exact rfl) (pastGo (k := 4) (l := [H99, H96, H92, H86]) (by kernel_rfl) rfl (pastCons ⟨_, (m100.row (i := 6) rfl), (by rw [read1 ag24_B16]; exact rfl)⟩ (pastCons ⟨_, (m97.row (i := 0) rfl), (by rw [read1 ag24_B16]; exact rfl)⟩ (pastCons ⟨_, (m93.row (i := 0) rfl), (by rw [read1 ag24_B16]; exact rfl)⟩ (pastCons ⟨_, (m89.row (i := 0) rfl), (by rw [read1 ag24_B16]; exact rfl)⟩ pastNil))))) veq_sl rfl (by kernel_rfl) rfl rfl rfl ?_
              refine KD.pv 16777215 (PV.move rfl) rfl rfl rfl (by kernel_rfl) rfl rfl rfl ?_
              refine KD.pv 33554431 (PV.indexAddrZ un24_B16 sz3_B16 rfl rfl rfl (by omega) (by omega)) rfl rfl rfl (by kernel_rfl) rfl rfl rfl ?_
              refine KD.storeM 67108863 m100 (j := 7) rfl sz3_B16 rfl rfl rfl (cells_room (C := (EI .i64)) (xs := l70) (i := (x81).toNat) (by first | omega | (simp only [splice, List.length_append, List.length_set, List.length_replicate, List.length_map, List.length_take, List.length_drop, List.length_cons, List.length_nil] <;> omega)) rfl) (cells_put0 (C := (EI .i64)) (xs := l70) (i := (x81).toNat) z99 (by first | omega | (simp only [splice, List.length_append, List.length_set, List.length_replicate, List.length_map, List.length_take, List.length_drop, List.length_cons, List.length_nil] <;> omega))) rfl (by kernel_rfl) rfl rfl fun H102 m103 => ?_
              refine KD.nil ⟨rfl, ?_⟩
              refine KC.region ?_
              refine KO.pv (PV.add rfl rfl (wrap64 (by omega) (by omega))) rfl rfl ?_
              refine KO.pv (PV.move rfl) rfl rfl ?_
              refine KO.nil ?_
              exact ⟨_, _, (by omega), (.cons rfl (.cons rfl (.cons rfl (.cons rfl (.cons rfl (.cons rfl (.cons rfl (.cons rfl (.cons rfl .nil))))))))), (x81 + 1), (l70.set ((x81).toNat) z99), a99, n99, xs99, D99, rfl, rfl, (m103.pick [6, 7, 0, 1, 2, 3, 4, 5, 8, 9] (by decide) rfl), (by first | omega | assumption | (constructor <;> omega)), (by first | omega | (simp only [splice, List.length_append, List.length_set, List.length_replicate, List.length_map, List.length_take, List.length_drop, List.length_cons, List.length_nil] <;> omega)), (by first | omega | (simp only [splice, List.length_append, List.length_set, List.length_replicate, List.length_map, List.length_take, List.length_drop, List.length_cons, List.length_nil] <;> omega)), (all_set hw_l70 (wf64 (by omega) (by omega))), (all_set ht (by first | omega | assumption | (constructor <;> omega))), (by first | omega | (simp only [splice, List.length_append, List.length_set, List.length_replicate, List.length_map, List.length_take, List.length_drop, List.length_cons, List.length_nil] <;> omega)), (by assumption)⟩
        · refine KC.exit ?_
          refine KC.seq ?_
          refine KC.seq ?_
          refine KC.region ?_
          refine KO.pv (PV.move rfl) rfl rfl ?_
          refine KO.pv (PV.nilCheck rfl) rfl rfl ?_
          refine KO.pv (PV.fieldAddr fo319_0_B16 rfl) rfl rfl ?_
          refine KO.pv (PV.fieldAddr fo26_1_B16 rfl) rfl rfl ?_
          refine KO.load1 ag22_B16 rfl (m67.row (i := 2) rfl) rfl rfl rfl ?_
          refine KO.pv (PV.len un22_B16 rfl) rfl rfl ?_
          refine KO.pv (PV.move rfl) rfl rfl ?_
          refine KO.nil ?_
          refine KC.block ?_
          refine KC.sub (l' := [(2, .pointer (some ⟨H.next, 0, none⟩)), (4, .pointer (some ⟨H1.next, 0, none⟩)), (12, .pointer (some ⟨b58, 0, none⟩)), (13, .pointer (some ⟨H60.next, 0, none⟩)), (14, .func (.func 230) #[] #[.pointer (some ⟨H60.next, 0, none⟩)]), (139, .int .i64 (n1_58 : Int)), (140, .int .i64 0)]) (.cons rfl (.cons rfl (.cons rfl (.cons rfl (.cons rfl (.cons rfl (.cons rfl .nil))))))) ?_
          refine KC.loopN (fun kq lq A => ∃ (x140 : Int) (l138 : List (Int × Int)), kq = ((n1_58 : Int) - x140).toNat ∧ lq = [(2, .pointer (some ⟨H.next, 0, none⟩)), (4, .pointer (some ⟨H1.next, 0, none⟩)), (12, .pointer (some ⟨b58, 0, none⟩)), (13, .pointer (some ⟨H60.next, 0, none⟩)), (14, .func (.func 230) #[] #[.pointer (some ⟨H60.next, 0, none⟩)]), (139, .int .i64 (n1_58 : Int)), (140, .int .i64 x140)] ∧ Mem [] H A [R.row H60.next 24 true [.slice (some ⟨H58.next, 0, none⟩) (((n5 + 1)).toNat) (((n5 + 1)).toNat)], R.row H58.next 3 true (cells (EI .i64) l70), R.row b58 319 true [.int .i64 ci, .slice a1_58 n1_58 n1_58, .slice a_c12_2 n_c12_2 n_c12_2, .slice a3_58 n3_58 n3_58, .slice a4_58 n4_58 n4_58, .map (some m58)], R.lst 150 2 a1_58 n1_58 (cells EP l138) D1_58, R.lst 187 2 a_c12_2 n_c12_2 (cells EP l_c12_2) D_c12_2, R.lst 3 1 a3_58 n3_58 (cells (EI .i64) l3_58) D3_58, R.lst 3 1 a4_58 n4_58 (cells (EI .i64) l4_58) D4_58, R.mp m58 KP (VI fun x => 0 ≤ x ∧ x / 2 ≤ 4002), R.row H1.next 26 true [.int .i64 0, .slice none 0 0, .slice none 0 0, .slice none 0 0, .slice none 0 0], R.row H.next 26 true [.int .i64 ci, .slice a_cL n_cL c_cL, .slice a_cA n_cA c_cA, .slice a_cB n_cB c_cB, .slice a_cC n_cC c_cC]] ∧ (0 ≤ x140 ∧ x140 ≤ (n1_58 : Int)) ∧ (l138.length = n1_58) ∧ (∀ u ∈ l138, (EP).wf u)) ?_ (((n1_58 : Int) - 0).toNat) ⟨0, l1_58, rfl, rfl, (m67.pick [0, 1, 2, 3, 4, 5, 6, 7, 8, 9] (by decide) rfl), (by first | omega | assumption | (constructor <;> omega)), (by first | omega | (simp only [splice, List.length_append, List.length_set, List.length_replicate, List.length_map, List.length_take, List.length_drop, List.length_cons, List.length_nil] <;> omega)), (by assumption)⟩
          rintro kq lq A104 ⟨x140, l138, rfl, rfl, m105, hr28, hl_l138, hw_l138⟩
          refine KC.seq ?_
          refine KC.region ?_
          refine KO.pv (PV.lssD rfl rfl rfl) rfl rfl ?_
          refine KO.nil ?_
          refine KC.seq ?_
          refine KC.condD rfl (fun h106 => ?_) (fun h106 => ?_)
          · refine KC.skip ?_
            refine KC.seq ?_
            refine KC.block ?_
            refine KC.seq ?_
            refine KC.region ?_
            refine KO.pv (PV.move rfl) rfl rfl ?_
            refine KO.pv (PV.assign rfl) rfl rfl ?_
            refine KO.nil ?_
            refine KC.drawG (n := 17) (anc := [0, 1, 3, 7, 15, 0, 0, 0, 128, 0, 896, 1920, 3968, 8128, 16383, 32767, 65535]) (hv := [13, 16]) (ord := [6, 7, 8, 9, 10, 11, 12, 13, 0, 1, 2, 3, 4, 5, 14, 15, 16]) (by kernel_rfl) (by kernel_rfl) (by kernel_rfl) (by kernel_rfl) (by kernel_rfl) fun H107 n108 g109 => ?_
            have m110 := m105.room n108 g109 [] (by decide) (by decide)
            refine KD.pv 64 (PV.move rfl) rfl rfl rfl (by kernel_rfl) rfl rfl rfl ?_
            refine KD.pv 192 (PV.fieldAddr fo26_1_B16 rfl) rfl rfl rfl (by kernel_rfl) rfl rfl rfl ?_
            refine KD.load 448 rfl (m110.row (i := 9) rfl) (by rw [read1 ag22_B16]; exact rfl) (pastGo (k := 1) (l := [H107]) (by kernel_rfl) rfl (pastCons ⟨_, (m110.row (i := 9) rfl), (by rw [read1 ag22_B16]; exact rfl)⟩ pastNil)) veq_sl rfl (by kernel_rfl) rfl rfl rfl ?_
            refine KD.pv 960 (PV.move rfl) rfl rfl rfl (by kernel_rfl) rfl rfl rfl ?_
            obtain ⟨b111, o111, p111, r111, e111, ha111, hb111, hr111, hx111, hw111, hc111, ht111⟩ := V.at_ h_cL (z := x140) (by omega) (by omega)
            have hc111_0 : r111.cs[o111 + (x140).toNat * 2 + 0]? = some (.int .i64 e111.1) := hc111 0 (by decide)
            have hc111_1 : r111.cs[o111 + (x140).toNat * 2 + 1]? = some (.int .i64 e111.2) := hc111 1 (by decide)
            obtain ⟨hwa111, hwb111⟩ := hw111
            obtain ⟨loa111, hia111⟩ := rangei64 hwa111
            obtain ⟨lob111, hib111⟩ := rangei64 hwb111
            have gp5_0_hl_111 := p5_0_hl _ (List.mem_of_getElem? hx111)
            refine KD.pv 1984 (PV.indexAddrZ un22_B16 sz150_B16 rfl ha111 rfl (by omega) (by omega)) rfl rfl rfl (by kernel_rfl) rfl rfl rfl ?_
            refine KD.pv 4032 (PV.fieldAddr fo150_0_B16 rfl) rfl rfl rfl (by kernel_rfl) rfl rfl rfl ?_
            refine KD.load 8128 rfl (m110.row0 hb111 hr111) (by rw [read1 ag3_B16]; exact hc111_0) (pastGo (k := 1) (l := [H107]) (by kernel_rfl) rfl (pastCons ⟨_, (m110.row0 hb111 hr111), (by rw [read1 ag3_B16]; exact hc111_0)⟩ pastNil)) veq_int rfl (by kernel_rfl) rfl rfl rfl ?_
            have m112 : Mem [] H H107 [R.row H60.next 24 true [.slice (some ⟨H58.next, 0, none⟩) (((n5 + 1)).toNat) (((n5 + 1)).toNat)], R.row H58.next 3 true (cells (EI .i64) l70), R.row b58 319 true [.int .i64 ci, .slice a1_58 n1_58 n1_58, .slice a_c12_2 n_c12_2 n_c12_2, .slice a3_58 n3_58 n3_58, .slice a4_58 n4_58 n4_58, .map (some m58)], R.lst 150 2 a1_58 n1_58 (cells EP l138) D1_58, R.lst 187 2 a_c12_2 n_c12_2 (cells EP l_c12_2) D_c12_2, R.lst 3 1 a3_58 n3_58 (cells (EI .i64) l3_58) D3_58, R.lst 3 1 a4_58 n4_58 (cells (EI .i64) l4_58) D4_58, R.mp m58 KP (VI fun x => 0 ≤ x ∧ x / 2 ≤ 4002), R.row H1.next 26 true [.int .i64 0, .slice none 0 0, .slice none 0 0, .slice none 0 0, .slice none 0 0], R.row H.next 26 true [.int .i64 ci, .slice a_cL n_cL c_cL, .slice a_cA n_cA c_cA, .slice a_cB n_cB c_cB, .slice a_cC n_cC c_cC]] := m110.pick [0, 1, 2, 3, 4, 5, 6, 7, 8, 9] (by decide) rfl
            refine KD.callV 16320 rfl rfl rfl rfl (by kernel_rfl) rfl rfl rfl (hash_of H107 e111.1 H60.next H58.next (((n5 + 1)).toNat) _ (wrap64 (by omega) (by omega)) (m112.ownK (Rs := [R.row H60.next 24 true [.slice (some ⟨H58.next, 0, none⟩) (((n5 + 1)).toNat) (((n5 + 1)).toNat)], R.row H58.next 3 true (cells (EI .i64) l70)])) (by first | omega | (simp only [splice, List.length_append, List.length_set, List.length_replicate, List.length_map, List.length_take, List.length_drop, List.length_cons, List.length_nil] <;> omega)) (by omega) hw_l70 (by first | omega | assumption) (by first | assumption | exact all_rep (by omega))) fun v113 H113 q113 => ?_
            obtain ⟨z113, hv113, mc113, p113_0⟩ := q113
            dsimp only at hv113 mc113
            subst hv113
            have m114 := m112.seqK (Rs := [R.row H60.next 24 true [.slice (some ⟨H58.next, 0, none⟩) (((n5 + 1)).toNat) (((n5 + 1)).toNat)], R.row H58.next 3 true (cells (EI .i64) l70)]) mc113
            refine KD.pv 16321 (PV.move rfl) rfl rfl rfl (by kernel_rfl) rfl rfl rfl ?_
            refine KD.pv 16323 (PV.nilCheck rfl) rfl rfl rfl (by kernel_rfl) rfl rfl rfl ?_
            refine KD.pv 16327 (PV.fieldAddr fo319_0_B16 rfl) rfl rfl rfl (by kernel_rfl) rfl rfl rfl ?_
            refine KD.pv 16335 (PV.fieldAddr fo26_1_B16 rfl) rfl rfl rfl (by kernel_rfl) rfl rfl rfl ?_
            refine KD.load 16351 rfl (m114.row (i := 2) rfl) (by rw [read1 ag22_B16]; exact rfl) (pastGo (k := 2) (l := [H113, H107]) (by kernel_rfl) rfl (pastCons ⟨_, (m114.row (i := 2) rfl), (by rw [read1 ag22_B16]; exact rfl)⟩ (pastCons ⟨_, (m110.row (i := 2) rfl), (by rw [read1 ag22_B16]; exact rfl)⟩ pastNil))) veq_sl rfl (by kernel_rfl) rfl rfl rfl ?_
            refine KD.pv 16383 (PV.move rfl) rfl rfl rfl (by kernel_rfl) rfl rfl rfl ?_
            obtain ⟨b115, o115, p115, r115, e115, ha115, hb115, hr115, hx115, hw115, hc115, ht115⟩ := V.at_ (m114.vlst (i := 3) rfl hw_l138 (by first | omega | (simp only [splice, List.length_append, List.length_set, List.length_replicate, List.length_map, List.length_take, List.length_drop, List.length_cons, List.length_nil] <;> omega))) (z := x140) (by omega) (by omega)
            have hc115_0 : r115.cs[o115 + (x140).toNat * 2 + 0]? = some (.int .i64 e115.1) := hc115 0 (by decide)
            have hc115_1 : r115.cs[o115 + (x140).toNat * 2 + 1]? = some (.int .i64 e115.2) := hc115 1 (by decide)
            obtain ⟨hwa115, hwb115⟩ := hw115
            obtain ⟨loa115, hia115⟩ := rangei64 hwa115
            obtain ⟨lob115, hib115⟩ := rangei64 hwb115
            refine KD.pv 32767 (PV.indexAddrZ un22_B16 sz150_B16 rfl ha115 rfl (by omega) (by omega)) rfl rfl rfl (by kernel_rfl) rfl rfl rfl ?_
            refine KD.pv 65535 (PV.fieldAddr fo150_0_B16 rfl) rfl rfl rfl (by kernel_rfl) rfl rfl rfl ?_
            refine KD.storeL (C := EP) (off := (x140).toNat * 2 + 0) 131071 m114 (j := 3) rfl ha115 (by omega) sz3_B16 rfl rfl rfl (cells_roomP (C := EP) (xs := l138) (i := (x140).toNat) (d := 0) (by first | omega | (simp only [splice, List.length_append, List.length_set, List.length_replicate, List.length_map, List.length_take, List.length_drop, List.length_cons, List.length_nil] <;> omega)) (by decide)) (cells_putP (C := EP) (x := e115) (y := (z113, e115.2)) (d := 0) (by decide) rfl hx115) rfl (by kernel_rfl) rfl rfl fun H116 m117 => ?_
            refine KD.nil ⟨rfl, ?_⟩
            refine KC.region ?_
            refine KO.pv (PV.add rfl rfl (wrap64 (by omega) (by omega))) rfl rfl ?_
            refine KO.pv (PV.move rfl) rfl rfl ?_
            refine KO.nil ?_
            exact ⟨_, _, (by omega), (.cons rfl (.cons rfl (.cons rfl (.cons rfl (.cons rfl (.cons rfl (.cons rfl .nil))))))), (x140 + 1), (l138.set ((x140).toNat) (z113, e115.2)), rfl, rfl, (m117.pick [0, 1, 2, 3, 4, 5, 6, 7, 8, 9] (by decide) rfl), (by first | omega | assumption | (constructor <;> omega)), (by first | omega | (simp only [splice, List.length_append, List.length_set, List.length_replicate, List.length_map, List.length_take, List.length_drop, List.length_cons, List.length_nil] <;> omega)), (all_set hw_l138 (wfP ⟨by omega, by omega⟩ ⟨by omega, by omega⟩))⟩
          · refine KC.exit ?_
            refine KC.seq ?_
            refine KC.seq ?_
            refine KC.region ?_
            refine KO.pv (PV.fieldAddr fo26_3_B16 rfl) rfl rfl ?_
            refine KO.load1 ag24_B16 rfl (m105.row (i := 9) rfl) rfl rfl rfl ?_
            refine KO.pv (PV.len un24_B16 rfl) rfl rfl ?_
            refine KO.pv (PV.move rfl) rfl rfl ?_
            refine KO.nil ?_
            refine KC.block ?_
            refine KC.sub (l' := [(2, .pointer (some ⟨H.next, 0, none⟩)), (4, .pointer (some ⟨H1.next, 0, none⟩)), (12, .pointer (some ⟨b58, 0, none⟩)), (13, .pointer (some ⟨H60.next, 0, none⟩)), (14, .func (.func 230) #[] #[.pointer (some ⟨H60.next, 0, none⟩)]), (161, .slice a_cB n_cB c_cB), (162, .int .i64 (n_cB : Int)), (163, .int .i64 0)]) (.cons rfl (.cons rfl (.cons rfl (.cons rfl (.cons rfl (.cons rfl (.cons rfl (.cons rfl .nil)))))))) ?_
            refine KC.loopN (fun kq lq A => ∃ (x163 : Int) (l12_3 : List Int), kq = ((n_cB : Int) - x163).toNat ∧ lq = [(2, .pointer (some ⟨H.next, 0, none⟩)), (4, .pointer (some ⟨H1.next, 0, none⟩)), (12, .pointer (some ⟨b58, 0, none⟩)), (13, .pointer (some ⟨H60.next, 0, none⟩)), (14, .func (.func 230) #[] #[.pointer (some ⟨H60.next, 0, none⟩)]), (161, .slice a_cB n_cB c_cB), (162, .int .i64 (n_cB : Int)), (163, .int .i64 x163)] ∧ Mem [] H A [R.row H60.next 24 true [.slice (some ⟨H58.next, 0, none⟩) (((n5 + 1)).toNat) (((n5 + 1)).toNat)], R.row H58.next 3 true (cells (EI .i64) l70), R.row b58 319 true [.int .i64 ci, .slice a1_58 n1_58 n1_58, .slice a_c12_2 n_c12_2 n_c12_2, .slice a3_58 n3_58 n3_58, .slice a4_58 n4_58 n4_58, .map (some m58)], R.lst 150 2 a1_58 n1_58 (cells EP l138) D1_58, R.lst 187 2 a_c12_2 n_c12_2 (cells EP l_c12_2) D_c12_2, R.lst 3 1 a3_58 n3_58 (cells (EI .i64) l12_3) D3_58, R.lst 3 1 a4_58 n4_58 (cells (EI .i64) l4_58) D4_58, R.mp m58 KP (VI fun x => 0 ≤ x ∧ x / 2 ≤ 4002), R.row H1.next 26 true [.int .i64 0, .slice none 0 0, .slice none 0 0, .slice none 0 0, .slice none 0 0], R.row H.next 26 true [.int .i64 ci, .slice a_cL n_cL c_cL, .slice a_cA n_cA c_cA, .slice a_cB n_cB c_cB, .slice a_cC n_cC c_cC]] ∧ (0 ≤ x163 ∧ x163 ≤ (n_cB : Int)) ∧ (l12_3.length = n3_58) ∧ (∀ u ∈ l12_3, (EI .i64).wf u)) ?_ (((n_cB : Int) - 0).toNat) ⟨0, l3_58, rfl, rfl, (m105.pick [0, 1, 2, 3, 4, 5, 6, 7, 8, 9] (by decide) rfl), (by first | omega | assumption | (constructor <;> omega)), (by first | omega | (simp only [splice, List.length_append, List.length_set, List.length_replicate, List.length_map, List.length_take, List.length_drop, List.length_cons, List.length_nil] <;> omega)), (by assumption)⟩
            rintro kq lq A118 ⟨x163, l12_3, rfl, rfl, m119, hr33, hl_l12_3, hw_l12_3⟩
            refine KC.seq ?_
            refine KC.region ?_
            refine KO.pv (PV.lssD rfl rfl rfl) rfl rfl ?_
            refine KO.nil ?_
            refine KC.seq ?_
            refine KC.condD rfl (fun h120 => ?_) (fun h120 => ?_)
            · refine KC.skip ?_
              refine KC.seq ?_
              refine KC.block ?_
              refine KC.seq ?_
              refine KC.region ?_
              refine KO.pv (PV.move rfl) rfl rfl ?_
              obtain ⟨b121, o121, p121, r121, e121, ha121, hb121, hr121, hx121, hw121, hc121, ht121⟩ := V.at_ h_cB (z := x163) (by omega) (by omega)
              have hc121_0 : r121.cs[o121 + (x163).toNat * 1 + 0]? = some (.int .i64 e121) := hc121 0 (by decide)
              have hw121 : IntKind.i64.wrap e121 = e121 := hw121
              obtain ⟨lo121, hi121⟩ := rangei64 hw121
              have gp5_0_hb_121 := p5_0_hb _ (List.mem_of_getElem? hx121)
              refine KO.pv (PV.indexAddrZ un24_B16 sz3_B16 rfl ha121 rfl (by omega) (by omega)) rfl rfl ?_
              refine KO.load1 ag3_B16 rfl (m119.row0 hb121 hr121) hc121_0 rfl rfl ?_
              refine KO.pv (PV.assign rfl) rfl rfl ?_
              refine KO.pv (PV.assign rfl) rfl rfl ?_
              refine KO.nil ?_
              refine KC.drawG (n := 11) (anc := [0, 1, 3, 7, 15, 0, 0, 0, 192, 511, 1023]) (hv := [8, 10]) (ord := [6, 7, 8, 0, 1, 2, 3, 4, 5, 9, 10]) (by kernel_rfl) (by kernel_rfl) (by kernel_rfl) (by kernel_rfl) (by kernel_rfl) fun H122 n123 g124 => ?_
              have m125 := m119.room n123 g124 [] (by decide) (by decide)
              refine KD.pv 64 (PV.move rfl) rfl rfl rfl (by kernel_rfl) rfl rfl rfl ?_
              refine KD.pv 192 (PV.move rfl) rfl rfl rfl (by kernel_rfl) rfl rfl rfl ?_
              have m126 : Mem [] H H122 [R.row H60.next 24 true [.slice (some ⟨H58.next, 0, none⟩) (((n5 + 1)).toNat) (((n5 + 1)).toNat)], R.row H58.next 3 true (cells (EI .i64) l70), R.row b58 319 true [.int .i64 ci, .slice a1_58 n1_58 n1_58, .slice a_c12_2 n_c12_2 n_c12_2, .slice a3_58 n3_58 n3_58, .slice a4_58 n4_58 n4_58, .map (some m58)], R.lst 150 2 a1_58 n1_58 (cells EP l138) D1_58, R.lst 187 2 a_c12_2 n_c12_2 (cells EP l_c12_2) D_c12_2, R.lst 3 1 a3_58 n3_58 (cells (EI .i64) l12_3) D3_58, R.lst 3 1 a4_58 n4_58 (cells (EI .i64) l4_58) D4_58, R.mp m58 KP (VI fun x => 0 ≤ x ∧ x / 2 ≤ 4002), R.row H1.next 26 true [.int .i64 0, .slice none 0 0, .slice none 0 0, .slice none 0 0, .slice none 0 0], R.row H.next 26 true [.int .i64 ci, .slice a_cL n_cL c_cL, .slice a_cA n_cA c_cA, .slice a_cB n_cB c_cB, .slice a_cC n_cC c_cC]] := m125.pick [0, 1, 2, 3, 4, 5, 6, 7, 8, 9] (by decide) rfl
              refine KD.callV 448 rfl rfl rfl rfl (by kernel_rfl) rfl rfl rfl (hash_of H122 e121 H60.next H58.next (((n5 + 1)).toNat) _ (wrap64 (by omega) (by omega)) (m126.ownK (Rs := [R.row H60.next 24 true [.slice (some ⟨H58.next, 0, none⟩) (((n5 + 1)).toNat) (((n5 + 1)).toNat)], R.row H58.next 3 true (cells (EI .i64) l70)])) (by first | omega | (simp only [splice, List.length_append, List.length_set, List.length_replicate, List.length_map, List.length_take, List.length_drop, List.length_cons, List.length_nil] <;> omega)) (by omega) hw_l70 (by first | omega | assumption) (by first | assumption | exact all_rep (by omega))) fun v127 H127 q127 => ?_
              obtain ⟨z127, hv127, mc127, p127_0⟩ := q127
              dsimp only at hv127 mc127
              subst hv127
              have m128 := m126.seqK (Rs := [R.row H60.next 24 true [.slice (some ⟨H58.next, 0, none⟩) (((n5 + 1)).toNat) (((n5 + 1)).toNat)], R.row H58.next 3 true (cells (EI .i64) l70)]) mc127
              refine KD.pv 449 (PV.move rfl) rfl rfl rfl (by kernel_rfl) rfl rfl rfl ?_
              refine KD.pv 451 (PV.nilCheck rfl) rfl rfl rfl (by kernel_rfl) rfl rfl rfl ?_
              refine KD.pv 455 (PV.fieldAddr fo319_0_B16 rfl) rfl rfl rfl (by kernel_rfl) rfl rfl rfl ?_
              refine KD.pv 463 (PV.fieldAddr fo26_3_B16 rfl) rfl rfl rfl (by kernel_rfl) rfl rfl rfl ?_
              refine KD.load 479 rfl (m128.row (i := 2) rfl) (by rw [read1 ag24_B16]; exact rfl) (pastGo (k := 2) (l := [H127, H122]) (by kernel_rfl) rfl (pastCons ⟨_, (m128.row (i := 2) rfl), (by rw [read1 ag24_B16]; exact rfl)⟩ (pastCons ⟨_, (m125.row (i := 2) rfl), (by rw [read1 ag24_B16]; exact rfl)⟩ pastNil))) veq_sl rfl (by kernel_rfl) rfl rfl rfl ?_
              refine KD.pv 511 (PV.move rfl) rfl rfl rfl (by kernel_rfl) rfl rfl rfl ?_
              obtain ⟨b129, o129, p129, r129, e129, ha129, hb129, hr129, hx129, hw129, hc129, ht129⟩ := V.at_ (m128.vlst (i := 5) rfl hw_l12_3 (by first | omega | (simp only [splice, List.length_append, List.length_set, List.length_replicate, List.length_map, List.length_take, List.length_drop, List.length_cons, List.length_nil] <;> omega))) (z := x163) (by omega) (by omega)
              have hc129_0 : r129.cs[o129 + (x163).toNat * 1 + 0]? = some (.int .i64 e129) := hc129 0 (by decide)
              have hw129 : IntKind.i64.wrap e129 = e129 := hw129
              obtain ⟨lo129, hi129⟩ := rangei64 hw129
              refine KD.pv 1023 (PV.indexAddrZ un24_B16 sz3_B16 rfl ha129 rfl (by omega) (by omega)) rfl rfl rfl (by kernel_rfl) rfl rfl rfl ?_
              refine KD.storeL (C := (EI .i64)) (off := (x163).toNat * 1) 2047 m128 (j := 5) rfl ha129 (by omega) sz3_B16 rfl rfl rfl (cells_roomF (C := (EI .i64)) (xs := l12_3) (i := (x163).toNat) (y := z127) (by first | omega | (simp only [splice, List.length_append, List.length_set, List.length_replicate, List.length_map, List.length_take, List.length_drop, List.length_cons, List.length_nil] <;> omega))) (cells_put (E := (EI .i64)) (xs := l12_3) (i := (x163).toNat) z127 (by first | omega | (simp only [splice, List.length_append, List.length_set, List.length_replicate, List.length_map, List.length_take, List.length_drop, List.length_cons, List.length_nil] <;> omega))) rfl (by kernel_rfl) rfl rfl fun H130 m131 => ?_
              refine KD.nil ⟨rfl, ?_⟩
              refine KC.region ?_
              refine KO.pv (PV.add rfl rfl (wrap64 (by omega) (by omega))) rfl rfl ?_
              refine KO.pv (PV.move rfl) rfl rfl ?_
              refine KO.nil ?_
              exact ⟨_, _, (by omega), (.cons rfl (.cons rfl (.cons rfl (.cons rfl (.cons rfl (.cons rfl (.cons rfl (.cons rfl .nil)))))))), (x163 + 1), (l12_3.set ((x163).toNat) z127), rfl, rfl, (m131.pick [0, 1, 2, 3, 4, 5, 6, 7, 8, 9] (by decide) rfl), (by first | omega | assumption | (constructor <;> omega)), (by first | omega | (simp only [splice, List.length_append, List.length_set, List.length_replicate, List.length_map, List.length_take, List.length_drop, List.length_cons, List.length_nil] <;> omega)), (all_set hw_l12_3 (wf64 (by omega) (by omega)))⟩
            · refine KC.exit ?_
              refine KC.seq ?_
              refine KC.seq ?_
              refine KC.region ?_
              refine KO.pv (PV.fieldAddr fo26_4_B16 rfl) rfl rfl ?_
              refine KO.load1 ag24_B16 rfl (m119.row (i := 9) rfl) rfl rfl rfl ?_
              refine KO.pv (PV.len un24_B16 rfl) rfl rfl ?_
              refine KO.pv (PV.move rfl) rfl rfl ?_
              refine KO.nil ?_
              refine KC.block ?_
              refine KC.sub (l' := [(4, .pointer (some ⟨H1.next, 0, none⟩)), (12, .pointer (some ⟨b58, 0, none⟩)), (13, .pointer (some ⟨H60.next, 0, none⟩)), (14, .func (.func 230) #[] #[.pointer (some ⟨H60.next, 0, none⟩)]), (180, .slice a_cC n_cC c_cC), (181, .int .i64 (n_cC : Int)), (182, .int .i64 0)]) (.cons rfl (.cons rfl (.cons rfl (.cons rfl (.cons rfl (.cons rfl (.cons rfl .nil))))))) ?_
              refine KC.loopN (fun kq lq A => ∃ (x182 : Int) (l12_4 : List Int), kq = ((n_cC : Int) - x182).toNat ∧ lq = [(4, .pointer (some ⟨H1.next, 0, none⟩)), (12, .pointer (some ⟨b58, 0, none⟩)), (13, .pointer (some ⟨H60.next, 0, none⟩)), (14, .func (.func 230) #[] #[.pointer (some ⟨H60.next, 0, none⟩)]), (180, .slice a_cC n_cC c_cC), (181, .int .i64 (n_cC : Int)), (182, .int .i64 x182)] ∧ Mem [] H A [R.row H60.next 24 true [.slice (some ⟨H58.next, 0, none⟩) (((n5 + 1)).toNat) (((n5 + 1)).toNat)], R.row H58.next 3 true (cells (EI .i64) l70), R.row b58 319 true [.int .i64 ci, .slice a1_58 n1_58 n1_58, .slice a_c12_2 n_c12_2 n_c12_2, .slice a3_58 n3_58 n3_58, .slice a4_58 n4_58 n4_58, .map (some m58)], R.lst 150 2 a1_58 n1_58 (cells EP l138) D1_58, R.lst 187 2 a_c12_2 n_c12_2 (cells EP l_c12_2) D_c12_2, R.lst 3 1 a3_58 n3_58 (cells (EI .i64) l12_3) D3_58, R.lst 3 1 a4_58 n4_58 (cells (EI .i64) l12_4) D4_58, R.mp m58 KP (VI fun x => 0 ≤ x ∧ x / 2 ≤ 4002), R.row H1.next 26 true [.int .i64 0, .slice none 0 0, .slice none 0 0, .slice none 0 0, .slice none 0 0]] ∧ (0 ≤ x182 ∧ x182 ≤ (n_cC : Int)) ∧ (l12_4.length = n4_58) ∧ (∀ u ∈ l12_4, (EI .i64).wf u)) ?_ (((n_cC : Int) - 0).toNat) ⟨0, l4_58, rfl, rfl, (m119.pick [0, 1, 2, 3, 4, 5, 6, 7, 8] (by decide) rfl), (by first | omega | assumption | (constructor <;> omega)), (by first | omega | (simp only [splice, List.length_append, List.length_set, List.length_replicate, List.length_map, List.length_take, List.length_drop, List.length_cons, List.length_nil] <;> omega)), (by assumption)⟩
              rintro kq lq A132 ⟨x182, l12_4, rfl, rfl, m133, hr38, hl_l12_4, hw_l12_4⟩
              refine KC.seq ?_
              refine KC.region ?_
              refine KO.pv (PV.lssD rfl rfl rfl) rfl rfl ?_
              refine KO.nil ?_
              refine KC.seq ?_
              refine KC.condD rfl (fun h134 => ?_) (fun h134 => ?_)
              · refine KC.skip ?_
                refine KC.seq ?_
                refine KC.block ?_
                refine KC.seq ?_
                refine KC.region ?_
                refine KO.pv (PV.move rfl) rfl rfl ?_
                obtain ⟨b135, o135, p135, r135, e135, ha135, hb135, hr135, hx135, hw135, hc135, ht135⟩ := V.at_ h_cC (z := x182) (by omega) (by omega)
                have hc135_0 : r135.cs[o135 + (x182).toNat * 1 + 0]? = some (.int .i64 e135) := hc135 0 (by decide)
                have hw135 : IntKind.i64.wrap e135 = e135 := hw135
                obtain ⟨lo135, hi135⟩ := rangei64 hw135
                have gp5_0_hc_135 := p5_0_hc _ (List.mem_of_getElem? hx135)
                refine KO.pv (PV.indexAddrZ un24_B16 sz3_B16 rfl ha135 rfl (by omega) (by omega)) rfl rfl ?_
                refine KO.load1 ag3_B16 rfl (m133.row0 hb135 hr135) hc135_0 rfl rfl ?_
                refine KO.pv (PV.assign rfl) rfl rfl ?_
                refine KO.pv (PV.assign rfl) rfl rfl ?_
                refine KO.nil ?_
                refine KC.drawG (n := 11) (anc := [0, 1, 3, 7, 15, 0, 0, 0, 192, 511, 1023]) (hv := [8, 10]) (ord := [6, 7, 8, 0, 1, 2, 3, 4, 5, 9, 10]) (by kernel_rfl) (by kernel_rfl) (by kernel_rfl) (by kernel_rfl) (by kernel_rfl) fun H136 n137 g138 => ?_
                have m139 := m133.room n137 g138 [] (by decide) (by decide)
                refine KD.pv 64 (PV.move rfl) rfl rfl rfl (by kernel_rfl) rfl rfl rfl ?_
                refine KD.pv 192 (PV.move rfl) rfl rfl rfl (by kernel_rfl) rfl rfl rfl ?_
                have m140 : Mem [] H H136 [R.row H60.next 24 true [.slice (some ⟨H58.next, 0, none⟩) (((n5 + 1)).toNat) (((n5 + 1)).toNat)], R.row H58.next 3 true (cells (EI .i64) l70), R.row b58 319 true [.int .i64 ci, .slice a1_58 n1_58 n1_58, .slice a_c12_2 n_c12_2 n_c12_2, .slice a3_58 n3_58 n3_58, .slice a4_58 n4_58 n4_58, .map (some m58)], R.lst 150 2 a1_58 n1_58 (cells EP l138) D1_58, R.lst 187 2 a_c12_2 n_c12_2 (cells EP l_c12_2) D_c12_2, R.lst 3 1 a3_58 n3_58 (cells (EI .i64) l12_3) D3_58, R.lst 3 1 a4_58 n4_58 (cells (EI .i64) l12_4) D4_58, R.mp m58 KP (VI fun x => 0 ≤ x ∧ x / 2 ≤ 4002), R.row H1.next 26 true [.int .i64 0, .slice none 0 0, .slice none 0 0, .slice none 0 0, .slice none 0 0]] := m139.pick [0, 1, 2, 3, 4, 5, 6, 7, 8] (by decide) rfl
                refine KD.callV 448 rfl rfl rfl rfl (by kernel_rfl) rfl rfl rfl (hash_of H136 e135 H60.next H58.next (((n5 + 1)).toNat) _ (wrap64 (by omega) (by omega)) (m140.ownK (Rs := [R.row H60.next 24 true [.slice (some ⟨H58.next, 0, none⟩) (((n5 + 1)).toNat) (((n5 + 1)).toNat)], R.row H58.next 3 true (cells (EI .i64) l70)])) (by first | omega | (simp only [splice, List.length_append, List.length_set, List.length_replicate, List.length_map, List.length_take, List.length_drop, List.length_cons, List.length_nil] <;> omega)) (by omega) hw_l70 (by first | omega | assumption) (by first | assumption | exact all_rep (by omega))) fun v141 H141 q141 => ?_
                obtain ⟨z141, hv141, mc141, p141_0⟩ := q141
                dsimp only at hv141 mc141
                subst hv141
                have m142 := m140.seqK (Rs := [R.row H60.next 24 true [.slice (some ⟨H58.next, 0, none⟩) (((n5 + 1)).toNat) (((n5 + 1)).toNat)], R.row H58.next 3 true (cells (EI .i64) l70)]) mc141
                refine KD.pv 449 (PV.move rfl) rfl rfl rfl (by kernel_rfl) rfl rfl rfl ?_
                refine KD.pv 451 (PV.nilCheck rfl) rfl rfl rfl (by kernel_rfl) rfl rfl rfl ?_
                refine KD.pv 455 (PV.fieldAddr fo319_0_B16 rfl) rfl rfl rfl (by kernel_rfl) rfl rfl rfl ?_
                refine KD.pv 463 (PV.fieldAddr fo26_4_B16 rfl) rfl rfl rfl (by kernel_rfl) rfl rfl rfl ?_
                refine KD.load 479 rfl (m142.row (i := 2) rfl) (by rw [read1 ag24_B16]; exact rfl) (pastGo (k := 2) (l := [H141, H136]) (by kernel_rfl) rfl (pastCons ⟨_, (m142.row (i := 2) rfl), (by rw [read1 ag24_B16]; exact rfl)⟩ (pastCons ⟨_, (m139.row (i := 2) rfl), (by rw [read1 ag24_B16]; exact rfl)⟩ pastNil))) veq_sl rfl (by kernel_rfl) rfl rfl rfl ?_
                refine KD.pv 511 (PV.move rfl) rfl rfl rfl (by kernel_rfl) rfl rfl rfl ?_
                obtain ⟨b143, o143, p143, r143, e143, ha143, hb143, hr143, hx143, hw143, hc143, ht143⟩ := V.at_ (m142.vlst (i := 6) rfl hw_l12_4 (by first | omega | (simp only [splice, List.length_append, List.length_set, List.length_replicate, List.length_map, List.length_take, List.length_drop, List.length_cons, List.length_nil] <;> omega))) (z := x182) (by omega) (by omega)
                have hc143_0 : r143.cs[o143 + (x182).toNat * 1 + 0]? = some (.int .i64 e143) := hc143 0 (by decide)
                have hw143 : IntKind.i64.wrap e143 = e143 := hw143
                obtain ⟨lo143, hi143⟩ := rangei64 hw143
                refine KD.pv 1023 (PV.indexAddrZ un24_B16 sz3_B16 rfl ha143 rfl (by omega) (by omega)) rfl rfl rfl (by kernel_rfl) rfl rfl rfl ?_
                refine KD.storeL (C := (EI .i64)) (off := (x182).toNat * 1) 2047 m142 (j := 6) rfl ha143 (by omega) sz3_B16 rfl rfl rfl (cells_roomF (C := (EI .i64)) (xs := l12_4) (i := (x182).toNat) (y := z141) (by first | omega | (simp only [splice, List.length_append, List.length_set, List.length_replicate, List.length_map, List.length_take, List.length_drop, List.length_cons, List.length_nil] <;> omega))) (cells_put (E := (EI .i64)) (xs := l12_4) (i := (x182).toNat) z141 (by first | omega | (simp only [splice, List.length_append, List.length_set, List.length_replicate, List.length_map, List.length_take, List.length_drop, List.length_cons, List.length_nil] <;> omega))) rfl (by kernel_rfl) rfl rfl fun H144 m145 => ?_
                refine KD.nil ⟨rfl, ?_⟩
                refine KC.region ?_
                refine KO.pv (PV.add rfl rfl (wrap64 (by omega) (by omega))) rfl rfl ?_
                refine KO.pv (PV.move rfl) rfl rfl ?_
                refine KO.nil ?_
                exact ⟨_, _, (by omega), (.cons rfl (.cons rfl (.cons rfl (.cons rfl (.cons rfl (.cons rfl (.cons rfl .nil))))))), (x182 + 1), (l12_4.set ((x182).toNat) z141), rfl, rfl, (m145.pick [0, 1, 2, 3, 4, 5, 6, 7, 8] (by decide) rfl), (by first | omega | assumption | (constructor <;> omega)), (by first | omega | (simp only [splice, List.length_append, List.length_set, List.length_replicate, List.length_map, List.length_take, List.length_drop, List.length_cons, List.length_nil] <;> omega)), (all_set hw_l12_4 (wf64 (by omega) (by omega)))⟩
              · refine KC.exit ?_
                refine KC.seq ?_
                refine KC.drawG (n := 8) (anc := [0, 1, 3, 7, 0, 15, 63, 127]) (hv := [5]) (ord := [0, 1, 2, 3, 5, 4, 6, 7]) (by kernel_rfl) (by kernel_rfl) (by kernel_rfl) (by kernel_rfl) (by kernel_rfl) fun H146 n147 g148 => ?_
                have m149 := m133.room n147 g148 [] (by decide) (by decide)
                refine KD.pv 1 (PV.move rfl) rfl rfl rfl (by kernel_rfl) rfl rfl rfl ?_
                refine KD.pv 3 (PV.nilCheck rfl) rfl rfl rfl (by kernel_rfl) rfl rfl rfl ?_
                refine KD.pv 7 (PV.fieldAddr fo319_0_B16 rfl) rfl rfl rfl (by kernel_rfl) rfl rfl rfl ?_
                refine KD.load 15 rfl (m149.row (i := 2) rfl) (readN ag26_B16 sz26_B16 (takeN_of (p := [.int .i64 ci, .slice a1_58 n1_58 n1_58, .slice a_c12_2 n_c12_2 n_c12_2, .slice a3_58 n3_58 n3_58, .slice a4_58 n4_58 n4_58]) rfl rfl)) (pastGo (k := 1) (l := [H146]) (by kernel_rfl) rfl (pastCons ⟨_, (m149.row (i := 2) rfl), (readN ag26_B16 sz26_B16 (takeN_of (p := [.int .i64 ci, .slice a1_58 n1_58 n1_58, .slice a_c12_2 n_c12_2 n_c12_2, .slice a3_58 n3_58 n3_58, .slice a4_58 n4_58 n4_58]) rfl rfl))⟩ pastNil)) (veq_agg (veqCons veqI (veqCons veqS (veqCons veqS (veqCons veqS (veqCons veqS veqNil)))))) rfl (by kernel_rfl) rfl rfl rfl ?_
                refine KD.storeM 47 m149 (j := 8) rfl sz26_B16 rfl rfl rfl (show 0 + 5 ≤ 5 by decide) (show _ = [.int .i64 ci, .slice a1_58 n1_58 n1_58, .slice a_c12_2 n_c12_2 n_c12_2, .slice a3_58 n3_58 n3_58, .slice a4_58 n4_58 n4_58] from rfl) rfl (by kernel_rfl) rfl rfl fun H150 m151 => ?_
                refine KD.load 63 rfl (m151.row (i := 0) rfl) (by rw [read1 ag24_B16]; exact rfl) (pastGo (k := 2) (l := [H150, H146]) (by kernel_rfl) rfl (pastCons ⟨_, (m151.row (i := 0) rfl), (by rw [read1 ag24_B16]; exact rfl)⟩ (pastCons ⟨_, (m149.row (i := 0) rfl), (by rw [read1 ag24_B16]; exact rfl)⟩ pastNil))) veq_sl rfl (by kernel_rfl) rfl rfl rfl ?_
                refine KD.pv 127 (PV.assign rfl) rfl rfl rfl (by kernel_rfl) rfl rfl rfl ?_
                refine KD.pv 255 (PV.assign rfl) rfl rfl rfl (by kernel_rfl) rfl rfl rfl ?_
                refine KD.nil ⟨rfl, ?_⟩
                have m152 := m151.ownLst (C := EP) (i := 3) rfl hw_l138 (by first | omega | (simp only [splice, List.length_append, List.length_set, List.length_replicate, List.length_map, List.length_take, List.length_drop, List.length_cons, List.length_nil] <;> omega))
                have m153 := m152.ownLst (C := EP) (i := 4) rfl hw_l_c12_2 (by first | omega | (simp only [splice, List.length_append, List.length_set, List.length_replicate, List.length_map, List.length_take, List.length_drop, List.length_cons, List.length_nil] <;> omega))
                have m154 := m153.ownLst (C := (EI .i64)) (i := 5) rfl hw_l12_3 (by first | omega | (simp only [splice, List.length_append, List.length_set, List.length_replicate, List.length_map, List.length_take, List.length_drop, List.length_cons, List.length_nil] <;> omega))
                have m155 := m154.ownLst (C := (EI .i64)) (i := 6) rfl hw_l12_4 (by first | omega | (simp only [splice, List.length_append, List.length_set, List.length_replicate, List.length_map, List.length_take, List.length_drop, List.length_cons, List.length_nil] <;> omega))
                have m156 := m155.ownRow (C := (EI .i64)) (i := 1) (sp := none) (n := (((n5 + 1)).toNat)) (c := (((n5 + 1)).toNat)) rfl hw_l70 (by first | omega | (simp only [splice, List.length_append, List.length_set, List.length_replicate, List.length_map, List.length_take, List.length_drop, List.length_cons, List.length_nil] <;> omega)) (by omega) (by omega)
                exact KC.ret ⟨rfl, _, (.cell rfl (ldN (m151.row (i := 8) rfl) ag26_B16 sz26_B16 rfl rfl) (.tmp rfl (.tmp rfl .nil))), ci, a1_58, n1_58, n1_58, l138, D1_58, a_c12_2, n_c12_2, n_c12_2, l_c12_2, D_c12_2, a3_58, n3_58, n3_58, l12_3, D3_58, a4_58, n4_58, n4_58, l12_4, D4_58, (some ⟨H58.next, 0, none⟩), (((n5 + 1)).toNat), (((n5 + 1)).toNat), l70, [H58.next], 0, rfl, m156.pick [3, 4, 5, 6, 1] (by decide) rfl, (by first | omega | (intro h; omega) | (simp only [List.length_nil, true_and, and_true, or_true, true_or] <;> omega)), (by first | omega | (intro h; omega) | (simp only [List.length_nil, true_and, and_true, or_true, true_or] <;> omega)), (by first | omega | (intro h; omega) | (simp only [List.length_nil, true_and, and_true, or_true, true_or] <;> omega)), (by first | omega | (intro h; omega) | (simp only [List.length_nil, true_and, and_true, or_true, true_or] <;> omega) | (exact fun _ _ _ => rfl) | (exact fun h _ _ => p5_2 h) | (exact fun _ h _ => by omega)), (by first | omega | (intro h; omega) | (simp only [List.length_nil, true_and, and_true, or_true, true_or] <;> omega) | (exact fun _ => ⟨by omega, by assumption⟩))⟩
theorem Mul64_one (H : AHeap)  (y : Int) (w_y : IntKind.u64.wrap y = y) (hy : y ≤ 4294967295) : WF E0 268 [.int .u64 1, .int .u64 y] H fun q => ∃ (h : Int) (z : Int), q.1 = .tuple #[.int .u64 h, .int .u64 z] ∧ Mem [] H q.2 [] ∧ (h = 0 ∧ z = y) := by
  obtain ⟨lo_y, hi_y⟩ := rangeu64 w_y
  have m0 : Mem [] H H [] := Mem.start
  refine WF.kg Tryz.func268 rfl rfl ?_
  refine KC.seq ?_
  refine KC.region ?_
  refine KO.pv (PV.assign rfl) rfl rfl ?_
  refine KO.pv (PV.assign rfl) rfl rfl ?_
  refine KO.nil ?_
  refine KC.seq ?_
  refine KC.region ?_
  refine KO.pv (PV.move rfl) rfl rfl ?_
  refine KO.pv ((show PV _ _ _ (.int .u64 1) from PV.andU (a := 1) rfl rfl (by decide) (by decide))) rfl rfl ?_
  refine KO.pv (PV.assign rfl) rfl rfl ?_
  refine KO.nil ?_
  refine KC.seq ?_
  refine KC.region ?_
  refine KO.pv (PV.move rfl) rfl rfl ?_
  refine KO.pv ((show PV _ _ _ (.int .u64 0) from PV.shrU (p := 4294967296) (a := 1) rfl rfl (by decide) (by decide) (by decide))) rfl rfl ?_
  refine KO.pv (PV.assign rfl) rfl rfl ?_
  refine KO.nil ?_
  refine KC.seq ?_
  refine KC.region ?_
  refine KO.pv (PV.move rfl) rfl rfl ?_
  refine KO.pv (PV.andU rfl rfl (by omega) (by omega)) rfl rfl ?_
  refine KO.pv (PV.assign rfl) rfl rfl ?_
  refine KO.nil ?_
  refine KC.seq ?_
  refine KC.region ?_
  refine KO.pv (PV.move rfl) rfl rfl ?_
  refine KO.pv (PV.shrU (p := 4294967296) rfl rfl (by decide) (by decide) (by decide)) rfl rfl ?_
  refine KO.pv (PV.assign rfl) rfl rfl ?_
  refine KO.nil ?_
  refine KC.seq ?_
  refine KC.region ?_
  refine KO.pv (PV.move rfl) rfl rfl ?_
  refine KO.pv (PV.move rfl) rfl rfl ?_
  refine KO.pv (PV.mul rfl rfl (wrapU64 (by omega) (by omega))) rfl rfl ?_
  refine KO.pv (PV.assign rfl) rfl rfl ?_
  refine KO.nil ?_
  refine KC.seq ?_
  refine KC.region ?_
  refine KO.pv (PV.move rfl) rfl rfl ?_
  refine KO.pv (PV.move rfl) rfl rfl ?_
  refine KO.pv (PV.mul rfl rfl (wrapU64 (by omega) (by omega))) rfl rfl ?_
  refine KO.pv (PV.move rfl) rfl rfl ?_
  refine KO.pv (PV.shrU (p := 4294967296) rfl rfl (by decide) (by decide) (by decide)) rfl rfl ?_
  refine KO.pv (PV.add rfl rfl (wrapU64 (by omega) (by omega))) rfl rfl ?_
  refine KO.pv (PV.assign rfl) rfl rfl ?_
  refine KO.nil ?_
  refine KC.seq ?_
  refine KC.region ?_
  refine KO.pv (PV.move rfl) rfl rfl ?_
  refine KO.pv (PV.andU rfl rfl (by omega) (by omega)) rfl rfl ?_
  refine KO.pv (PV.assign rfl) rfl rfl ?_
  refine KO.nil ?_
  refine KC.seq ?_
  refine KC.region ?_
  refine KO.pv (PV.move rfl) rfl rfl ?_
  refine KO.pv (PV.shrU (p := 4294967296) rfl rfl (by decide) (by decide) (by decide)) rfl rfl ?_
  refine KO.pv (PV.assign rfl) rfl rfl ?_
  refine KO.nil ?_
  refine KC.seq ?_
  refine KC.region ?_
  refine KO.pv (PV.move rfl) rfl rfl ?_
  refine KO.pv (PV.move rfl) rfl rfl ?_
  refine KO.pv (PV.move rfl) rfl rfl ?_
  refine KO.pv (PV.mul rfl rfl (wrapU64 (by omega) (by omega))) rfl rfl ?_
  refine KO.pv (PV.add rfl rfl (wrapU64 (by omega) (by omega))) rfl rfl ?_
  refine KO.pv (PV.assign rfl) rfl rfl ?_
  refine KO.nil ?_
  refine KC.seq ?_
  refine KC.region ?_
  refine KO.pv (PV.move rfl) rfl rfl ?_
  refine KO.pv (PV.move rfl) rfl rfl ?_
  refine KO.pv (PV.mul rfl rfl (wrapU64 (by omega) (by omega))) rfl rfl ?_
  refine KO.pv (PV.move rfl) rfl rfl ?_
  refine KO.pv (PV.add rfl rfl (wrapU64 (by omega) (by omega))) rfl rfl ?_
  refine KO.pv (PV.move rfl) rfl rfl ?_
  refine KO.pv (PV.shrU (p := 4294967296) rfl rfl (by decide) (by decide) (by decide)) rfl rfl ?_
  refine KO.pv (PV.add rfl rfl (wrapU64 (by omega) (by omega))) rfl rfl ?_
  refine KO.pv (PV.assign rfl) rfl rfl ?_
  refine KO.nil ?_
  refine KC.seq ?_
  refine KC.region ?_
  refine KO.pv (PV.move rfl) rfl rfl ?_
  refine KO.pv (PV.move rfl) rfl rfl ?_
  refine KO.pv (PV.mul rfl rfl (wrapU64 (by omega) (by omega))) rfl rfl ?_
  refine KO.pv (PV.assign rfl) rfl rfl ?_
  refine KO.nil ?_
  exact KC.ret ⟨rfl, _, (.tmp rfl (.tmp rfl .nil)), (((0 * (y / 4294967296)) + (((0 * (y % 4294967296)) + ((1 * (y % 4294967296)) / 4294967296)) / 4294967296)) + (((((0 * (y % 4294967296)) + ((1 * (y % 4294967296)) / 4294967296)) % 4294967296) + (1 * (y / 4294967296))) / 4294967296)), (1 * y), rfl, m0.pick [] (by decide) rfl, (by first | omega | (intro h; omega) | (simp only [List.length_nil, true_and, and_true, or_true, true_or] <;> omega))⟩
theorem Mul_one (H : AHeap)  (y : Int) (w_y : IntKind.u64.wrap y = y) (hy : y ≤ 4294967295) : WF E0 228 [.int .u64 1, .int .u64 y] H fun q => ∃ (h : Int) (z : Int), q.1 = .tuple #[.int .u64 h, .int .u64 z] ∧ Mem [] H q.2 [] ∧ (h = 0 ∧ z = y) := by
  obtain ⟨lo_y, hi_y⟩ := rangeu64 w_y
  have m0 : Mem [] H H [] := Mem.start
  refine WF.kg Tryz.func228 rfl rfl ?_
  refine KC.seq ?_
  refine KC.region ?_
  refine KO.pv (PV.assign rfl) rfl rfl ?_
  refine KO.pv (PV.assign rfl) rfl rfl ?_
  refine KO.nil ?_
  refine KC.seq ?_
  refine KC.condF rfl ?_
  refine KC.skip ?_
  refine KC.seq ?_
  refine KC.region ?_
  refine KO.pv (PV.move rfl) rfl rfl ?_
  refine KO.pv (PV.move rfl) rfl rfl ?_
  refine KO.call rfl rfl rfl rfl (Mul64_one H y (wrapU64 (by omega) (by omega)) (by first | omega | assumption)) fun v1 H1 q1 => ?_
  obtain ⟨h1, z1, hv1, mc1, p1_0⟩ := q1
  dsimp only at hv1 mc1
  subst hv1
  have m2 := m0.seq mc1
  refine KO.pv (PV.move rfl) rfl rfl ?_
  refine KO.pv (PV.extract rfl rfl) rfl rfl ?_
  refine KO.pv (PV.extract rfl rfl) rfl rfl ?_
  refine KO.pv (PV.assign rfl) rfl rfl ?_
  refine KO.pv (PV.assign rfl) rfl rfl ?_
  refine KO.nil ?_
  refine KC.seq ?_
  refine KC.region ?_
  refine KO.pv (PV.move rfl) rfl rfl ?_
  refine KO.pv (PV.move rfl) rfl rfl ?_
  refine KO.pv (PV.assign rfl) rfl rfl ?_
  refine KO.pv (PV.assign rfl) rfl rfl ?_
  refine KO.nil ?_
  exact KC.ret ⟨rfl, _, (.tmp rfl (.tmp rfl .nil)), h1, z1, rfl, m2.pick [] (by decide) rfl, (by first | omega | (intro h; omega) | (simp only [List.length_nil, true_and, and_true, or_true, true_or] <;> omega))⟩
theorem Repeat_one (H : AHeap) (a_s : Option Addr) (c_s : Nat) (s : List Int) (k : Int) (h_s : V (EI .i64) H a_s 1 c_s s) (w_k : IntKind.i64.wrap k = k) (hk : 1 ≤ k ∧ k ≤ 100000) : WF E0 171 [.slice a_s 1 c_s, .int .i64 k] H fun q => ∃ (b : Nat) (n : Nat) (ys : List Int), q.1 = .slice (some ⟨b, 0, none⟩) n n ∧ Mem [] H q.2 [R.row b 3 true (cells (EI .i64) ys)] ∧ ((n : Int) = k) ∧ (∀ u ∈ ys, u ∈ s) ∧ (ys.length = n) ∧ (∀ u ∈ ys, (EI .i64).wf u) := by
  obtain ⟨len_s, cap_s, max_s, wf_s⟩ := h_s.len
  obtain ⟨lo_k, hi_k⟩ := rangei64 w_k
  have m0 : Mem [] H H [] := Mem.start
  refine WF.kg Tryz.func171 rfl rfl ?_
  refine KC.seq ?_
  refine KC.region ?_
  refine KO.pv (PV.assign rfl) rfl rfl ?_
  refine KO.nil ?_
  refine KC.seq ?_
  refine KC.seq ?_
  refine KC.region ?_
  refine KO.pv (PV.move rfl) rfl rfl ?_
  refine KO.pv (PV.lssD rfl rfl rfl) rfl rfl ?_
  refine KO.nil ?_
  refine KC.condD rfl (fun h1 => ?_) (fun h1 => ?_)
  · exfalso
    omega
  · refine KC.skip ?_
    refine KC.seq ?_
    refine KC.region ?_
    refine KO.pv (PV.move rfl) rfl rfl ?_
    refine KO.pv (PV.len un24_B16 rfl) rfl rfl ?_
    refine KO.pv (PV.convertE un3_B16 un181_B16 rfl (wrapU64 (by omega) (by omega))) rfl rfl ?_
    refine KO.pv (PV.move rfl) rfl rfl ?_
    refine KO.pv (PV.convertE un3_B16 un181_B16 rfl (wrapU64 (by omega) (by omega))) rfl rfl ?_
    refine KO.call rfl rfl rfl rfl (Mul_one H k (wrapU64 (by omega) (by omega)) (by first | omega | assumption)) fun v2 H2 q2 => ?_
    obtain ⟨h2, z2, hv2, mc2, p2_0⟩ := q2
    dsimp only at hv2 mc2
    subst hv2
    have m3 := m0.seq mc2
    refine KO.pv (PV.move rfl) rfl rfl ?_
    refine KO.pv (PV.extract rfl rfl) rfl rfl ?_
    refine KO.pv (PV.extract rfl rfl) rfl rfl ?_
    refine KO.pv (PV.assign rfl) rfl rfl ?_
    refine KO.pv (PV.assign rfl) rfl rfl ?_
    refine KO.nil ?_
    refine KC.seq ?_
    refine KC.seq ?_
    refine KC.region ?_
    refine KO.pv (PV.move rfl) rfl rfl ?_
    by_cases h4 : 0 < h2
    · refine KO.pv (PV.gtrD rfl rfl (decide_eq_true h4)) rfl rfl ?_
      refine KO.pv (PV.move rfl) rfl rfl ?_
      refine KO.no rfl rfl rfl ?_
      refine KO.no rfl rfl rfl ?_
      refine KO.pv (PV.pickT rfl rfl rfl) rfl rfl ?_
      refine KO.nil ?_
      refine KC.condT rfl ?_
      exfalso
      omega
    · refine KO.pv (PV.gtrD rfl rfl (decide_eq_false h4)) rfl rfl ?_
      refine KO.pv (PV.move rfl) rfl rfl ?_
      refine KO.pv (PV.move rfl) rfl rfl ?_
      refine KO.pv (PV.gtrD rfl rfl rfl) rfl rfl ?_
      refine KO.pv (PV.pickF rfl rfl rfl) rfl rfl ?_
      refine KO.nil ?_
      refine KC.condD rfl (fun h5 => ?_) (fun h5 => ?_)
      · exfalso
        omega
      · refine KC.skip ?_
        refine KC.seq ?_
        refine KC.region ?_
        refine KO.pv (PV.move rfl) rfl rfl ?_
        refine KO.pv (PV.convertE un181_B16 un3_B16 rfl (wrap64 (by omega) (by omega))) rfl rfl ?_
        refine KO.makeSliceM (C := (EI .i64)) 0 m3 el24_B16 ez3_B16 sb3_B16 rfl rfl (by omega) (by omega) (by omega) rfl rfl fun H6 m7 => ?_
        refine KO.pv (PV.assign rfl) rfl rfl ?_
        refine KO.nil ?_
        refine KC.seq ?_
        refine KC.region ?_
        refine KO.pv (PV.move rfl) rfl rfl ?_
        refine KO.pv (PV.move rfl) rfl rfl ?_
        refine KO.copyW (C := (EI .i64)) m7 (i := 0) rfl (V.mem m7 h_s) el24_B16 sz3_B16 rfl rfl (by omega) (by first | omega | (simp only [splice, List.length_append, List.length_set, List.length_replicate, List.length_map, List.length_take, List.length_drop, List.length_cons, List.length_nil] <;> omega)) rfl rfl fun H8 m9 => ?_
        refine KO.pv (PV.assign rfl) rfl rfl ?_
        refine KO.nil ?_
        refine KC.seq ?_
        refine KC.block ?_
        refine KC.sub (l' := [(7, .slice (some ⟨H2.next, 0, none⟩) ((z2).toNat) ((z2).toNat)), (8, .int .i64 1)]) (.cons rfl (.cons rfl .nil)) ?_
        refine KC.loopN (fun kq lq A => ∃ (x8 : Int) (l7 : List Int), kq = (k - x8).toNat ∧ lq = [(7, .slice (some ⟨H2.next, 0, none⟩) ((z2).toNat) ((z2).toNat)), (8, .int .i64 x8)] ∧ Mem [] H A [R.row H2.next 3 true (cells (EI .i64) l7)] ∧ (∀ u ∈ l7.take x8.toNat, u ∈ s) ∧ (1 ≤ x8 ∧ x8 ≤ k) ∧ (l7.length = (z2).toNat) ∧ (∀ u ∈ l7, (EI .i64).wf u)) ?_ ((k - 1).toNat) ⟨1, (splice (List.replicate ((z2).toNat) 0) 0 s), rfl, rfl, (m9.pick [0] (by decide) rfl), (fun u hu => by rcases splice_take (by omega) (by (try simp only [List.length_take]) <;> omega) hu with h | h <;> first | exact h | (simp at h)), (by first | omega | (simp only [splice, List.length_append, List.length_set, List.length_replicate, List.length_map, List.length_take, List.length_drop, List.length_cons, List.length_nil] <;> omega)), (by first | omega | (simp only [splice, List.length_append, List.length_set, List.length_replicate, List.length_map, List.length_take, List.length_drop, List.length_cons, List.length_nil] <;> omega)), (all_splice (all_rep (wf64 (by omega) (by omega))) wf_s)⟩
        rintro kq lq A10 ⟨x8, l7, rfl, rfl, m11, hpfx, hx8, hl_l7, hw_l7⟩
        refine KC.seq ?_
        refine KC.seq ?_
        refine KC.region ?_
        refine KO.pv (PV.move rfl) rfl rfl ?_
        refine KO.pv (PV.move rfl) rfl rfl ?_
        refine KO.pv (PV.len un24_B16 rfl) rfl rfl ?_
        refine KO.pv (PV.lssD rfl rfl rfl) rfl rfl ?_
        refine KO.nil ?_
        refine KC.condD rfl (fun h12 => ?_) (fun h12 => ?_)
        · refine KC.skip ?_
          refine KC.block ?_
          refine KC.drawG (n := 10) (anc := [0, 0, 0, 6, 0, 0, 48, 126, 255, 511]) (hv := [7]) (ord := [1, 2, 3, 4, 5, 6, 7, 0, 8, 9]) (by kernel_rfl) (by kernel_rfl) (by kernel_rfl) (by kernel_rfl) (by kernel_rfl) fun H13 n14 g15 => ?_
          have m16 := m11.room n14 g15 [] (by decide) (by decide)
          refine KD.pv 2 (PV.move rfl) rfl rfl rfl (by kernel_rfl) rfl rfl rfl ?_
          refine KD.pv 6 (PV.move rfl) rfl rfl rfl (by kernel_rfl) rfl rfl rfl ?_
          refine KD.pv 14 (PV.slice rfl (fun _ h => by cases h; exact ⟨_, rfl, rfl⟩) (fun h => by cases h) (fun _ h => by cases h) (fun _ => rfl) (fun _ h => by cases h) (fun _ => rfl) (sliceP un24_B16 sz3_B16 rfl rfl (boundA_int (by omega) (by omega)) rfl)) rfl rfl rfl (by kernel_rfl) rfl rfl rfl ?_
          refine KD.pv 30 (PV.move rfl) rfl rfl rfl (by kernel_rfl) rfl rfl rfl ?_
          refine KD.pv 62 (PV.move rfl) rfl rfl rfl (by kernel_rfl) rfl rfl rfl ?_
          refine KD.pv 126 (PV.slice rfl (fun _ h => by cases h) (fun _ => rfl) (fun _ h => by cases h; exact ⟨_, rfl, rfl⟩) (fun h => by cases h) (fun _ h => by cases h) (fun _ => rfl) (sliceTo un24_B16 sz3_B16 (m16.vrow (i := 0) rfl hw_l7 (by first | omega | (simp only [splice, List.length_append, List.length_set, List.length_replicate, List.length_map, List.length_take, List.length_drop, List.length_cons, List.length_nil] <;> omega)) (by omega) (by omega)) (by omega) (by omega))) rfl rfl rfl (by kernel_rfl) rfl rfl rfl ?_
          obtain ⟨d19, hd19, hda19, hdb19, hdc19⟩ := minND ((x8).toNat) ((z2).toNat - (x8).toNat)
          refine KD.copyN (C := (EI .i64)) (l0 := ((x8).toNat)) (m0 := ((z2).toNat)) 254 m16 (j := 0) rfl (V.take (m16.vrow (i := 0) (n := (z2).toNat) (c := (z2).toNat) rfl hw_l7 (by first | omega | (simp only [splice, List.length_append, List.length_set, List.length_replicate, List.length_map, List.length_take, List.length_drop, List.length_cons, List.length_nil] <;> omega)) (by omega) (by omega)) (m := (x8).toNat) (by omega) (by omega)) el24_B16 sz3_B16 rfl rfl hd19 hda19 hdb19 (by first | omega | (simp only [splice, List.length_append, List.length_set, List.length_replicate, List.length_map, List.length_take, List.length_drop, List.length_cons, List.length_nil] <;> omega)) (by omega) rfl (by kernel_rfl) rfl rfl rfl fun H17 m18 => ?_
          refine KD.pv 255 (PV.move rfl) rfl rfl rfl (by kernel_rfl) rfl rfl rfl ?_
          refine KD.pv 511 (PV.add rfl rfl (wrap64 (by omega) (by omega))) rfl rfl rfl (by kernel_rfl) rfl rfl rfl ?_
          refine KD.pv 1023 (PV.assign rfl) rfl rfl rfl (by kernel_rfl) rfl rfl rfl ?_
          refine KD.nil ⟨rfl, ?_⟩
          exact ⟨_, _, (by omega), (.cons rfl (.cons rfl .nil)), (x8 + (d19 : Int)), (splice l7 ((x8).toNat) ((l7.take ((x8).toNat)).take d19)), rfl, rfl, (m18.pick [0] (by decide) rfl), (fun u hu => by rcases splice_take (by omega) (by simp only [List.length_take]; omega) hu with h | h <;> first | exact hpfx u h | exact hpfx u (List.mem_of_mem_take h)), (by first | omega | (simp only [splice, List.length_append, List.length_set, List.length_replicate, List.length_map, List.length_take, List.length_drop, List.length_cons, List.length_nil] <;> omega)), (by first | omega | (simp only [splice, List.length_append, List.length_set, List.length_replicate, List.length_map, List.length_take, List.length_drop, List.length_cons, List.length_nil] <;> omega)), (all_splice hw_l7 (all_take (all_take hw_l7)))⟩
        · refine KC.exit ?_
          refine KC.seq ?_
          refine KC.region ?_
          refine KO.pv (PV.move rfl) rfl rfl ?_
          refine KO.pv (PV.assign rfl) rfl rfl ?_
          refine KO.nil ?_
          exact KC.ret ⟨rfl, _, (.tmp rfl .nil), H2.next, ((z2).toNat), l7, rfl, m11.pick [0] (by decide) rfl, (by first | omega | (intro h; omega) | (simp only [List.length_nil, true_and, and_true, or_true, true_or] <;> omega)), (by first | omega | (intro h; omega) | (simp only [List.length_nil, true_and, and_true, or_true, true_or] <;> omega) | (exact fun u hu => hpfx u (by rw [List.take_of_length_le (by omega)]; exact hu))), (by first | omega | (intro h; omega) | (simp only [List.length_nil, true_and, and_true, or_true, true_or] <;> omega)), (by first | omega | (intro h; omega) | (simp only [List.length_nil, true_and, and_true, or_true, true_or] <;> omega) | assumption)⟩
end Go.Eng
