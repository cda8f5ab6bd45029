/- Functions of the program and of the library keep their contracts. Conditions: none beyond each theorem's own. -/
import Derived.Test.YtbjiommpeeanmaaGreatDoorPrefixB15
import Derived.Test.YtbjiommpeeanmaaGreatDoorPrefixB11
import Derived.KernelRfl
set_option linter.all false
namespace Go.Eng
open Go Go.Proofs
theorem ag3_B17 : isAggT E0.P 3 = some false := by kernel_rfl
theorem sz3_B17 : sizeT E0.P 3 = some 1 := by kernel_rfl
theorem ag24_B17 : isAggT E0.P 24 = some false := by kernel_rfl
theorem el24_B17 : elemT E0.P 24 = some 3 := by kernel_rfl
theorem ez3_B17 : elemZ E0.P 3 = some (1, [.int .i64 0]) := by kernel_rfl
theorem sb3_B17 : smallBytes E0.P 3 = true := by kernel_rfl
theorem un24_B17 : E0.P.underlying 24 = some (.slice 3) := by kernel_rfl
theorem sz24_B17 : sizeT E0.P 24 = some 1 := by kernel_rfl
theorem un34_B17 : E0.P.underlying 34 = some (.slice 24) := by kernel_rfl
theorem fo26_0_B17 : foff E0.P 26 0 = some 0 := by kernel_rfl
theorem fo26_1_B17 : foff E0.P 26 1 = some 1 := by kernel_rfl
theorem ag22_B17 : isAggT E0.P 22 = some false := by kernel_rfl
theorem un22_B17 : E0.P.underlying 22 = some (.slice 150) := by kernel_rfl
theorem fo26_2_B17 : foff E0.P 26 2 = some 2 := by kernel_rfl
theorem ag23_B17 : isAggT E0.P 23 = some false := by kernel_rfl
theorem un23_B17 : E0.P.underlying 23 = some (.slice 187) := by kernel_rfl
theorem sz150_B17 : sizeT E0.P 150 = some 2 := by kernel_rfl
theorem ag150_B17 : isAggT E0.P 150 = some true := by kernel_rfl
theorem fo150_0_B17 : foff E0.P 150 0 = some 0 := by kernel_rfl
theorem ag26_B17 : isAggT E0.P 26 = some true := by kernel_rfl
theorem sz26_B17 : sizeT E0.P 26 = some 5 := by kernel_rfl
theorem fo26_3_B17 : foff E0.P 26 3 = some 3 := by kernel_rfl
theorem fo26_4_B17 : foff E0.P 26 4 = some 4 := by kernel_rfl
theorem sz187_B17 : sizeT E0.P 187 = some 2 := by kernel_rfl
theorem ag187_B17 : isAggT E0.P 187 = some true := by kernel_rfl
theorem zt187_B17 : zeroT E0.P 187 = some [.int .i64 0, .int .i64 0] := by kernel_rfl
theorem fo187_1_B17 : foff E0.P 187 1 = some 1 := by kernel_rfl
theorem fo187_0_B17 : foff E0.P 187 0 = some 0 := by kernel_rfl
theorem zt150_B17 : zeroT E0.P 150 = some [.int .i64 0, .int .i64 0] := by kernel_rfl
theorem el23_B17 : elemT E0.P 23 = some 187 := by kernel_rfl
theorem ez187_B17 : elemZ E0.P 187 = some (2, [.int .i64 0, .int .i64 0]) := by kernel_rfl
theorem sb187_B17 : smallBytes E0.P 187 = true := by kernel_rfl
theorem el22_B17 : elemT E0.P 22 = some 150 := by kernel_rfl
theorem ez150_B17 : elemZ E0.P 150 = some (2, [.int .i64 0, .int .i64 0]) := by kernel_rfl
theorem sb150_B17 : smallBytes E0.P 150 = true := by kernel_rfl
theorem bl187_0i64_1i64_B17 (v0 : Int) (v1 : Int) : buildA E0.P 187 [(0, .int .i64 v0), (1, .int .i64 v1)] = some (.agg #[.int .i64 v0, .int .i64 v1]) := by kernel_rfl
theorem sz23_B17 : sizeT E0.P 23 = some 1 := by kernel_rfl
theorem zt24_B17 : zeroT E0.P 24 = some [.slice none 0 0] := by kernel_rfl
theorem ag225_B17 : isAggT E0.P 225 = some false := by kernel_rfl
theorem zt26_B17 : zeroT E0.P 26 = some [.int .i64 0, .slice none 0 0, .slice none 0 0, .slice none 0 0, .slice none 0 0] := by kernel_rfl
theorem zt38_B17 : zeroT E0.P 38 = some [.int .i64 0, .int .i64 0, .slice none 0 0, .slice none 0 0, .slice none 0 0, .slice none 0 0, .int .i64 0] := by kernel_rfl
theorem sz38_B17 : sizeT E0.P 38 = some 7 := by kernel_rfl
theorem ag38_B17 : isAggT E0.P 38 = some true := by kernel_rfl
theorem el34_B17 : elemT E0.P 34 = some 24 := by kernel_rfl
theorem ez24_B17 : elemZ E0.P 24 = some (1, [.slice none 0 0]) := by kernel_rfl
theorem sb24_B17 : smallBytes E0.P 24 = true := by kernel_rfl
theorem bl36_1i64_B17 (v0 : Int) : buildA E0.P 36 [(1, .int .i64 v0)] = some (.agg #[.slice none 0 0, .int .i64 v0]) := by kernel_rfl
theorem fo38_3_B17 : foff E0.P 38 3 = some 3 := by kernel_rfl
theorem ag34_B17 : isAggT E0.P 34 = some false := by kernel_rfl
theorem fo38_2_B17 : foff E0.P 38 2 = some 2 := by kernel_rfl
theorem fo38_4_B17 : foff E0.P 38 4 = some 4 := by kernel_rfl
theorem sz22_B17 : sizeT E0.P 22 = some 1 := by kernel_rfl
theorem zt40_B17 : zeroT E0.P 40 = some [.int .i64 0, .slice none 0 0, .slice none 0 0, .slice none 0 0, .slice none 0 0, .int .i64 0, .int .i64 0, .slice none 0 0, .slice none 0 0, .slice none 0 0, .slice none 0 0, .int .i64 0] := by kernel_rfl
theorem bl40__B17  : buildA E0.P 40 [] = some (.agg #[.int .i64 0, .slice none 0 0, .slice none 0 0, .slice none 0 0, .slice none 0 0, .int .i64 0, .int .i64 0, .slice none 0 0, .slice none 0 0, .slice none 0 0, .slice none 0 0, .int .i64 0]) := by kernel_rfl
theorem sz40_B17 : sizeT E0.P 40 = some 12 := by kernel_rfl
theorem ag40_B17 : isAggT E0.P 40 = some true := by kernel_rfl
theorem bl40_0Ai64ssss_1Ai64i64ssssi64_B17 (v0_0 : Int) (v0_1a : Option Addr) (v0_1n v0_1c : Nat) (v0_2a : Option Addr) (v0_2n v0_2c : Nat) (v0_3a : Option Addr) (v0_3n v0_3c : Nat) (v0_4a : Option Addr) (v0_4n v0_4c : Nat) (v1_0 : Int) (v1_1 : Int) (v1_2a : Option Addr) (v1_2n v1_2c : Nat) (v1_3a : Option Addr) (v1_3n v1_3c : Nat) (v1_4a : Option Addr) (v1_4n v1_4c : Nat) (v1_5a : Option Addr) (v1_5n v1_5c : Nat) (v1_6 : Int) : buildA E0.P 40 [(0, .agg #[.int .i64 v0_0, .slice v0_1a v0_1n v0_1c, .slice v0_2a v0_2n v0_2c, .slice v0_3a v0_3n v0_3c, .slice v0_4a v0_4n v0_4c]), (1, .agg #[.int .i64 v1_0, .int .i64 v1_1, .slice v1_2a v1_2n v1_2c, .slice v1_3a v1_3n v1_3c, .slice v1_4a v1_4n v1_4c, .slice v1_5a v1_5n v1_5c, .int .i64 v1_6])] = some (.agg #[.int .i64 v0_0, .slice v0_1a v0_1n v0_1c, .slice v0_2a v0_2n v0_2c, .slice v0_3a v0_3n v0_3c, .slice v0_4a v0_4n v0_4c, .int .i64 v1_0, .int .i64 v1_1, .slice v1_2a v1_2n v1_2c, .slice v1_3a v1_3n v1_3c, .slice v1_4a v1_4n v1_4c, .slice v1_5a v1_5n v1_5c, .int .i64 v1_6]) := by kernel_rfl
theorem fo153_0_B17 : foff E0.P 153 0 = some 0 := by kernel_rfl
theorem fo153_2_B17 : foff E0.P 153 2 = some 10 := by kernel_rfl
theorem ag151_B17 : isAggT E0.P 151 = some false := by kernel_rfl
theorem mt151_B17 : mapT E0.P 151 = some (187, 3) := by kernel_rfl
theorem kk151_B17 (a b : Int) : keyKind E0.P 187 (.agg #[.int .i64 a, .int .i64 b]) = true := by kernel_rfl
theorem zv151_B17 : zeroV E0.P 3 = some (.int .i64 0) := by kernel_rfl
theorem zt157_B17 : zeroT E0.P 157 = some [.slice none 0 0, .int .i64 0, .int .i64 0] := by kernel_rfl
theorem fo153_1_B17 : foff E0.P 153 1 = some 5 := by kernel_rfl
theorem zt225_B17 : zeroT E0.P 225 = some [.nilFunc] := by kernel_rfl
theorem sz225_B17 : sizeT E0.P 225 = some 1 := by kernel_rfl
theorem fo157_0_B17 : foff E0.P 157 0 = some 0 := by kernel_rfl
theorem fo157_1_B17 : foff E0.P 157 1 = some 1 := by kernel_rfl
theorem fo157_2_B17 : foff E0.P 157 2 = some 2 := by kernel_rfl
theorem ag157_B17 : isAggT E0.P 157 = some true := by kernel_rfl
theorem sz157_B17 : sizeT E0.P 157 = some 3 := by kernel_rfl
theorem bl26_0i64_1s_B17 (v0 : Int) (v1a : Option Addr) (v1n v1c : Nat) : buildA E0.P 26 [(0, .int .i64 v0), (1, .slice v1a v1n v1c)] = some (.agg #[.int .i64 v0, .slice v1a v1n v1c, .slice none 0 0, .slice none 0 0, .slice none 0 0]) := by kernel_rfl
theorem bl153_0Ai64ssss_1Ai64ssss_2m_B17 (v0_0 : Int) (v0_1a : Option Addr) (v0_1n v0_1c : Nat) (v0_2a : Option Addr) (v0_2n v0_2c : Nat) (v0_3a : Option Addr) (v0_3n v0_3c : Nat) (v0_4a : Option Addr) (v0_4n v0_4c : Nat) (v1_0 : Int) (v1_1a : Option Addr) (v1_1n v1_1c : Nat) (v1_2a : Option Addr) (v1_2n v1_2c : Nat) (v1_3a : Option Addr) (v1_3n v1_3c : Nat) (v1_4a : Option Addr) (v1_4n v1_4c : Nat) (v2b : Nat) : buildA E0.P 153 [(0, .agg #[.int .i64 v0_0, .slice v0_1a v0_1n v0_1c, .slice v0_2a v0_2n v0_2c, .slice v0_3a v0_3n v0_3c, .slice v0_4a v0_4n v0_4c]), (1, .agg #[.int .i64 v1_0, .slice v1_1a v1_1n v1_1c, .slice v1_2a v1_2n v1_2c, .slice v1_3a v1_3n v1_3c, .slice v1_4a v1_4n v1_4c]), (2, .map (some v2b))] = some (.agg #[.int .i64 v0_0, .slice v0_1a v0_1n v0_1c, .slice v0_2a v0_2n v0_2c, .slice v0_3a v0_3n v0_3c, .slice v0_4a v0_4n v0_4c, .int .i64 v1_0, .slice v1_1a v1_1n v1_1c, .slice v1_2a v1_2n v1_2c, .slice v1_3a v1_3n v1_3c, .slice v1_4a v1_4n v1_4c, .map (some v2b)]) := by kernel_rfl
theorem sz34_B17 : sizeT E0.P 34 = some 1 := by kernel_rfl
theorem bl150_1i64_B17 (v0 : Int) : buildA E0.P 150 [(1, .int .i64 v0)] = some (.agg #[.int .i64 0, .int .i64 v0]) := by kernel_rfl
theorem bl38_0i64_1i64_5Asi64_B17 (v0 : Int) (v1 : Int) (v2_0a : Option Addr) (v2_0n v2_0c : Nat) (v2_1 : Int) : buildA E0.P 38 [(0, .int .i64 v0), (1, .int .i64 v1), (5, .agg #[.slice v2_0a v2_0n v2_0c, .int .i64 v2_1])] = some (.agg #[.int .i64 v0, .int .i64 v1, .slice none 0 0, .slice none 0 0, .slice none 0 0, .slice v2_0a v2_0n v2_0c, .int .i64 v2_1]) := by kernel_rfl
theorem mulB {a b A B : Int} (h0 : 0 ≤ a) (h1 : a ≤ A) (h2 : 0 ≤ b) (h3 : b ≤ B) : 0 ≤ a * b ∧ a * b ≤ A * B :=
  ⟨Int.mul_nonneg h0 h2, Int.mul_le_mul h1 h3 h2 (Int.le_trans h0 h1)⟩
theorem pref_vars (H : AHeap) (b_b : Nat) (bi : Int) (a_bL : Option Addr) (n_bL c_bL : Nat) (a_bA : Option Addr) (n_bA : Nat) (bA : List (Int × Int)) (D_bA : List Nat) (a_bB : Option Addr) (n_bB c_bB : Nat) (a_bC : Option Addr) (n_bC c_bC : Nat) (fi : Int) (a_fL : Option Addr) (n_fL c_fL : Nat) (a_fA : Option Addr) (n_fA c_fA : Nat) (a_fB : Option Addr) (n_fB c_fB : Nat) (a_fC : Option Addr) (n_fC c_fC : Nat) (m_bm : Nat) (h_b : Mem ([b_b] ++ (D_bA ++ ([m_bm] ++ []))) H H [R.row b_b 153 true [.int .i64 bi, .slice a_bL n_bL c_bL, .slice a_bA n_bA n_bA, .slice a_bB n_bB c_bB, .slice a_bC n_bC c_bC, .int .i64 fi, .slice a_fL n_fL c_fL, .slice a_fA n_fA c_fA, .slice a_fB n_fB c_fB, .slice a_fC n_fC c_fC, .map (some m_bm)], R.lst 187 2 a_bA n_bA (cells EP bA) D_bA, R.mp m_bm KP (VI fun x => 0 ≤ x ∧ x / 2 ≤ 200000)]) (w_bi : IntKind.i64.wrap bi = bi) (wf_bA : ∀ u ∈ bA, (EP).wf u) (w_fi : IntKind.i64.wrap fi = fi) (h0 : 0 ≤ bi ∧ bi ≤ 20000 ∧ n_bL ≤ 2000 ∧ n_bA ≤ 100000) : WF E0 97 [.pointer (some ⟨b_b, 0, none⟩)] H fun q => q.1 = .int .i64 ((bi + (n_bL : Int)) + (n_bA : Int)) ∧ Mem ([b_b] ++ (D_bA ++ ([m_bm] ++ []))) H q.2 [R.row b_b 153 true [.int .i64 bi, .slice a_bL n_bL c_bL, .slice a_bA n_bA n_bA, .slice a_bB n_bB c_bB, .slice a_bC n_bC c_bC, .int .i64 fi, .slice a_fL n_fL c_fL, .slice a_fA n_fA c_fA, .slice a_fB n_fB c_fB, .slice a_fC n_fC c_fC, .map (some m_bm)], R.lst 187 2 a_bA n_bA (cells EP bA) D_bA, R.mp m_bm KP (VI fun x => 0 ≤ x ∧ x / 2 ≤ 200000)] := by
  obtain ⟨lo_bi, hi_bi⟩ := rangei64 w_bi
  have len_bA : bA.length = n_bA := h_b.lstLen (E := EP) (i := 1) rfl
  obtain ⟨lo_fi, hi_fi⟩ := rangei64 w_fi
  have m0 := h_b
  refine WF.kg Tryz.func97 rfl rfl ?_
  refine KC.seq ?_
  refine KC.region ?_
  refine KO.pv (PV.assign rfl) rfl rfl ?_
  refine KO.nil ?_
  refine KC.seq ?_
  refine KC.drawG (n := 20) (anc := [0, 1, 3, 7, 15, 0, 32, 96, 224, 480, 992, 2047, 0, 4096, 12288, 28672, 61440, 126976, 262143, 524287]) (hv := []) (ord := [0, 1, 2, 3, 4, 5, 6, 7, 8, 9, 10, 11, 12, 13, 14, 15, 16, 17, 18, 19]) (by kernel_rfl) (by kernel_rfl) (by kernel_rfl) (by kernel_rfl) (by kernel_rfl) fun H1 n2 g3 => ?_
  have m4 := m0.room n2 g3 [] (by decide) (by decide)
  refine KD.pv 1 (PV.move rfl) rfl rfl rfl (by kernel_rfl) rfl rfl rfl ?_
  refine KD.pv 3 (PV.nilCheck rfl) rfl rfl rfl (by kernel_rfl) rfl rfl rfl ?_
  refine KD.pv 7 (PV.fieldAddr fo153_0_B17 rfl) rfl rfl rfl (by kernel_rfl) rfl rfl rfl ?_
  refine KD.pv 15 (PV.fieldAddr fo26_0_B17 rfl) rfl rfl rfl (by kernel_rfl) rfl rfl rfl ?_
  refine KD.load 31 rfl (m4.row (i := 0) rfl) (by rw [read1 ag3_B17]; exact rfl) (pastGo (k := 1) (l := [H1]) (by kernel_rfl) rfl (pastCons ⟨_, (m4.row (i := 0) rfl), (by rw [read1 ag3_B17]; exact rfl)⟩ pastNil)) veq_int rfl (by kernel_rfl) rfl rfl rfl ?_
  refine KD.pv 63 (PV.move rfl) rfl rfl rfl (by kernel_rfl) rfl rfl rfl ?_
  refine KD.pv 127 (PV.nilCheck rfl) rfl rfl rfl (by kernel_rfl) rfl rfl rfl ?_
  refine KD.pv 255 (PV.fieldAddr fo153_0_B17 rfl) rfl rfl rfl (by kernel_rfl) rfl rfl rfl ?_
  refine KD.pv 511 (PV.fieldAddr fo26_1_B17 rfl) rfl rfl rfl (by kernel_rfl) rfl rfl rfl ?_
  refine KD.load 1023 rfl (m4.row (i := 0) rfl) (by rw [read1 ag22_B17]; exact rfl) (pastGo (k := 1) (l := [H1]) (by kernel_rfl) rfl (pastCons ⟨_, (m4.row (i := 0) rfl), (by rw [read1 ag22_B17]; exact rfl)⟩ pastNil)) veq_sl rfl (by kernel_rfl) rfl rfl rfl ?_
  refine KD.pv 2047 (PV.len un22_B17 rfl) rfl rfl (rd_int _) (by kernel_rfl) rfl rfl rfl ?_
  refine KD.pv 4095 (PV.add rfl rfl (wrap64 (by omega) (by omega))) rfl rfl rfl (by kernel_rfl) rfl rfl rfl ?_
  refine KD.pv 8191 (PV.move rfl) rfl rfl rfl (by kernel_rfl) rfl rfl rfl ?_
  refine KD.pv 16383 (PV.nilCheck rfl) rfl rfl rfl (by kernel_rfl) rfl rfl rfl ?_
  refine KD.pv 32767 (PV.fieldAddr fo153_0_B17 rfl) rfl rfl rfl (by kernel_rfl) rfl rfl rfl ?_
  refine KD.pv 65535 (PV.fieldAddr fo26_2_B17 rfl) rfl rfl rfl (by kernel_rfl) rfl rfl rfl ?_
  refine KD.load 131071 rfl (m4.row (i := 0) rfl) (by rw [read1 ag23_B17]; exact rfl) (pastGo (k := 1) (l := [H1]) (by kernel_rfl) rfl (pastCons ⟨_, (m4.row (i := 0) rfl), (by rw [read1 ag23_B17]; exact rfl)⟩ pastNil)) veq_sl rfl (by kernel_rfl) rfl rfl rfl ?_
  refine KD.pv 262143 (PV.len un23_B17 rfl) rfl rfl (rd_int _) (by kernel_rfl) rfl rfl rfl ?_
  refine KD.pv 524287 (PV.add rfl rfl (wrap64 (by omega) (by omega))) rfl rfl rfl (by kernel_rfl) rfl rfl rfl ?_
  refine KD.pv 1048575 (PV.assign rfl) rfl rfl rfl (by kernel_rfl) rfl rfl rfl ?_
  refine KD.nil ⟨rfl, ?_⟩
  exact KC.ret ⟨rfl, _, (.tmp rfl .nil), rfl, m4.pick [0, 1, 2] (by decide) rfl⟩
theorem pref_and (H : AHeap) (b_b : Nat) (bi : Int) (a_bL : Option Addr) (n_bL c_bL : Nat) (a_bA : Option Addr) (n_bA : Nat) (bA : List (Int × Int)) (D_bA : List Nat) (a_bB : Option Addr) (n_bB c_bB : Nat) (a_bC : Option Addr) (n_bC c_bC : Nat) (fi : Int) (a_fL : Option Addr) (n_fL c_fL : Nat) (a_fA : Option Addr) (n_fA c_fA : Nat) (a_fB : Option Addr) (n_fB c_fB : Nat) (a_fC : Option Addr) (n_fC c_fC : Nat) (m_bm : Nat) (x : Int) (y : Int) (h_b : Mem ([b_b] ++ (D_bA ++ ([m_bm] ++ []))) H H [R.row b_b 153 true [.int .i64 bi, .slice a_bL n_bL c_bL, .slice a_bA n_bA n_bA, .slice a_bB n_bB c_bB, .slice a_bC n_bC c_bC, .int .i64 fi, .slice a_fL n_fL c_fL, .slice a_fA n_fA c_fA, .slice a_fB n_fB c_fB, .slice a_fC n_fC c_fC, .map (some m_bm)], R.lst 187 2 a_bA n_bA (cells EP bA) D_bA, R.mp m_bm KP (VI fun x => 0 ≤ x ∧ x / 2 ≤ 200000)]) (w_bi : IntKind.i64.wrap bi = bi) (wf_bA : ∀ u ∈ bA, (EP).wf u) (w_fi : IntKind.i64.wrap fi = fi) (w_x : IntKind.i64.wrap x = x) (w_y : IntKind.i64.wrap y = y) (h0 : 0 ≤ bi ∧ bi ≤ 20000 ∧ n_bL ≤ 2000 ∧ n_bA ≤ 90000) (hx : 0 ≤ x ∧ x / 2 ≤ 200000) (hy : 0 ≤ y ∧ y / 2 ≤ 200000) : WF E0 94 [.pointer (some ⟨b_b, 0, none⟩), .int .i64 x, .int .i64 y] H fun q => ∃ (z : Int) (a : Option Addr) (n : Nat) (xs : List (Int × Int)) (D : List Nat), q.1 = .int .i64 z ∧ Mem ([b_b] ++ (D_bA ++ ([m_bm] ++ []))) H q.2 [R.row b_b 153 true [.int .i64 bi, .slice a_bL n_bL c_bL, .slice a n n, .slice a_bB n_bB c_bB, .slice a_bC n_bC c_bC, .int .i64 fi, .slice a_fL n_fL c_fL, .slice a_fA n_fA c_fA, .slice a_fB n_fB c_fB, .slice a_fC n_fC c_fC, .map (some m_bm)], R.lst 187 2 a n (cells EP xs) D, R.mp m_bm KP (VI fun x => 0 ≤ x ∧ x / 2 ≤ 200000)] ∧ (0 ≤ z ∧ z / 2 ≤ 200000) ∧ (n_bA ≤ n ∧ n ≤ n_bA + 1) ∧ (∀ u ∈ xs, EP.wf u) := by
  obtain ⟨lo_bi, hi_bi⟩ := rangei64 w_bi
  have len_bA : bA.length = n_bA := h_b.lstLen (E := EP) (i := 1) rfl
  obtain ⟨lo_fi, hi_fi⟩ := rangei64 w_fi
  obtain ⟨lo_x, hi_x⟩ := rangei64 w_x
  obtain ⟨lo_y, hi_y⟩ := rangei64 w_y
  have m0 := h_b
  refine WF.kg Tryz.func94 rfl rfl ?_
  refine KC.seq ?_
  refine KC.region ?_
  refine KO.pv (PV.assign rfl) rfl rfl ?_
  refine KO.nil ?_
  refine KC.seq ?_
  refine KC.block ?_
  refine KC.seq ?_
  refine KC.region ?_
  refine KO.pv (PV.move rfl) rfl rfl ?_
  by_cases h1 : x = 0
  · refine KO.pv (PV.eqlD rfl rfl (decide_eq_true h1)) rfl rfl ?_
    refine KO.pv (PV.move rfl) rfl rfl ?_
    refine KO.no rfl rfl rfl ?_
    refine KO.no rfl rfl rfl ?_
    refine KO.pv (PV.pickT rfl rfl rfl) rfl rfl ?_
    refine KO.pv (PV.move rfl) rfl rfl ?_
    refine KO.no rfl rfl rfl ?_
    refine KO.no rfl rfl rfl ?_
    refine KO.no rfl rfl rfl ?_
    refine KO.no rfl rfl rfl ?_
    refine KO.pv (PV.pickT rfl rfl rfl) rfl rfl ?_
    refine KO.pv (PV.assign rfl) rfl rfl ?_
    refine KO.nil ?_
    refine KC.condT rfl ?_
    refine KC.seq ?_
    refine KC.region ?_
    refine KO.pv (PV.assign rfl) rfl rfl ?_
    refine KO.nil ?_
    exact KC.ret ⟨rfl, _, (.tmp rfl .nil), 0, a_bA, n_bA, bA, D_bA, rfl, m0.pick [0, 1, 2] (by decide) rfl, (by first | omega | (intro h; omega) | (simp only [List.length_nil, true_and, and_true, or_true, true_or] <;> omega)), (by first | omega | (intro h; omega) | (simp only [List.length_nil, true_and, and_true, or_true, true_or] <;> omega)), (by first | omega | (intro h; omega) | (simp only [List.length_nil, true_and, and_true, or_true, true_or] <;> omega) | exact wf_bA | (exact all_app wf_bA (all_one (wfP ⟨by omega, by omega⟩ ⟨by omega, by omega⟩))) | assumption)⟩
  · refine KO.pv (PV.eqlD rfl rfl (decide_eq_false h1)) rfl rfl ?_
    refine KO.pv (PV.move rfl) rfl rfl ?_
    refine KO.pv (PV.move rfl) rfl rfl ?_
    by_cases h2 : y = 0
    · refine KO.pv (PV.eqlD rfl rfl (decide_eq_true h2)) rfl rfl ?_
      refine KO.pv (PV.pickF rfl rfl rfl) rfl rfl ?_
      refine KO.pv (PV.move rfl) rfl rfl ?_
      refine KO.no rfl rfl rfl ?_
      refine KO.no rfl rfl rfl ?_
      refine KO.no rfl rfl rfl ?_
      refine KO.no rfl rfl rfl ?_
      refine KO.pv (PV.pickT rfl rfl rfl) rfl rfl ?_
      refine KO.pv (PV.assign rfl) rfl rfl ?_
      refine KO.nil ?_
      refine KC.condT rfl ?_
      refine KC.seq ?_
      refine KC.region ?_
      refine KO.pv (PV.assign rfl) rfl rfl ?_
      refine KO.nil ?_
      exact KC.ret ⟨rfl, _, (.tmp rfl .nil), 0, a_bA, n_bA, bA, D_bA, rfl, m0.pick [0, 1, 2] (by decide) rfl, (by first | omega | (intro h; omega) | (simp only [List.length_nil, true_and, and_true, or_true, true_or] <;> omega)), (by first | omega | (intro h; omega) | (simp only [List.length_nil, true_and, and_true, or_true, true_or] <;> omega)), (by first | omega | (intro h; omega) | (simp only [List.length_nil, true_and, and_true, or_true, true_or] <;> omega) | exact wf_bA | (exact all_app wf_bA (all_one (wfP ⟨by omega, by omega⟩ ⟨by omega, by omega⟩))) | assumption)⟩
    · refine KO.pv (PV.eqlD rfl rfl (decide_eq_false h2)) rfl rfl ?_
      refine KO.pv (PV.pickF rfl rfl rfl) rfl rfl ?_
      refine KO.pv (PV.move rfl) rfl rfl ?_
      refine KO.pv (PV.move rfl) rfl rfl ?_
      refine KO.pv (PV.move rfl) rfl rfl ?_
      obtain ⟨x3, dx3, rx3, zx3, qx3⟩ := xor1 (y) (by omega) (by omega)
      refine KO.pv (PV.xor1 rfl rfl qx3) rfl rfl ?_
      refine KO.pv (PV.eqlD rfl rfl rfl) rfl rfl ?_
      refine KO.pv (PV.pickF rfl rfl rfl) rfl rfl ?_
      refine KO.pv (PV.assign rfl) rfl rfl ?_
      refine KO.nil ?_
      refine KC.condD rfl (fun h4 => ?_) (fun h4 => ?_)
      · refine KC.seq ?_
        refine KC.region ?_
        refine KO.pv (PV.assign rfl) rfl rfl ?_
        refine KO.nil ?_
        exact KC.ret ⟨rfl, _, (.tmp rfl .nil), 0, a_bA, n_bA, bA, D_bA, rfl, m0.pick [0, 1, 2] (by decide) rfl, (by first | omega | (intro h; omega) | (simp only [List.length_nil, true_and, and_true, or_true, true_or] <;> omega)), (by first | omega | (intro h; omega) | (simp only [List.length_nil, true_and, and_true, or_true, true_or] <;> omega)), (by first | omega | (intro h; omega) | (simp only [List.length_nil, true_and, and_true, or_true, true_or] <;> omega) | exact wf_bA | (exact all_app wf_bA (all_one (wfP ⟨by omega, by omega⟩ ⟨by omega, by omega⟩))) | assumption)⟩
      · refine KC.seq ?_
        refine KC.region ?_
        refine KO.pv (PV.move rfl) rfl rfl ?_
        by_cases h5 : x = 1
        · refine KO.pv (PV.eqlD rfl rfl (decide_eq_true h5)) rfl rfl ?_
          refine KO.pv (PV.move rfl) rfl rfl ?_
          refine KO.no rfl rfl rfl ?_
          refine KO.no rfl rfl rfl ?_
          refine KO.no rfl rfl rfl ?_
          refine KO.pv (PV.pickT rfl rfl rfl) rfl rfl ?_
          refine KO.pv (PV.assign rfl) rfl rfl ?_
          refine KO.nil ?_
          refine KC.condT rfl ?_
          refine KC.seq ?_
          refine KC.region ?_
          refine KO.pv (PV.move rfl) rfl rfl ?_
          refine KO.pv (PV.assign rfl) rfl rfl ?_
          refine KO.nil ?_
          exact KC.ret ⟨rfl, _, (.tmp rfl .nil), y, a_bA, n_bA, bA, D_bA, rfl, m0.pick [0, 1, 2] (by decide) rfl, (by first | omega | (intro h; omega) | (simp only [List.length_nil, true_and, and_true, or_true, true_or] <;> omega)), (by first | omega | (intro h; omega) | (simp only [List.length_nil, true_and, and_true, or_true, true_or] <;> omega)), (by first | omega | (intro h; omega) | (simp only [List.length_nil, true_and, and_true, or_true, true_or] <;> omega) | exact wf_bA | (exact all_app wf_bA (all_one (wfP ⟨by omega, by omega⟩ ⟨by omega, by omega⟩))) | assumption)⟩
        · refine KO.pv (PV.eqlD rfl rfl (decide_eq_false h5)) rfl rfl ?_
          refine KO.pv (PV.move rfl) rfl rfl ?_
          refine KO.pv (PV.move rfl) rfl rfl ?_
          refine KO.pv (PV.move rfl) rfl rfl ?_
          refine KO.pv (PV.eqlD rfl rfl rfl) rfl rfl ?_
          refine KO.pv (PV.pickF rfl rfl rfl) rfl rfl ?_
          refine KO.pv (PV.assign rfl) rfl rfl ?_
          refine KO.nil ?_
          refine KC.condD rfl (fun h6 => ?_) (fun h6 => ?_)
          · refine KC.seq ?_
            refine KC.region ?_
            refine KO.pv (PV.move rfl) rfl rfl ?_
            refine KO.pv (PV.assign rfl) rfl rfl ?_
            refine KO.nil ?_
            exact KC.ret ⟨rfl, _, (.tmp rfl .nil), y, a_bA, n_bA, bA, D_bA, rfl, m0.pick [0, 1, 2] (by decide) rfl, (by first | omega | (intro h; omega) | (simp only [List.length_nil, true_and, and_true, or_true, true_or] <;> omega)), (by first | omega | (intro h; omega) | (simp only [List.length_nil, true_and, and_true, or_true, true_or] <;> omega)), (by first | omega | (intro h; omega) | (simp only [List.length_nil, true_and, and_true, or_true, true_or] <;> omega) | exact wf_bA | (exact all_app wf_bA (all_one (wfP ⟨by omega, by omega⟩ ⟨by omega, by omega⟩))) | assumption)⟩
          · refine KC.seq ?_
            refine KC.region ?_
            refine KO.pv (PV.move rfl) rfl rfl ?_
            refine KO.pv (PV.eqlD rfl rfl rfl) rfl rfl ?_
            refine KO.pv (PV.assign rfl) rfl rfl ?_
            refine KO.nil ?_
            refine KC.condD rfl (fun h7 => ?_) (fun h7 => ?_)
            · refine KC.seq ?_
              refine KC.region ?_
              refine KO.pv (PV.move rfl) rfl rfl ?_
              refine KO.pv (PV.assign rfl) rfl rfl ?_
              refine KO.nil ?_
              exact KC.ret ⟨rfl, _, (.tmp rfl .nil), x, a_bA, n_bA, bA, D_bA, rfl, m0.pick [0, 1, 2] (by decide) rfl, (by first | omega | (intro h; omega) | (simp only [List.length_nil, true_and, and_true, or_true, true_or] <;> omega)), (by first | omega | (intro h; omega) | (simp only [List.length_nil, true_and, and_true, or_true, true_or] <;> omega)), (by first | omega | (intro h; omega) | (simp only [List.length_nil, true_and, and_true, or_true, true_or] <;> omega) | exact wf_bA | (exact all_app wf_bA (all_one (wfP ⟨by omega, by omega⟩ ⟨by omega, by omega⟩))) | assumption)⟩
            · refine KC.skip ?_
              refine KC.seq ?_
              refine KC.region ?_
              refine KO.pv (PV.move rfl) rfl rfl ?_
              refine KO.pv (PV.move rfl) rfl rfl ?_
              obtain ⟨x8, hx8, dx8⟩ := maxD x y
              refine KO.pv (PV.maxE rfl rfl hx8) rfl rfl ?_
              refine KO.pv (PV.move rfl) rfl rfl ?_
              refine KO.pv (PV.move rfl) rfl rfl ?_
              obtain ⟨x9, hx9, dx9⟩ := minD x y
              refine KO.pv (PV.minE rfl rfl hx9) rfl rfl ?_
              refine KO.pv (PV.build rfl (bl187_0i64_1i64_B17 _ _)) rfl rfl ?_
              refine KO.allocM m0 zt187_B17 rfl rfl fun H10 m11 => ?_
              refine KO.storeM m11 (i := 0) rfl sz187_B17 rfl rfl rfl (show 0 + 2 ≤ 2 by decide) (show _ = [.int .i64 x8, .int .i64 x9] from rfl) rfl fun H12 m13 => ?_
              refine KO.nil ?_
              refine KC.seq ?_
              refine KC.drawG (n := 11) (anc := [0, 1, 3, 7, 0, 31, 63, 127, 127, 255, 1023]) (hv := []) (ord := [0, 1, 2, 3, 4, 5, 6, 7, 8, 9, 10]) (by kernel_rfl) (by kernel_rfl) (by kernel_rfl) (by kernel_rfl) (by kernel_rfl) fun H14 n15 g16 => ?_
              have m17 := m13.room n15 g16 [] (by decide) (by decide)
              refine KD.pv 1 (PV.move rfl) rfl rfl rfl (by kernel_rfl) rfl rfl rfl ?_
              refine KD.pv 3 (PV.nilCheck rfl) rfl rfl rfl (by kernel_rfl) rfl rfl rfl ?_
              refine KD.pv 7 (PV.fieldAddr fo153_2_B17 rfl) rfl rfl rfl (by kernel_rfl) rfl rfl rfl ?_
              refine KD.load 15 rfl (m17.row (i := 1) rfl) (by rw [read1 ag151_B17]; exact rfl) (pastGo (k := 1) (l := [H14]) (by kernel_rfl) rfl (pastCons ⟨_, (m17.row (i := 1) rfl), (by rw [read1 ag151_B17]; exact rfl)⟩ pastNil)) veq_map rfl (by kernel_rfl) rfl rfl rfl ?_
              refine KD.load 31 rfl (m17.row (i := 0) rfl) (readN ag187_B17 sz187_B17 (takeN_of (p := [.int .i64 x8, .int .i64 x9]) rfl  rfl)) (pastGo (k := 1) (l := [H14]) (by kernel_rfl) rfl (pastCons ⟨_, (m17.row (i := 0) rfl), (readN ag187_B17 sz187_B17 (takeN_of (p := [.int .i64 x8, .int .i64 x9]) rfl  rfl))⟩ pastNil)) (veq_agg (veqCons veqI (veqCons veqI veqNil))) rfl (by kernel_rfl) rfl rfl rfl ?_
              refine KD.lookup2 63 m17 (j := 3) rfl KP.keys mt151_B17 (kk151_B17 _ _) zv151_B17 rfl rfl ⟨_, _, rfl⟩ (fun Hp hp => List.mem_singleton.1 (List.mem_of_mem_take hp)) veqI VI.veq rfl (by kernel_rfl) rfl rfl rfl fun v18 y18 hv18 hz18 => ?_
              obtain ⟨x18, rfl, hx18⟩ : ∃ x : Int, v18 = .int .i64 x ∧ (0 ≤ x ∧ x / 2 ≤ 200000) := VI.got hv18 hz18 (by first | omega | (constructor <;> omega))
              refine KD.pv 127 (PV.move rfl) rfl rfl rfl (by kernel_rfl) rfl rfl rfl ?_
              refine KD.pv 255 (PV.extract rfl rfl) rfl rfl rfl (by kernel_rfl) rfl rfl rfl ?_
              refine KD.pv 511 (PV.extract rfl rfl) rfl rfl rfl (by kernel_rfl) rfl rfl rfl ?_
              refine KD.pv 1023 (PV.assign rfl) rfl rfl rfl (by kernel_rfl) rfl rfl rfl ?_
              refine KD.pv 2047 (PV.assign rfl) rfl rfl rfl (by kernel_rfl) rfl rfl rfl ?_
              refine KD.nil ⟨rfl, ?_⟩
              refine KC.seq ?_
              refine KC.seq ?_
              refine KC.region ?_
              refine KO.pv (PV.move rfl) rfl rfl ?_
              rcases Bool.eq_false_or_eq_true y18 with h19 | h19
              · subst h19
                refine KO.pv (PV.notB rfl rfl) rfl rfl ?_
                refine KO.nil ?_
                refine KC.condF rfl ?_
                refine KC.skip ?_
                refine KC.seq ?_
                refine KC.region ?_
                refine KO.pv (PV.move rfl) rfl rfl ?_
                refine KO.pv (PV.assign rfl) rfl rfl ?_
                refine KO.nil ?_
                exact KC.ret ⟨rfl, _, (.tmp rfl .nil), x18, a_bA, n_bA, bA, D_bA, rfl, m17.pick [1, 2, 3] (by decide) rfl, (by first | omega | (intro h; omega) | (simp only [List.length_nil, true_and, and_true, or_true, true_or] <;> omega)), (by first | omega | (intro h; omega) | (simp only [List.length_nil, true_and, and_true, or_true, true_or] <;> omega)), (by first | omega | (intro h; omega) | (simp only [List.length_nil, true_and, and_true, or_true, true_or] <;> omega) | exact wf_bA | (exact all_app wf_bA (all_one (wfP ⟨by omega, by omega⟩ ⟨by omega, by omega⟩))) | assumption)⟩
              · subst h19
                refine KO.pv (PV.notB rfl rfl) rfl rfl ?_
                refine KO.nil ?_
                refine KC.condT rfl ?_
                refine KC.seq ?_
                refine KC.drawG (n := 13) (anc := [0, 0, 2, 6, 14, 30, 0, 64, 254, 511, 1023, 2047, 4095]) (hv := [8, 12]) (ord := [1, 2, 3, 4, 5, 6, 7, 8, 0, 9, 10, 11, 12]) (by kernel_rfl) (by kernel_rfl) (by kernel_rfl) (by kernel_rfl) (by kernel_rfl) fun H20 n21 g22 => ?_
                have m23 := m17.room n21 g22 [7] (by decide) (by decide)
                refine KD.pv 2 (PV.move rfl) rfl rfl rfl (by kernel_rfl) rfl rfl rfl ?_
                refine KD.pv 6 (PV.nilCheck rfl) rfl rfl rfl (by kernel_rfl) rfl rfl rfl ?_
                refine KD.pv 14 (PV.fieldAddr fo153_0_B17 rfl) rfl rfl rfl (by kernel_rfl) rfl rfl rfl ?_
                refine KD.pv 30 (PV.fieldAddr fo26_2_B17 rfl) rfl rfl rfl (by kernel_rfl) rfl rfl rfl ?_
                refine KD.load 62 rfl (m23.row (i := 2) rfl) (by rw [read1 ag23_B17]; exact rfl) (pastGo (k := 1) (l := [H20]) (by kernel_rfl) rfl (pastCons ⟨_, (m23.row (i := 2) rfl), (by rw [read1 ag23_B17]; exact rfl)⟩ pastNil)) veq_sl rfl (by kernel_rfl) rfl rfl rfl ?_
                refine KD.load 126 rfl (m23.row (i := 1) rfl) (readN ag187_B17 sz187_B17 (takeN_of (p := [.int .i64 x8, .int .i64 x9]) rfl  rfl)) (pastGo (k := 1) (l := [H20]) (by kernel_rfl) rfl (pastCons ⟨_, (m23.row (i := 1) rfl), (readN ag187_B17 sz187_B17 (takeN_of (p := [.int .i64 x8, .int .i64 x9]) rfl  rfl))⟩ pastNil)) (veq_agg (veqCons veqI (veqCons veqI veqNil))) rfl (by kernel_rfl) rfl rfl rfl ?_
                refine KD.buildSliceM 254 m23 (j := 0) rfl el23_B17 ez187_B17 rfl rfl (show _ = some [.int .i64 x8, .int .i64 x9] from rfl) rfl (by kernel_rfl) rfl rfl rfl fun H24 m25 => ?_
                refine KD.appendC 510 (C := EP) m25 (j := 3) rfl el23_B17 ez187_B17 sb187_B17 un23_B17 rfl rfl (newElems_row1 (C := EP) (y := (x8, x9)) (m25.row (i := 0) rfl) rfl) rfl (by first | omega | (simp only [splice, List.length_append, List.length_set, List.length_replicate, List.length_map, List.length_take, List.length_drop, List.length_cons, List.length_nil] <;> omega)) rfl (by kernel_rfl) rfl rfl rfl fun a27 D28 H26 m29 => ?_
                refine KD.pv 511 (PV.move rfl) rfl rfl rfl (by kernel_rfl) rfl rfl rfl ?_
                refine KD.pv 1023 (PV.nilCheck rfl) rfl rfl rfl (by kernel_rfl) rfl rfl rfl ?_
                refine KD.pv 2047 (PV.fieldAddr fo153_0_B17 rfl) rfl rfl rfl (by kernel_rfl) rfl rfl rfl ?_
                refine KD.pv 4095 (PV.fieldAddr fo26_2_B17 rfl) rfl rfl rfl (by kernel_rfl) rfl rfl rfl ?_
                refine KD.storeM 8191 m29 (j := 2) rfl sz23_B17 rfl rfl rfl (show 2 + 1 ≤ 11 by decide) (show _ = [.int .i64 bi, .slice a_bL n_bL c_bL, .slice a27 (n_bA + 1) (n_bA + 1), .slice a_bB n_bB c_bB, .slice a_bC n_bC c_bC, .int .i64 fi, .slice a_fL n_fL c_fL, .slice a_fA n_fA c_fA, .slice a_fB n_fB c_fB, .slice a_fC n_fC c_fC, .map (some m_bm)] from rfl) rfl (by kernel_rfl) rfl rfl fun H30 m31 => ?_
                refine KD.nil ⟨rfl, ?_⟩
                refine KC.seq ?_
                refine KC.region ?_
                refine KO.pv (PV.move rfl) rfl rfl ?_
                have m32 : Mem ([b_b] ++ (D_bA ++ ([m_bm] ++ []))) H H30 [R.row b_b 153 true [.int .i64 bi, .slice a_bL n_bL c_bL, .slice a27 (n_bA + 1) (n_bA + 1), .slice a_bB n_bB c_bB, .slice a_bC n_bC c_bC, .int .i64 fi, .slice a_fL n_fL c_fL, .slice a_fA n_fA c_fA, .slice a_fB n_fB c_fB, .slice a_fC n_fC c_fC, .map (some m_bm)], R.lst 187 2 a27 (n_bA + 1) (cells EP (bA ++ [(x8, x9)])) D28, R.mp m_bm KP (VI fun x => 0 ≤ x ∧ x / 2 ≤ 200000), R.row (H14.next + 7) 187 true [.int .i64 x8, .int .i64 x9], R.row H.next 187 true [.int .i64 x8, .int .i64 x9]] := m31.pick [2, 3, 4, 0, 1] (by decide) rfl
                refine KO.call rfl rfl rfl rfl (pref_vars H30 b_b bi a_bL n_bL c_bL _ _ _ D28 a_bB n_bB c_bB a_bC n_bC c_bC fi a_fL n_fL c_fL a_fA n_fA c_fA a_fB n_fB c_fB a_fC n_fC c_fC m_bm (m32.ownK (Rs := [R.row b_b 153 true [.int .i64 bi, .slice a_bL n_bL c_bL, .slice a27 (n_bA + 1) (n_bA + 1), .slice a_bB n_bB c_bB, .slice a_bC n_bC c_bC, .int .i64 fi, .slice a_fL n_fL c_fL, .slice a_fA n_fA c_fA, .slice a_fB n_fB c_fB, .slice a_fC n_fC c_fC, .map (some m_bm)], R.lst 187 2 a27 (n_bA + 1) (cells EP (bA ++ [(x8, x9)])) D28, R.mp m_bm KP (VI fun x => 0 ≤ x ∧ x / 2 ≤ 200000)])) (wrap64 (by omega) (by omega)) (all_app wf_bA (all_one (wfP ⟨by omega, by omega⟩ ⟨by omega, by omega⟩))) (wrap64 (by omega) (by omega)) (by first | omega | assumption)) fun v33 H33 q33 => ?_
                obtain ⟨hv33, mc33⟩ := q33
                dsimp only at hv33 mc33
                subst hv33
                have m34 := m32.seqK (Rs := [R.row b_b 153 true [.int .i64 bi, .slice a_bL n_bL c_bL, .slice a27 (n_bA + 1) (n_bA + 1), .slice a_bB n_bB c_bB, .slice a_bC n_bC c_bC, .int .i64 fi, .slice a_fL n_fL c_fL, .slice a_fA n_fA c_fA, .slice a_fB n_fB c_fB, .slice a_fC n_fC c_fC, .map (some m_bm)], R.lst 187 2 a27 (n_bA + 1) (cells EP (bA ++ [(x8, x9)])) D28, R.mp m_bm KP (VI fun x => 0 ≤ x ∧ x / 2 ≤ 200000)]) mc33
                refine KO.pv (PV.mul rfl rfl (wrap64 (by omega) (by omega))) rfl rfl ?_
                refine KO.pv (PV.assign rfl) rfl rfl ?_
                refine KO.nil ?_
                refine KC.drawG (n := 7) (anc := [0, 1, 3, 7, 0, 0, 63]) (hv := [6]) (ord := [0, 1, 2, 3, 4, 5, 6]) (by kernel_rfl) (by kernel_rfl) (by kernel_rfl) (by kernel_rfl) (by kernel_rfl) fun H35 n36 g37 => ?_
                have m38 := m34.room n36 g37 [] (by decide) (by decide)
                refine KD.pv 1 (PV.move rfl) rfl rfl rfl (by kernel_rfl) rfl rfl rfl ?_
                refine KD.pv 3 (PV.nilCheck rfl) rfl rfl rfl (by kernel_rfl) rfl rfl rfl ?_
                refine KD.pv 7 (PV.fieldAddr fo153_2_B17 rfl) rfl rfl rfl (by kernel_rfl) rfl rfl rfl ?_
                refine KD.load 15 rfl (m38.row (i := 0) rfl) (by rw [read1 ag151_B17]; exact rfl) (pastGo (k := 1) (l := [H35]) (by kernel_rfl) rfl (pastCons ⟨_, (m38.row (i := 0) rfl), (by rw [read1 ag151_B17]; exact rfl)⟩ pastNil)) veq_map rfl (by kernel_rfl) rfl rfl rfl ?_
                refine KD.load 31 rfl (m38.row (i := 4) rfl) (readN ag187_B17 sz187_B17 (takeN_of (p := [.int .i64 x8, .int .i64 x9]) rfl  rfl)) (pastGo (k := 1) (l := [H35]) (by kernel_rfl) rfl (pastCons ⟨_, (m38.row (i := 4) rfl), (readN ag187_B17 sz187_B17 (takeN_of (p := [.int .i64 x8, .int .i64 x9]) rfl  rfl))⟩ pastNil)) (veq_agg (veqCons veqI (veqCons veqI veqNil))) rfl (by kernel_rfl) rfl rfl rfl ?_
                refine KD.pv 63 (PV.move rfl) rfl rfl rfl (by kernel_rfl) rfl rfl rfl ?_
                refine KD.mapPut 127 m38 (j := 2) rfl (.inl rfl) KP.keys mt151_B17 (kk151_B17 _ _) rfl rfl rfl ⟨_, _, rfl⟩ ⟨_, rfl, by first | omega | (constructor <;> omega)⟩ rfl (by kernel_rfl) rfl rfl fun H39 m40 => ?_
                refine KD.nil ⟨rfl, ?_⟩
                refine KC.seq ?_
                refine KC.region ?_
                refine KO.pv (PV.move rfl) rfl rfl ?_
                refine KO.pv (PV.assign rfl) rfl rfl ?_
                refine KO.nil ?_
                exact KC.ret ⟨rfl, _, (.tmp rfl .nil), (2 * ((bi + (n_bL : Int)) + ((n_bA + 1) : Int))), a27, (n_bA + 1), (bA ++ [(x8, x9)]), D28, rfl, m40.pick [0, 1, 2] (by decide) rfl, (by first | omega | (intro h; omega) | (simp only [List.length_nil, true_and, and_true, or_true, true_or] <;> omega)), (by first | omega | (intro h; omega) | (simp only [List.length_nil, true_and, and_true, or_true, true_or] <;> omega)), (by first | omega | (intro h; omega) | (simp only [List.length_nil, true_and, and_true, or_true, true_or] <;> omega) | exact wf_bA | (exact all_app wf_bA (all_one (wfP ⟨by omega, by omega⟩ ⟨by omega, by omega⟩))) | assumption)⟩
theorem pref_or (H : AHeap) (b_b : Nat) (bi : Int) (a_bL : Option Addr) (n_bL c_bL : Nat) (a_bA : Option Addr) (n_bA : Nat) (bA : List (Int × Int)) (D_bA : List Nat) (a_bB : Option Addr) (n_bB c_bB : Nat) (a_bC : Option Addr) (n_bC c_bC : Nat) (fi : Int) (a_fL : Option Addr) (n_fL c_fL : Nat) (a_fA : Option Addr) (n_fA c_fA : Nat) (a_fB : Option Addr) (n_fB c_fB : Nat) (a_fC : Option Addr) (n_fC c_fC : Nat) (m_bm : Nat) (x : Int) (y : Int) (h_b : Mem ([b_b] ++ (D_bA ++ ([m_bm] ++ []))) H H [R.row b_b 153 true [.int .i64 bi, .slice a_bL n_bL c_bL, .slice a_bA n_bA n_bA, .slice a_bB n_bB c_bB, .slice a_bC n_bC c_bC, .int .i64 fi, .slice a_fL n_fL c_fL, .slice a_fA n_fA c_fA, .slice a_fB n_fB c_fB, .slice a_fC n_fC c_fC, .map (some m_bm)], R.lst 187 2 a_bA n_bA (cells EP bA) D_bA, R.mp m_bm KP (VI fun x => 0 ≤ x ∧ x / 2 ≤ 200000)]) (w_bi : IntKind.i64.wrap bi = bi) (wf_bA : ∀ u ∈ bA, (EP).wf u) (w_fi : IntKind.i64.wrap fi = fi) (w_x : IntKind.i64.wrap x = x) (w_y : IntKind.i64.wrap y = y) (h0 : 0 ≤ bi ∧ bi ≤ 20000 ∧ n_bL ≤ 2000 ∧ n_bA ≤ 90000) (hx : 0 ≤ x ∧ x / 2 ≤ 200000) (hy : 0 ≤ y ∧ y / 2 ≤ 200000) : WF E0 95 [.pointer (some ⟨b_b, 0, none⟩), .int .i64 x, .int .i64 y] H fun q => ∃ (z : Int) (a : Option Addr) (n : Nat) (xs : List (Int × Int)) (D : List Nat), q.1 = .int .i64 z ∧ Mem ([b_b] ++ (D_bA ++ ([m_bm] ++ []))) H q.2 [R.row b_b 153 true [.int .i64 bi, .slice a_bL n_bL c_bL, .slice a n n, .slice a_bB n_bB c_bB, .slice a_bC n_bC c_bC, .int .i64 fi, .slice a_fL n_fL c_fL, .slice a_fA n_fA c_fA, .slice a_fB n_fB c_fB, .slice a_fC n_fC c_fC, .map (some m_bm)], R.lst 187 2 a n (cells EP xs) D, R.mp m_bm KP (VI fun x => 0 ≤ x ∧ x / 2 ≤ 200000)] ∧ (0 ≤ z ∧ z / 2 ≤ 200000) ∧ (n_bA ≤ n ∧ n ≤ n_bA + 1) ∧ (∀ u ∈ xs, EP.wf u) := by
  obtain ⟨lo_bi, hi_bi⟩ := rangei64 w_bi
  have len_bA : bA.length = n_bA := h_b.lstLen (E := EP) (i := 1) rfl
  obtain ⟨lo_fi, hi_fi⟩ := rangei64 w_fi
  obtain ⟨lo_x, hi_x⟩ := rangei64 w_x
  obtain ⟨lo_y, hi_y⟩ := rangei64 w_y
  have m0 := h_b
  refine WF.kg Tryz.func95 rfl rfl ?_
  refine KC.seq ?_
  refine KC.region ?_
  refine KO.pv (PV.assign rfl) rfl rfl ?_
  refine KO.nil ?_
  refine KC.seq ?_
  refine KC.region ?_
  refine KO.pv (PV.move rfl) rfl rfl ?_
  refine KO.pv (PV.move rfl) rfl rfl ?_
  obtain ⟨x1, dx1, rx1, zx1, qx1⟩ := xor1 (x) (by omega) (by omega)
  refine KO.pv (PV.xor1 rfl rfl qx1) rfl rfl ?_
  refine KO.pv (PV.move rfl) rfl rfl ?_
  obtain ⟨x2, dx2, rx2, zx2, qx2⟩ := xor1 (y) (by omega) (by omega)
  refine KO.pv (PV.xor1 rfl rfl qx2) rfl rfl ?_
  have m3 : Mem ([b_b] ++ (D_bA ++ ([m_bm] ++ []))) H H [R.row b_b 153 true [.int .i64 bi, .slice a_bL n_bL c_bL, .slice a_bA n_bA n_bA, .slice a_bB n_bB c_bB, .slice a_bC n_bC c_bC, .int .i64 fi, .slice a_fL n_fL c_fL, .slice a_fA n_fA c_fA, .slice a_fB n_fB c_fB, .slice a_fC n_fC c_fC, .map (some m_bm)], R.lst 187 2 a_bA n_bA (cells EP bA) D_bA, R.mp m_bm KP (VI fun x => 0 ≤ x ∧ x / 2 ≤ 200000)] := m0.pick [0, 1, 2] (by decide) rfl
  refine KO.call rfl rfl rfl rfl (pref_and H b_b bi a_bL n_bL c_bL _ _ _ D_bA a_bB n_bB c_bB a_bC n_bC c_bC fi a_fL n_fL c_fL a_fA n_fA c_fA a_fB n_fB c_fB a_fC n_fC c_fC m_bm x1 x2 (m3.ownK (Rs := [R.row b_b 153 true [.int .i64 bi, .slice a_bL n_bL c_bL, .slice a_bA n_bA n_bA, .slice a_bB n_bB c_bB, .slice a_bC n_bC c_bC, .int .i64 fi, .slice a_fL n_fL c_fL, .slice a_fA n_fA c_fA, .slice a_fB n_fB c_fB, .slice a_fC n_fC c_fC, .map (some m_bm)], R.lst 187 2 a_bA n_bA (cells EP bA) D_bA, R.mp m_bm KP (VI fun x => 0 ≤ x ∧ x / 2 ≤ 200000)])) (wrap64 (by omega) (by omega)) wf_bA (wrap64 (by omega) (by omega)) (wrap64 (by omega) (by omega)) (wrap64 (by omega) (by omega)) (by first | omega | assumption) (by first | omega | assumption) (by first | omega | assumption)) fun v4 H4 q4 => ?_
  obtain ⟨z4, a4, n4, xs4, D4, hv4, mc4, p4_0, p4_1, p4_2⟩ := q4
  dsimp only at hv4 mc4
  subst hv4
  have m5 := m3.seqK (Rs := [R.row b_b 153 true [.int .i64 bi, .slice a_bL n_bL c_bL, .slice a_bA n_bA n_bA, .slice a_bB n_bB c_bB, .slice a_bC n_bC c_bC, .int .i64 fi, .slice a_fL n_fL c_fL, .slice a_fA n_fA c_fA, .slice a_fB n_fB c_fB, .slice a_fC n_fC c_fC, .map (some m_bm)], R.lst 187 2 a_bA n_bA (cells EP bA) D_bA, R.mp m_bm KP (VI fun x => 0 ≤ x ∧ x / 2 ≤ 200000)]) mc4
  have ll4_1 : xs4.length = n4 := m5.lstLen (E := EP) (i := 1) rfl
  obtain ⟨x6, dx6, rx6, zx6, qx6⟩ := xor1 (z4) (by omega) (by omega)
  refine KO.pv (PV.xor1 rfl rfl qx6) rfl rfl ?_
  refine KO.pv (PV.assign rfl) rfl rfl ?_
  refine KO.nil ?_
  exact KC.ret ⟨rfl, _, (.tmp rfl .nil), x6, a4, n4, xs4, D4, rfl, m5.pick [0, 1, 2] (by decide) rfl, (by first | omega | (intro h; omega) | (simp only [List.length_nil, true_and, and_true, or_true, true_or] <;> omega)), (by first | omega | (intro h; omega) | (simp only [List.length_nil, true_and, and_true, or_true, true_or] <;> omega)), (by first | omega | (intro h; omega) | (simp only [List.length_nil, true_and, and_true, or_true, true_or] <;> omega) | assumption)⟩
theorem pref_chain_and (H : AHeap) (b_b : Nat) (bi : Int) (a_bL : Option Addr) (n_bL c_bL : Nat) (a_bA : Option Addr) (n_bA : Nat) (bA : List (Int × Int)) (D_bA : List Nat) (a_bB : Option Addr) (n_bB c_bB : Nat) (a_bC : Option Addr) (n_bC c_bC : Nat) (fi : Int) (a_fL : Option Addr) (n_fL c_fL : Nat) (a_fA : Option Addr) (n_fA c_fA : Nat) (a_fB : Option Addr) (n_fB c_fB : Nat) (a_fC : Option Addr) (n_fC c_fC : Nat) (m_bm : Nat) (o : Int) (a_l : Option Addr) (n_l c_l : Nat) (l : List Int) (h_b : Mem ([b_b] ++ (D_bA ++ ([m_bm] ++ []))) H H [R.row b_b 153 true [.int .i64 bi, .slice a_bL n_bL c_bL, .slice a_bA n_bA n_bA, .slice a_bB n_bB c_bB, .slice a_bC n_bC c_bC, .int .i64 fi, .slice a_fL n_fL c_fL, .slice a_fA n_fA c_fA, .slice a_fB n_fB c_fB, .slice a_fC n_fC c_fC, .map (some m_bm)], R.lst 187 2 a_bA n_bA (cells EP bA) D_bA, R.mp m_bm KP (VI fun x => 0 ≤ x ∧ x / 2 ≤ 200000)]) (w_bi : IntKind.i64.wrap bi = bi) (wf_bA : ∀ u ∈ bA, (EP).wf u) (w_fi : IntKind.i64.wrap fi = fi) (w_o : IntKind.i64.wrap o = o) (h_l : V (EI .i64) H a_l n_l c_l l) (s_l : 0 < n_l → ∀ y, a_l = some y → y.block ∉ ([b_b] ++ (D_bA ++ ([m_bm] ++ [])))) (h0 : 0 ≤ bi ∧ bi ≤ 20000 ∧ n_bL ≤ 2000 ∧ n_bA ≤ 80000) (ho : 0 ≤ o ∧ o ≤ 1) (hn : n_l ≤ 10000) (hl : ∀ u ∈ l, 0 ≤ u ∧ u / 2 ≤ 200000) : WF E0 151 [.func (.func 94) #[.pointer (some ⟨b_b, 0, none⟩)] #[], .int .i64 o, .slice a_l n_l c_l] H fun q => ∃ (z : Int) (a : Option Addr) (n : Nat) (xs : List (Int × Int)) (D : List Nat), q.1 = .int .i64 z ∧ Mem ([b_b] ++ (D_bA ++ ([m_bm] ++ []))) H q.2 [R.row b_b 153 true [.int .i64 bi, .slice a_bL n_bL c_bL, .slice a n n, .slice a_bB n_bB c_bB, .slice a_bC n_bC c_bC, .int .i64 fi, .slice a_fL n_fL c_fL, .slice a_fA n_fA c_fA, .slice a_fB n_fB c_fB, .slice a_fC n_fC c_fC, .map (some m_bm)], R.lst 187 2 a n (cells EP xs) D, R.mp m_bm KP (VI fun x => 0 ≤ x ∧ x / 2 ≤ 200000)] ∧ (0 ≤ z ∧ z / 2 ≤ 200000) ∧ (n_bA ≤ n ∧ n ≤ n_bA + n_l) ∧ (∀ u ∈ xs, EP.wf u) := by
  obtain ⟨lo_bi, hi_bi⟩ := rangei64 w_bi
  have len_bA : bA.length = n_bA := h_b.lstLen (E := EP) (i := 1) rfl
  obtain ⟨lo_fi, hi_fi⟩ := rangei64 w_fi
  obtain ⟨lo_o, hi_o⟩ := rangei64 w_o
  obtain ⟨len_l, cap_l, max_l, wf_l⟩ := h_l.len
  have m0 := h_b
  refine WF.kg Tryz.func151 rfl rfl ?_
  refine KC.seq ?_
  refine KC.region ?_
  refine KO.pv (PV.assign rfl) rfl rfl ?_
  refine KO.nil ?_
  refine KC.seq ?_
  refine KC.seq ?_
  refine KC.region ?_
  refine KO.pv (PV.move rfl) rfl rfl ?_
  refine KO.pv (PV.len un24_B17 rfl) rfl rfl ?_
  refine KO.pv (PV.eqlD rfl rfl rfl) rfl rfl ?_
  refine KO.nil ?_
  refine KC.condD rfl (fun h1 => ?_) (fun h1 => ?_)
  · refine KC.seq ?_
    refine KC.region ?_
    refine KO.pv (PV.move rfl) rfl rfl ?_
    refine KO.pv (PV.assign rfl) rfl rfl ?_
    refine KO.nil ?_
    exact KC.ret ⟨rfl, _, (.tmp rfl .nil), o, a_bA, n_bA, bA, D_bA, rfl, m0.pick [0, 1, 2] (by decide) rfl, (by first | omega | (intro h; omega) | (simp only [List.length_nil, true_and, and_true, or_true, true_or] <;> omega)), (by first | omega | (intro h; omega) | (simp only [List.length_nil, true_and, and_true, or_true, true_or] <;> omega)), (by first | omega | (intro h; omega) | (simp only [List.length_nil, true_and, and_true, or_true, true_or] <;> omega) | exact wf_bA | assumption)⟩
  · refine KC.skip ?_
    refine KC.seq ?_
    refine KC.region ?_
    refine KO.pv (PV.move rfl) rfl rfl ?_
    obtain ⟨b2, o2, p2, r2, e2, ha2, hb2, hr2, hx2, hw2, hc2, ht2⟩ := V.at_ h_l (z := (0 : Int)) (by omega) (by omega)
    have hs2 : b2 ∉ ([b_b] ++ (D_bA ++ ([m_bm] ++ []))) := s_l (by omega) _ ha2
    have hc2_0 : r2.cs[o2 + ((0 : Int)).toNat * 1 + 0]? = some (.int .i64 e2) := hc2 0 (by decide)
    have hw2 : IntKind.i64.wrap e2 = e2 := hw2
    obtain ⟨lo2, hi2⟩ := rangei64 hw2
    have v2 := hl _ (List.mem_of_getElem? hx2)
    refine KO.pv (PV.indexAddrZ un24_B17 sz3_B17 rfl ha2 rfl (by omega) (by omega)) rfl rfl ?_
    refine KO.load1 ag3_B17 rfl (m0.row0M hb2 (by assumption) hr2) hc2_0 rfl rfl ?_
    refine KO.pv (PV.assign rfl) rfl rfl ?_
    refine KO.nil ?_
    refine KC.seq ?_
    refine KC.seq ?_
    refine KC.region ?_
    refine KO.pv (PV.move rfl) rfl rfl ?_
    obtain ⟨a3, hs3, hf3⟩ := sliceFrom (C := (EI .i64)) (k := .i64) (z := (1 : Int)) un24_B17 sz3_B17 (V.mem m0 h_l s_l) (by omega) (by omega)
    refine KO.pv (PV.slice rfl (fun _ h => by cases h; exact ⟨_, rfl, rfl⟩) (fun h => by cases h) (fun _ h => by cases h) (fun _ => rfl) (fun _ h => by cases h) (fun _ => rfl) hs3) rfl rfl ?_
    refine KO.pv (PV.len un24_B17 rfl) rfl rfl ?_
    refine KO.pv (PV.move rfl) rfl rfl ?_
    refine KO.nil ?_
    refine KC.block ?_
    refine KC.sub (l' := [(0, .func (.func 94) #[.pointer (some ⟨b_b, 0, none⟩)] #[]), (7, .int .i64 e2), (18, .slice a3 (n_l - (1 : Int).toNat) (c_l - (1 : Int).toNat)), (19, .int .i64 (((n_l - (1 : Int).toNat) : Nat) : Int)), (20, .int .i64 0)]) (.cons rfl (.cons rfl (.cons rfl (.cons rfl (.cons rfl .nil))))) ?_
    refine KC.loopN (fun kq lq A => ∃ (x7 : Int) (x20 : Int) (a_c_b_b_2 : Option Addr) (n_c_b_b_2 : Nat) (l_c_b_b_2 : List (Int × Int)) (D_c_b_b_2 : List Nat), kq = ((((n_l - (1 : Int).toNat) : Nat) : Int) - x20).toNat ∧ lq = [(0, .func (.func 94) #[.pointer (some ⟨b_b, 0, none⟩)] #[]), (7, .int .i64 x7), (18, .slice a3 (n_l - (1 : Int).toNat) (c_l - (1 : Int).toNat)), (19, .int .i64 (((n_l - (1 : Int).toNat) : Nat) : Int)), (20, .int .i64 x20)] ∧ Mem ([b_b] ++ (D_bA ++ ([m_bm] ++ []))) H A [R.row b_b 153 true [.int .i64 bi, .slice a_bL n_bL c_bL, .slice a_c_b_b_2 n_c_b_b_2 n_c_b_b_2, .slice a_bB n_bB c_bB, .slice a_bC n_bC c_bC, .int .i64 fi, .slice a_fL n_fL c_fL, .slice a_fA n_fA c_fA, .slice a_fB n_fB c_fB, .slice a_fC n_fC c_fC, .map (some m_bm)], R.lst 187 2 a_c_b_b_2 n_c_b_b_2 (cells EP l_c_b_b_2) D_c_b_b_2, R.mp m_bm KP (VI fun x => 0 ≤ x ∧ x / 2 ≤ 200000)] ∧ (0 ≤ x20 ∧ x20 ≤ (((n_l - (1 : Int).toNat) : Nat) : Int)) ∧ (0 ≤ x7 ∧ x7 / 2 ≤ 200000) ∧ (n_bA ≤ n_c_b_b_2 ∧ (n_c_b_b_2 : Int) ≤ n_bA + x20) ∧ (l_c_b_b_2.length = n_c_b_b_2) ∧ (∀ u ∈ l_c_b_b_2, (EP).wf u)) ?_ (((((n_l - (1 : Int).toNat) : Nat) : Int) - 0).toNat) ⟨e2, 0, a_bA, n_bA, bA, D_bA, rfl, rfl, (m0.pick [0, 1, 2] (by decide) rfl), (by first | omega | assumption | (constructor <;> omega)), (by first | omega | (simp only [splice, List.length_append, List.length_set, List.length_replicate, List.length_map, List.length_take, List.length_drop, List.length_cons, List.length_nil] <;> omega)), (by first | omega | (simp only [splice, List.length_append, List.length_set, List.length_replicate, List.length_map, List.length_take, List.length_drop, List.length_cons, List.length_nil] <;> omega)), (by first | omega | (simp only [splice, List.length_append, List.length_set, List.length_replicate, List.length_map, List.length_take, List.length_drop, List.length_cons, List.length_nil] <;> omega)), wf_bA⟩
    rintro kq lq A4 ⟨x7, x20, a_c_b_b_2, n_c_b_b_2, l_c_b_b_2, D_c_b_b_2, rfl, rfl, m5, hr5, hx7, hnA, hl_l_c_b_b_2, hw_l_c_b_b_2⟩
    refine KC.seq ?_
    refine KC.region ?_
    refine KO.pv (PV.lssD rfl rfl rfl) rfl rfl ?_
    refine KO.nil ?_
    refine KC.seq ?_
    refine KC.condD rfl (fun h6 => ?_) (fun h6 => ?_)
    · refine KC.skip ?_
      refine KC.seq ?_
      refine KC.block ?_
      refine KC.seq ?_
      refine KC.region ?_
      obtain ⟨b7, o7, p7, r7, e7, ha7, hb7, hr7, hx7, hw7, hc7, ht7⟩ := V.at_ (hf3 (by omega) _ (V.mem m5 h_l s_l)) (z := x20) (by omega) (by omega)
      have hc7_0 : r7.cs[o7 + (x20).toNat * 1 + 0]? = some (.int .i64 e7) := hc7 0 (by decide)
      have hw7 : IntKind.i64.wrap e7 = e7 := hw7
      obtain ⟨lo7, hi7⟩ := rangei64 hw7
      have v7 := (all_drop hl) _ (List.mem_of_getElem? hx7)
      refine KO.pv (PV.indexAddrZ un24_B17 sz3_B17 rfl ha7 rfl (by omega) (by omega)) rfl rfl ?_
      refine KO.load1 ag3_B17 rfl hr7 hc7_0 rfl rfl ?_
      refine KO.pv (PV.assign rfl) rfl rfl ?_
      refine KO.nil ?_
      refine KC.region ?_
      refine KO.pv (PV.move rfl) rfl rfl ?_
      refine KO.pv (PV.move rfl) rfl rfl ?_
      refine KO.pv (PV.move rfl) rfl rfl ?_
      have m8 : Mem ([b_b] ++ (D_bA ++ ([m_bm] ++ []))) H A4 [R.row b_b 153 true [.int .i64 bi, .slice a_bL n_bL c_bL, .slice a_c_b_b_2 n_c_b_b_2 n_c_b_b_2, .slice a_bB n_bB c_bB, .slice a_bC n_bC c_bC, .int .i64 fi, .slice a_fL n_fL c_fL, .slice a_fA n_fA c_fA, .slice a_fB n_fB c_fB, .slice a_fC n_fC c_fC, .map (some m_bm)], R.lst 187 2 a_c_b_b_2 n_c_b_b_2 (cells EP l_c_b_b_2) D_c_b_b_2, R.mp m_bm KP (VI fun x => 0 ≤ x ∧ x / 2 ≤ 200000)] := m5.pick [0, 1, 2] (by decide) rfl
      refine KO.callV rfl rfl rfl rfl rfl (pref_and A4 b_b bi a_bL n_bL c_bL _ _ _ D_c_b_b_2 a_bB n_bB c_bB a_bC n_bC c_bC fi a_fL n_fL c_fL a_fA n_fA c_fA a_fB n_fB c_fB a_fC n_fC c_fC m_bm x7 e7 (m8.ownK (Rs := [R.row b_b 153 true [.int .i64 bi, .slice a_bL n_bL c_bL, .slice a_c_b_b_2 n_c_b_b_2 n_c_b_b_2, .slice a_bB n_bB c_bB, .slice a_bC n_bC c_bC, .int .i64 fi, .slice a_fL n_fL c_fL, .slice a_fA n_fA c_fA, .slice a_fB n_fB c_fB, .slice a_fC n_fC c_fC, .map (some m_bm)], R.lst 187 2 a_c_b_b_2 n_c_b_b_2 (cells EP l_c_b_b_2) D_c_b_b_2, R.mp m_bm KP (VI fun x => 0 ≤ x ∧ x / 2 ≤ 200000)])) (wrap64 (by omega) (by omega)) hw_l_c_b_b_2 (wrap64 (by omega) (by omega)) (wrap64 (by omega) (by omega)) (wrap64 (by omega) (by omega)) (by first | omega | assumption) (by first | omega | assumption) (by first | omega | assumption)) fun v9 H9 q9 => ?_
      obtain ⟨z9, a9, n9, xs9, D9, hv9, mc9, p9_0, p9_1, p9_2⟩ := q9
      dsimp only at hv9 mc9
      subst hv9
      have m10 := m8.seqK (Rs := [R.row b_b 153 true [.int .i64 bi, .slice a_bL n_bL c_bL, .slice a_c_b_b_2 n_c_b_b_2 n_c_b_b_2, .slice a_bB n_bB c_bB, .slice a_bC n_bC c_bC, .int .i64 fi, .slice a_fL n_fL c_fL, .slice a_fA n_fA c_fA, .slice a_fB n_fB c_fB, .slice a_fC n_fC c_fC, .map (some m_bm)], R.lst 187 2 a_c_b_b_2 n_c_b_b_2 (cells EP l_c_b_b_2) D_c_b_b_2, R.mp m_bm KP (VI fun x => 0 ≤ x ∧ x / 2 ≤ 200000)]) mc9
      have ll9_1 : xs9.length = n9 := m10.lstLen (E := EP) (i := 1) rfl
      refine KO.pv (PV.assign rfl) rfl rfl ?_
      refine KO.nil ?_
      refine KC.region ?_
      refine KO.pv (PV.add rfl rfl (wrap64 (by omega) (by omega))) rfl rfl ?_
      refine KO.pv (PV.move rfl) rfl rfl ?_
      refine KO.nil ?_
      exact ⟨_, _, (by omega), (.cons rfl (.cons rfl (.cons rfl (.cons rfl (.cons rfl .nil))))), z9, (x20 + 1), a9, n9, xs9, D9, rfl, rfl, (m10.pick [0, 1, 2] (by decide) rfl), (by first | omega | assumption | (constructor <;> omega)), (by first | omega | (simp only [splice, List.length_append, List.length_set, List.length_replicate, List.length_map, List.length_take, List.length_drop, List.length_cons, List.length_nil] <;> omega)), (by first | omega | (simp only [splice, List.length_append, List.length_set, List.length_replicate, List.length_map, List.length_take, List.length_drop, List.length_cons, List.length_nil] <;> omega)), (by first | omega | (simp only [splice, List.length_append, List.length_set, List.length_replicate, List.length_map, List.length_take, List.length_drop, List.length_cons, List.length_nil] <;> omega)), (by assumption)⟩
    · refine KC.exit ?_
      refine KC.seq ?_
      refine KC.region ?_
      refine KO.pv (PV.move rfl) rfl rfl ?_
      refine KO.pv (PV.assign rfl) rfl rfl ?_
      refine KO.nil ?_
      exact KC.ret ⟨rfl, _, (.tmp rfl .nil), x7, a_c_b_b_2, n_c_b_b_2, l_c_b_b_2, D_c_b_b_2, rfl, m5.pick [0, 1, 2] (by decide) rfl, (by first | omega | (intro h; omega) | (simp only [List.length_nil, true_and, and_true, or_true, true_or] <;> omega)), (by first | omega | (intro h; omega) | (simp only [List.length_nil, true_and, and_true, or_true, true_or] <;> omega)), (by first | omega | (intro h; omega) | (simp only [List.length_nil, true_and, and_true, or_true, true_or] <;> omega) | exact wf_bA | assumption)⟩
theorem pref_chain_or (H : AHeap) (b_b : Nat) (bi : Int) (a_bL : Option Addr) (n_bL c_bL : Nat) (a_bA : Option Addr) (n_bA : Nat) (bA : List (Int × Int)) (D_bA : List Nat) (a_bB : Option Addr) (n_bB c_bB : Nat) (a_bC : Option Addr) (n_bC c_bC : Nat) (fi : Int) (a_fL : Option Addr) (n_fL c_fL : Nat) (a_fA : Option Addr) (n_fA c_fA : Nat) (a_fB : Option Addr) (n_fB c_fB : Nat) (a_fC : Option Addr) (n_fC c_fC : Nat) (m_bm : Nat) (o : Int) (a_l : Option Addr) (n_l c_l : Nat) (l : List Int) (h_b : Mem ([b_b] ++ (D_bA ++ ([m_bm] ++ []))) H H [R.row b_b 153 true [.int .i64 bi, .slice a_bL n_bL c_bL, .slice a_bA n_bA n_bA, .slice a_bB n_bB c_bB, .slice a_bC n_bC c_bC, .int .i64 fi, .slice a_fL n_fL c_fL, .slice a_fA n_fA c_fA, .slice a_fB n_fB c_fB, .slice a_fC n_fC c_fC, .map (some m_bm)], R.lst 187 2 a_bA n_bA (cells EP bA) D_bA, R.mp m_bm KP (VI fun x => 0 ≤ x ∧ x / 2 ≤ 200000)]) (w_bi : IntKind.i64.wrap bi = bi) (wf_bA : ∀ u ∈ bA, (EP).wf u) (w_fi : IntKind.i64.wrap fi = fi) (w_o : IntKind.i64.wrap o = o) (h_l : V (EI .i64) H a_l n_l c_l l) (s_l : 0 < n_l → ∀ y, a_l = some y → y.block ∉ ([b_b] ++ (D_bA ++ ([m_bm] ++ [])))) (h0 : 0 ≤ bi ∧ bi ≤ 20000 ∧ n_bL ≤ 2000 ∧ n_bA ≤ 80000) (ho : 0 ≤ o ∧ o ≤ 1) (hn : n_l ≤ 10000) (hl : ∀ u ∈ l, 0 ≤ u ∧ u / 2 ≤ 200000) : WF E0 151 [.func (.func 95) #[.pointer (some ⟨b_b, 0, none⟩)] #[], .int .i64 o, .slice a_l n_l c_l] H fun q => ∃ (z : Int) (a : Option Addr) (n : Nat) (xs : List (Int × Int)) (D : List Nat), q.1 = .int .i64 z ∧ Mem ([b_b] ++ (D_bA ++ ([m_bm] ++ []))) H q.2 [R.row b_b 153 true [.int .i64 bi, .slice a_bL n_bL c_bL, .slice a n n, .slice a_bB n_bB c_bB, .slice a_bC n_bC c_bC, .int .i64 fi, .slice a_fL n_fL c_fL, .slice a_fA n_fA c_fA, .slice a_fB n_fB c_fB, .slice a_fC n_fC c_fC, .map (some m_bm)], R.lst 187 2 a n (cells EP xs) D, R.mp m_bm KP (VI fun x => 0 ≤ x ∧ x / 2 ≤ 200000)] ∧ (0 ≤ z ∧ z / 2 ≤ 200000) ∧ (n_bA ≤ n ∧ n ≤ n_bA + n_l) ∧ (∀ u ∈ xs, EP.wf u) := by
  obtain ⟨lo_bi, hi_bi⟩ := rangei64 w_bi
  have len_bA : bA.length = n_bA := h_b.lstLen (E := EP) (i := 1) rfl
  obtain ⟨lo_fi, hi_fi⟩ := rangei64 w_fi
  obtain ⟨lo_o, hi_o⟩ := rangei64 w_o
  obtain ⟨len_l, cap_l, max_l, wf_l⟩ := h_l.len
  have m0 := h_b
  refine WF.kg Tryz.func151 rfl rfl ?_
  refine KC.seq ?_
  refine KC.region ?_
  refine KO.pv (PV.assign rfl) rfl rfl ?_
  refine KO.nil ?_
  refine KC.seq ?_
  refine KC.seq ?_
  refine KC.region ?_
  refine KO.pv (PV.move rfl) rfl rfl ?_
  refine KO.pv (PV.len un24_B17 rfl) rfl rfl ?_
  refine KO.pv (PV.eqlD rfl rfl rfl) rfl rfl ?_
  refine KO.nil ?_
  refine KC.condD rfl (fun h1 => ?_) (fun h1 => ?_)
  · refine KC.seq ?_
    refine KC.region ?_
    refine KO.pv (PV.move rfl) rfl rfl ?_
    refine KO.pv (PV.assign rfl) rfl rfl ?_
    refine KO.nil ?_
    exact KC.ret ⟨rfl, _, (.tmp rfl .nil), o, a_bA, n_bA, bA, D_bA, rfl, m0.pick [0, 1, 2] (by decide) rfl, (by first | omega | (intro h; omega) | (simp only [List.length_nil, true_and, and_true, or_true, true_or] <;> omega)), (by first | omega | (intro h; omega) | (simp only [List.length_nil, true_and, and_true, or_true, true_or] <;> omega)), (by first | omega | (intro h; omega) | (simp only [List.length_nil, true_and, and_true, or_true, true_or] <;> omega) | exact wf_bA | assumption)⟩
  · refine KC.skip ?_
    refine KC.seq ?_
    refine KC.region ?_
    refine KO.pv (PV.move rfl) rfl rfl ?_
    obtain ⟨b2, o2, p2, r2, e2, ha2, hb2, hr2, hx2, hw2, hc2, ht2⟩ := V.at_ h_l (z := (0 : Int)) (by omega) (by omega)
    have hs2 : b2 ∉ ([b_b] ++ (D_bA ++ ([m_bm] ++ []))) := s_l (by omega) _ ha2
    have hc2_0 : r2.cs[o2 + ((0 : Int)).toNat * 1 + 0]? = some (.int .i64 e2) := hc2 0 (by decide)
    have hw2 : IntKind.i64.wrap e2 = e2 := hw2
    obtain ⟨lo2, hi2⟩ := rangei64 hw2
    have v2 := hl _ (List.mem_of_getElem? hx2)
    refine KO.pv (PV.indexAddrZ un24_B17 sz3_B17 rfl ha2 rfl (by omega) (by omega)) rfl rfl ?_
    refine KO.load1 ag3_B17 rfl (m0.row0M hb2 (by assumption) hr2) hc2_0 rfl rfl ?_
    refine KO.pv (PV.assign rfl) rfl rfl ?_
    refine KO.nil ?_
    refine KC.seq ?_
    refine KC.seq ?_
    refine KC.region ?_
    refine KO.pv (PV.move rfl) rfl rfl ?_
    obtain ⟨a3, hs3, hf3⟩ := sliceFrom (C := (EI .i64)) (k := .i64) (z := (1 : Int)) un24_B17 sz3_B17 (V.mem m0 h_l s_l) (by omega) (by omega)
    refine KO.pv (PV.slice rfl (fun _ h => by cases h; exact ⟨_, rfl, rfl⟩) (fun h => by cases h) (fun _ h => by cases h) (fun _ => rfl) (fun _ h => by cases h) (fun _ => rfl) hs3) rfl rfl ?_
    refine KO.pv (PV.len un24_B17 rfl) rfl rfl ?_
    refine KO.pv (PV.move rfl) rfl rfl ?_
    refine KO.nil ?_
    refine KC.block ?_
    refine KC.sub (l' := [(0, .func (.func 95) #[.pointer (some ⟨b_b, 0, none⟩)] #[]), (7, .int .i64 e2), (18, .slice a3 (n_l - (1 : Int).toNat) (c_l - (1 : Int).toNat)), (19, .int .i64 (((n_l - (1 : Int).toNat) : Nat) : Int)), (20, .int .i64 0)]) (.cons rfl (.cons rfl (.cons rfl (.cons rfl (.cons rfl .nil))))) ?_
    refine KC.loopN (fun kq lq A => ∃ (x7 : Int) (x20 : Int) (a_c_b_b_2 : Option Addr) (n_c_b_b_2 : Nat) (l_c_b_b_2 : List (Int × Int)) (D_c_b_b_2 : List Nat), kq = ((((n_l - (1 : Int).toNat) : Nat) : Int) - x20).toNat ∧ lq = [(0, .func (.func 95) #[.pointer (some ⟨b_b, 0, none⟩)] #[]), (7, .int .i64 x7), (18, .slice a3 (n_l - (1 : Int).toNat) (c_l - (1 : Int).toNat)), (19, .int .i64 (((n_l - (1 : Int).toNat) : Nat) : Int)), (20, .int .i64 x20)] ∧ Mem ([b_b] ++ (D_bA ++ ([m_bm] ++ []))) H A [R.row b_b 153 true [.int .i64 bi, .slice a_bL n_bL c_bL, .slice a_c_b_b_2 n_c_b_b_2 n_c_b_b_2, .slice a_bB n_bB c_bB, .slice a_bC n_bC c_bC, .int .i64 fi, .slice a_fL n_fL c_fL, .slice a_fA n_fA c_fA, .slice a_fB n_fB c_fB, .slice a_fC n_fC c_fC, .map (some m_bm)], R.lst 187 2 a_c_b_b_2 n_c_b_b_2 (cells EP l_c_b_b_2) D_c_b_b_2, R.mp m_bm KP (VI fun x => 0 ≤ x ∧ x / 2 ≤ 200000)] ∧ (0 ≤ x20 ∧ x20 ≤ (((n_l - (1 : Int).toNat) : Nat) : Int)) ∧ (0 ≤ x7 ∧ x7 / 2 ≤ 200000) ∧ (n_bA ≤ n_c_b_b_2 ∧ (n_c_b_b_2 : Int) ≤ n_bA + x20) ∧ (l_c_b_b_2.length = n_c_b_b_2) ∧ (∀ u ∈ l_c_b_b_2, (EP).wf u)) ?_ (((((n_l - (1 : Int).toNat) : Nat) : Int) - 0).toNat) ⟨e2, 0, a_bA, n_bA, bA, D_bA, rfl, rfl, (m0.pick [0, 1, 2] (by decide) rfl), (by first | omega | assumption | (constructor <;> omega)), (by first | omega | (simp only [splice, List.length_append, List.length_set, List.length_replicate, List.length_map, List.length_take, List.length_drop, List.length_cons, List.length_nil] <;> omega)), (by first | omega | (simp only [splice, List.length_append, List.length_set, List.length_replicate, List.length_map, List.length_take, List.length_drop, List.length_cons, List.length_nil] <;> omega)), (by first | omega | (simp only [splice, List.length_append, List.length_set, List.length_replicate, List.length_map, List.length_take, List.length_drop, List.length_cons, List.length_nil] <;> omega)), wf_bA⟩
    rintro kq lq A4 ⟨x7, x20, a_c_b_b_2, n_c_b_b_2, l_c_b_b_2, D_c_b_b_2, rfl, rfl, m5, hr5, hx7, hnA, hl_l_c_b_b_2, hw_l_c_b_b_2⟩
    refine KC.seq ?_
    refine KC.region ?_
    refine KO.pv (PV.lssD rfl rfl rfl) rfl rfl ?_
    refine KO.nil ?_
    refine KC.seq ?_
    refine KC.condD rfl (fun h6 => ?_) (fun h6 => ?_)
    · refine KC.skip ?_
      refine KC.seq ?_
      refine KC.block ?_
      refine KC.seq ?_
      refine KC.region ?_
      obtain ⟨b7, o7, p7, r7, e7, ha7, hb7, hr7, hx7, hw7, hc7, ht7⟩ := V.at_ (hf3 (by omega) _ (V.mem m5 h_l s_l)) (z := x20) (by omega) (by omega)
      have hc7_0 : r7.cs[o7 + (x20).toNat * 1 + 0]? = some (.int .i64 e7) := hc7 0 (by decide)
      have hw7 : IntKind.i64.wrap e7 = e7 := hw7
      obtain ⟨lo7, hi7⟩ := rangei64 hw7
      have v7 := (all_drop hl) _ (List.mem_of_getElem? hx7)
      refine KO.pv (PV.indexAddrZ un24_B17 sz3_B17 rfl ha7 rfl (by omega) (by omega)) rfl rfl ?_
      refine KO.load1 ag3_B17 rfl hr7 hc7_0 rfl rfl ?_
      refine KO.pv (PV.assign rfl) rfl rfl ?_
      refine KO.nil ?_
      refine KC.region ?_
      refine KO.pv (PV.move rfl) rfl rfl ?_
      refine KO.pv (PV.move rfl) rfl rfl ?_
      refine KO.pv (PV.move rfl) rfl rfl ?_
      have m8 : Mem ([b_b] ++ (D_bA ++ ([m_bm] ++ []))) H A4 [R.row b_b 153 true [.int .i64 bi, .slice a_bL n_bL c_bL, .slice a_c_b_b_2 n_c_b_b_2 n_c_b_b_2, .slice a_bB n_bB c_bB, .slice a_bC n_bC c_bC, .int .i64 fi, .slice a_fL n_fL c_fL, .slice a_fA n_fA c_fA, .slice a_fB n_fB c_fB, .slice a_fC n_fC c_fC, .map (some m_bm)], R.lst 187 2 a_c_b_b_2 n_c_b_b_2 (cells EP l_c_b_b_2) D_c_b_b_2, R.mp m_bm KP (VI fun x => 0 ≤ x ∧ x / 2 ≤ 200000)] := m5.pick [0, 1, 2] (by decide) rfl
      refine KO.callV rfl rfl rfl rfl rfl (pref_or A4 b_b bi a_bL n_bL c_bL _ _ _ D_c_b_b_2 a_bB n_bB c_bB a_bC n_bC c_bC fi a_fL n_fL c_fL a_fA n_fA c_fA a_fB n_fB c_fB a_fC n_fC c_fC m_bm x7 e7 (m8.ownK (Rs := [R.row b_b 153 true [.int .i64 bi, .slice a_bL n_bL c_bL, .slice a_c_b_b_2 n_c_b_b_2 n_c_b_b_2, .slice a_bB n_bB c_bB, .slice a_bC n_bC c_bC, .int .i64 fi, .slice a_fL n_fL c_fL, .slice a_fA n_fA c_fA, .slice a_fB n_fB c_fB, .slice a_fC n_fC c_fC, .map (some m_bm)], R.lst 187 2 a_c_b_b_2 n_c_b_b_2 (cells EP l_c_b_b_2) D_c_b_b_2, R.mp m_bm KP (VI fun x => 0 ≤ x ∧ x / 2 ≤ 200000)])) (wrap64 (by omega) (by omega)) hw_l_c_b_b_2 (wrap64 (by omega) (by omega)) (wrap64 (by omega) (by omega)) (wrap64 (by omega) (by omega)) (by first | omega | assumption) (by first | omega | assumption) (by first | omega | assumption)) fun v9 H9 q9 => ?_
      obtain ⟨z9, a9, n9, xs9, D9, hv9, mc9, p9_0, p9_1, p9_2⟩ := q9
      dsimp only at hv9 mc9
      subst hv9
      have m10 := m8.seqK (Rs := [R.row b_b 153 true [.int .i64 bi, .slice a_bL n_bL c_bL, .slice a_c_b_b_2 n_c_b_b_2 n_c_b_b_2, .slice a_bB n_bB c_bB, .slice a_bC n_bC c_bC, .int .i64 fi, .slice a_fL n_fL c_fL, .slice a_fA n_fA c_fA, .slice a_fB n_fB c_fB, .slice a_fC n_fC c_fC, .map (some m_bm)], R.lst 187 2 a_c_b_b_2 n_c_b_b_2 (cells EP l_c_b_b_2) D_c_b_b_2, R.mp m_bm KP (VI fun x => 0 ≤ x ∧ x / 2 ≤ 200000)]) mc9
      have ll9_1 : xs9.length = n9 := m10.lstLen (E := EP) (i := 1) rfl
      refine KO.pv (PV.assign rfl) rfl rfl ?_
      refine KO.nil ?_
      refine KC.region ?_
      refine KO.pv (PV.add rfl rfl (wrap64 (by omega) (by omega))) rfl rfl ?_
      refine KO.pv (PV.move rfl) rfl rfl ?_
      refine KO.nil ?_
      exact ⟨_, _, (by omega), (.cons rfl (.cons rfl (.cons rfl (.cons rfl (.cons rfl .nil))))), z9, (x20 + 1), a9, n9, xs9, D9, rfl, rfl, (m10.pick [0, 1, 2] (by decide) rfl), (by first | omega | assumption | (constructor <;> omega)), (by first | omega | (simp only [splice, List.length_append, List.length_set, List.length_replicate, List.length_map, List.length_take, List.length_drop, List.length_cons, List.length_nil] <;> omega)), (by first | omega | (simp only [splice, List.length_append, List.length_set, List.length_replicate, List.length_map, List.length_take, List.length_drop, List.length_cons, List.length_nil] <;> omega)), (by first | omega | (simp only [splice, List.length_append, List.length_set, List.length_replicate, List.length_map, List.length_take, List.length_drop, List.length_cons, List.length_nil] <;> omega)), (by assumption)⟩
    · refine KC.exit ?_
      refine KC.seq ?_
      refine KC.region ?_
      refine KO.pv (PV.move rfl) rfl rfl ?_
      refine KO.pv (PV.assign rfl) rfl rfl ?_
      refine KO.nil ?_
      exact KC.ret ⟨rfl, _, (.tmp rfl .nil), x7, a_c_b_b_2, n_c_b_b_2, l_c_b_b_2, D_c_b_b_2, rfl, m5.pick [0, 1, 2] (by decide) rfl, (by first | omega | (intro h; omega) | (simp only [List.length_nil, true_and, and_true, or_true, true_or] <;> omega)), (by first | omega | (intro h; omega) | (simp only [List.length_nil, true_and, and_true, or_true, true_or] <;> omega)), (by first | omega | (intro h; omega) | (simp only [List.length_nil, true_and, and_true, or_true, true_or] <;> omega) | exact wf_bA | assumption)⟩
theorem pref_any (H : AHeap) (b_b : Nat) (bi : Int) (a_bL : Option Addr) (n_bL c_bL : Nat) (a_bA : Option Addr) (n_bA : Nat) (bA : List (Int × Int)) (D_bA : List Nat) (a_bB : Option Addr) (n_bB c_bB : Nat) (a_bC : Option Addr) (n_bC c_bC : Nat) (fi : Int) (a_fL : Option Addr) (n_fL c_fL : Nat) (a_fA : Option Addr) (n_fA c_fA : Nat) (a_fB : Option Addr) (n_fB c_fB : Nat) (a_fC : Option Addr) (n_fC c_fC : Nat) (m_bm : Nat) (a_l : Option Addr) (n_l c_l : Nat) (l : List Int) (h_b : Mem ([b_b] ++ (D_bA ++ ([m_bm] ++ []))) H H [R.row b_b 153 true [.int .i64 bi, .slice a_bL n_bL c_bL, .slice a_bA n_bA n_bA, .slice a_bB n_bB c_bB, .slice a_bC n_bC c_bC, .int .i64 fi, .slice a_fL n_fL c_fL, .slice a_fA n_fA c_fA, .slice a_fB n_fB c_fB, .slice a_fC n_fC c_fC, .map (some m_bm)], R.lst 187 2 a_bA n_bA (cells EP bA) D_bA, R.mp m_bm KP (VI fun x => 0 ≤ x ∧ x / 2 ≤ 200000)]) (w_bi : IntKind.i64.wrap bi = bi) (wf_bA : ∀ u ∈ bA, (EP).wf u) (w_fi : IntKind.i64.wrap fi = fi) (h_l : V (EI .i64) H a_l n_l c_l l) (s_l : 0 < n_l → ∀ y, a_l = some y → y.block ∉ ([b_b] ++ (D_bA ++ ([m_bm] ++ [])))) (h0 : 0 ≤ bi ∧ bi ≤ 20000 ∧ n_bL ≤ 2000 ∧ n_bA ≤ 80000) (hn : n_l ≤ 10000) (hl : ∀ u ∈ l, 0 ≤ u ∧ u / 2 ≤ 200000) : WF E0 96 [.pointer (some ⟨b_b, 0, none⟩), .slice a_l n_l c_l] H fun q => ∃ (z : Int) (a : Option Addr) (n : Nat) (xs : List (Int × Int)) (D : List Nat), q.1 = .int .i64 z ∧ Mem ([b_b] ++ (D_bA ++ ([m_bm] ++ []))) H q.2 [R.row b_b 153 true [.int .i64 bi, .slice a_bL n_bL c_bL, .slice a n n, .slice a_bB n_bB c_bB, .slice a_bC n_bC c_bC, .int .i64 fi, .slice a_fL n_fL c_fL, .slice a_fA n_fA c_fA, .slice a_fB n_fB c_fB, .slice a_fC n_fC c_fC, .map (some m_bm)], R.lst 187 2 a n (cells EP xs) D, R.mp m_bm KP (VI fun x => 0 ≤ x ∧ x / 2 ≤ 200000)] ∧ (0 ≤ z ∧ z / 2 ≤ 200000) ∧ (n_bA ≤ n ∧ n ≤ n_bA + n_l) ∧ (∀ u ∈ xs, EP.wf u) := by
  obtain ⟨lo_bi, hi_bi⟩ := rangei64 w_bi
  have len_bA : bA.length = n_bA := h_b.lstLen (E := EP) (i := 1) rfl
  obtain ⟨lo_fi, hi_fi⟩ := rangei64 w_fi
  obtain ⟨len_l, cap_l, max_l, wf_l⟩ := h_l.len
  have m0 := h_b
  refine WF.kg Tryz.func96 rfl rfl ?_
  refine KC.seq ?_
  refine KC.region ?_
  refine KO.pv (PV.assign rfl) rfl rfl ?_
  refine KO.nil ?_
  refine KC.seq ?_
  refine KC.region ?_
  refine KO.pv (PV.move rfl) rfl rfl ?_
  refine KO.pv (PV.makeFunc rfl rfl) rfl rfl ?_
  refine KO.pv (PV.assign rfl) rfl rfl ?_
  refine KO.nil ?_
  refine KC.seq ?_
  refine KC.region ?_
  refine KO.pv (PV.move rfl) rfl rfl ?_
  refine KO.pv (PV.move rfl) rfl rfl ?_
  have m1 : Mem ([b_b] ++ (D_bA ++ ([m_bm] ++ []))) H H [R.row b_b 153 true [.int .i64 bi, .slice a_bL n_bL c_bL, .slice a_bA n_bA n_bA, .slice a_bB n_bB c_bB, .slice a_bC n_bC c_bC, .int .i64 fi, .slice a_fL n_fL c_fL, .slice a_fA n_fA c_fA, .slice a_fB n_fB c_fB, .slice a_fC n_fC c_fC, .map (some m_bm)], R.lst 187 2 a_bA n_bA (cells EP bA) D_bA, R.mp m_bm KP (VI fun x => 0 ≤ x ∧ x / 2 ≤ 200000)] := m0.pick [0, 1, 2] (by decide) rfl
  refine KO.call rfl rfl rfl rfl (pref_chain_or H b_b bi a_bL n_bL c_bL _ _ _ D_bA a_bB n_bB c_bB a_bC n_bC c_bC fi a_fL n_fL c_fL a_fA n_fA c_fA a_fB n_fB c_fB a_fC n_fC c_fC m_bm 0 a_l n_l c_l _ (m1.ownK (Rs := [R.row b_b 153 true [.int .i64 bi, .slice a_bL n_bL c_bL, .slice a_bA n_bA n_bA, .slice a_bB n_bB c_bB, .slice a_bC n_bC c_bC, .int .i64 fi, .slice a_fL n_fL c_fL, .slice a_fA n_fA c_fA, .slice a_fB n_fB c_fB, .slice a_fC n_fC c_fC, .map (some m_bm)], R.lst 187 2 a_bA n_bA (cells EP bA) D_bA, R.mp m_bm KP (VI fun x => 0 ≤ x ∧ x / 2 ≤ 200000)])) (wrap64 (by omega) (by omega)) wf_bA (wrap64 (by omega) (by omega)) (wrap64 (by omega) (by omega)) (V.mem m1 h_l s_l) (sepCons (V.sepM m1 h_l s_l (i := 0) rfl) (sepCons (V.sepM m1 h_l s_l (i := 1) rfl) (sepCons (V.sepM m1 h_l s_l (i := 2) rfl) sepEnd))) (by first | omega | assumption) (by first | omega | assumption) (by first | omega | assumption) (by first | assumption | exact all_nil)) fun v2 H2 q2 => ?_
  obtain ⟨z2, a2, n2, xs2, D2, hv2, mc2, p2_0, p2_1, p2_2⟩ := q2
  dsimp only at hv2 mc2
  subst hv2
  have m3 := m1.seqK (Rs := [R.row b_b 153 true [.int .i64 bi, .slice a_bL n_bL c_bL, .slice a_bA n_bA n_bA, .slice a_bB n_bB c_bB, .slice a_bC n_bC c_bC, .int .i64 fi, .slice a_fL n_fL c_fL, .slice a_fA n_fA c_fA, .slice a_fB n_fB c_fB, .slice a_fC n_fC c_fC, .map (some m_bm)], R.lst 187 2 a_bA n_bA (cells EP bA) D_bA, R.mp m_bm KP (VI fun x => 0 ≤ x ∧ x / 2 ≤ 200000)]) mc2
  have ll2_1 : xs2.length = n2 := m3.lstLen (E := EP) (i := 1) rfl
  refine KO.pv (PV.assign rfl) rfl rfl ?_
  refine KO.nil ?_
  exact KC.ret ⟨rfl, _, (.tmp rfl .nil), z2, a2, n2, xs2, D2, rfl, m3.pick [0, 1, 2] (by decide) rfl, (by first | omega | (intro h; omega) | (simp only [List.length_nil, true_and, and_true, or_true, true_or] <;> omega)), (by first | omega | (intro h; omega) | (simp only [List.length_nil, true_and, and_true, or_true, true_or] <;> omega)), (by first | omega | (intro h; omega) | (simp only [List.length_nil, true_and, and_true, or_true, true_or] <;> omega) | assumption)⟩
theorem pref_of (H : AHeap) (l : Int) (b_p : Nat) (a_w : Option Addr) (n_w c_w : Nat) (w : List Int) (w_l : IntKind.i64.wrap l = l) (r_p : H.row b_p = some ⟨24, true, true, [.slice a_w n_w c_w]⟩) (l_p : b_p < H.next) (h_w : V (EI .i64) H a_w n_w c_w w) (h0 : 0 ≤ l ∧ l / 2 < n_w) (hw : ∀ u ∈ w, 0 ≤ u ∧ u / 2 ≤ 200000) : WF E0 149 [.int .i64 l, .pointer (some ⟨b_p, 0, none⟩)] H fun q => ∃ (z : Int), q.1 = .int .i64 z ∧ Mem [] H q.2 [] ∧ (0 ≤ z ∧ z / 2 ≤ 200000) := by
  obtain ⟨lo_l, hi_l⟩ := rangei64 w_l
  obtain ⟨len_w, cap_w, max_w, wf_w⟩ := h_w.len
  have m0 : Mem [] H H [] := Mem.start
  refine WF.kg Tryz.func149 rfl rfl ?_
  refine KC.seq ?_
  refine KC.region ?_
  refine KO.pv (PV.assign rfl) rfl rfl ?_
  refine KO.nil ?_
  refine KC.seq ?_
  refine KC.region ?_
  refine KO.load1 ag24_B17 rfl (m0.row0 l_p r_p) rfl rfl rfl ?_
  refine KO.pv (PV.move rfl) rfl rfl ?_
  refine KO.pv (PV.quo rfl rfl (by omega) (quoN (by omega) (by omega))) rfl rfl ?_
  obtain ⟨b1, o1, p1, r1, e1, ha1, hb1, hr1, hx1, hw1, hc1, ht1⟩ := V.at_ h_w (z := (l / 2)) (by omega) (by omega)
  have hc1_0 : r1.cs[o1 + ((l / 2)).toNat * 1 + 0]? = some (.int .i64 e1) := hc1 0 (by decide)
  have hw1 : IntKind.i64.wrap e1 = e1 := hw1
  obtain ⟨lo1, hi1⟩ := rangei64 hw1
  have b1 := hw _ (List.mem_of_getElem? hx1)
  refine KO.pv (PV.indexAddrZ un24_B17 sz3_B17 rfl ha1 rfl (by omega) (by omega)) rfl rfl ?_
  refine KO.load1 ag3_B17 rfl (m0.row0 hb1 hr1) hc1_0 rfl rfl ?_
  refine KO.pv (PV.move rfl) rfl rfl ?_
  refine KO.pv (PV.and1 rfl rfl (by omega) (by omega)) rfl rfl ?_
  obtain ⟨x2, rx2, dx2, zx2, qx2⟩ := xorB (e1) ((l % 2)) (by omega) (by omega) (by omega) (by omega)
  refine KO.pv (PV.xorB rfl rfl qx2) rfl rfl ?_
  refine KO.pv (PV.assign rfl) rfl rfl ?_
  refine KO.nil ?_
  exact KC.ret ⟨rfl, _, (.tmp rfl .nil), x2, rfl, m0.pick [] (by decide) rfl, (by first | omega | (intro h; omega) | (simp only [List.length_nil, true_and, and_true, or_true, true_or] <;> omega))⟩
theorem pref_all (H : AHeap) (a_l : Option Addr) (n_l c_l : Nat) (l : List Int) (b_f : Nat) (b_p : Nat) (a_w : Option Addr) (n_w c_w : Nat) (w : List Int) (h_l : V (EI .i64) H a_l n_l c_l l) (r_f : H.row b_f = some ⟨225, true, true, [.func (.func 149) #[] #[.pointer (some ⟨b_p, 0, none⟩)]]⟩) (l_f : b_f < H.next) (r_p : H.row b_p = some ⟨24, true, true, [.slice a_w n_w c_w]⟩) (l_p : b_p < H.next) (h_w : V (EI .i64) H a_w n_w c_w w) (hn : n_l ≤ 10000) (hl : ∀ u ∈ l, 0 ≤ u ∧ u / 2 < n_w) (hw : ∀ u ∈ w, 0 ≤ u ∧ u / 2 ≤ 200000) : WF E0 150 [.slice a_l n_l c_l, .pointer (some ⟨b_f, 0, none⟩)] H fun q => ∃ (a : Option Addr) (n : Nat) (xs : List Int) (D : List Nat), q.1 = .slice a n n ∧ Mem [] H q.2 [R.lst 3 1 a n (cells (EI .i64) xs) D] ∧ (n = n_l ∧ xs.length = n) ∧ (∀ u ∈ xs, 0 ≤ u ∧ u / 2 ≤ 200000) ∧ (∀ u ∈ xs, (EI .i64).wf u) := by
  obtain ⟨len_l, cap_l, max_l, wf_l⟩ := h_l.len
  obtain ⟨len_w, cap_w, max_w, wf_w⟩ := h_w.len
  have m0 : Mem [] H H [] := Mem.start
  refine WF.kg Tryz.func150 rfl rfl ?_
  refine KC.seq ?_
  refine KC.region ?_
  refine KO.pv (PV.assign rfl) rfl rfl ?_
  refine KO.nil ?_
  refine KC.seq ?_
  refine KC.region ?_
  refine KO.pv (PV.assign rfl) rfl rfl ?_
  refine KO.nil ?_
  refine KC.seq ?_
  refine KC.seq ?_
  refine KC.region ?_
  refine KO.pv (PV.move rfl) rfl rfl ?_
  refine KO.pv (PV.len un24_B17 rfl) rfl rfl ?_
  refine KO.pv (PV.move rfl) rfl rfl ?_
  refine KO.nil ?_
  refine KC.block ?_
  refine KC.sub (l' := [(1, .pointer (some ⟨b_f, 0, none⟩)), (4, .slice none 0 0), (7, .slice a_l n_l c_l), (8, .int .i64 (n_l : Int)), (9, .int .i64 0)]) (.cons rfl (.cons rfl (.cons rfl (.cons rfl (.cons rfl .nil))))) ?_
  have m1 := m0.lnilC (EI .i64) (e := 3) none rfl
  refine KC.loopN (fun kq lq A => ∃ (a4 : Option Addr) (n4 : Nat) (l4 : List Int) (D4 : List Nat) (x9 : Int), kq = ((n_l : Int) - x9).toNat ∧ lq = [(1, .pointer (some ⟨b_f, 0, none⟩)), (4, .slice a4 n4 n4), (7, .slice a_l n_l c_l), (8, .int .i64 (n_l : Int)), (9, .int .i64 x9)] ∧ Mem [] H A [R.lst 3 1 a4 n4 (cells (EI .i64) l4) D4] ∧ (0 ≤ x9 ∧ x9 ≤ (n_l : Int)) ∧ (l4.length = n4) ∧ (∀ u ∈ l4, (EI .i64).wf u) ∧ (∀ u ∈ l4, 0 ≤ u ∧ u / 2 ≤ 200000) ∧ ((n4 : Int) = x9)) ?_ (((n_l : Int) - 0).toNat) ⟨none, 0, [], [], 0, rfl, rfl, (m1.pick [0] (by decide) rfl), (by first | omega | assumption | (constructor <;> omega)), (by first | omega | (simp only [splice, List.length_append, List.length_set, List.length_replicate, List.length_map, List.length_take, List.length_drop, List.length_cons, List.length_nil] <;> omega)), (fun _ h => absurd h List.not_mem_nil), all_nil, (by first | omega | (simp only [splice, List.length_append, List.length_set, List.length_replicate, List.length_map, List.length_take, List.length_drop, List.length_cons, List.length_nil] <;> omega))⟩
  rintro kq lq A2 ⟨a4, n4, l4, D4, x9, rfl, rfl, m3, hr3, hl_l4, hw_l4, hv4, hn4⟩
  refine KC.seq ?_
  refine KC.region ?_
  refine KO.pv (PV.lssD rfl rfl rfl) rfl rfl ?_
  refine KO.nil ?_
  refine KC.seq ?_
  refine KC.condD rfl (fun h4 => ?_) (fun h4 => ?_)
  · refine KC.skip ?_
    refine KC.seq ?_
    refine KC.block ?_
    refine KC.seq ?_
    refine KC.region ?_
    obtain ⟨b5, o5, p5, r5, e5, ha5, hb5, hr5, hx5, hw5, hc5, ht5⟩ := V.at_ h_l (z := x9) (by omega) (by omega)
    have hc5_0 : r5.cs[o5 + (x9).toNat * 1 + 0]? = some (.int .i64 e5) := hc5 0 (by decide)
    have hw5 : IntKind.i64.wrap e5 = e5 := hw5
    obtain ⟨lo5, hi5⟩ := rangei64 hw5
    have v5 := hl _ (List.mem_of_getElem? hx5)
    refine KO.pv (PV.indexAddrZ un24_B17 sz3_B17 rfl ha5 rfl (by omega) (by omega)) rfl rfl ?_
    refine KO.load1 ag3_B17 rfl (m3.row0 hb5 hr5) hc5_0 rfl rfl ?_
    refine KO.pv (PV.assign rfl) rfl rfl ?_
    refine KO.nil ?_
    refine KC.region ?_
    refine KO.pv (PV.move rfl) rfl rfl ?_
    refine KO.load1 ag225_B17 rfl (m3.row0 l_f r_f) rfl rfl rfl ?_
    refine KO.pv (PV.move rfl) rfl rfl ?_
    refine KO.callV rfl rfl rfl rfl rfl (pref_of A2 e5 b_p _ _ _ _ (wrap64 (by omega) (by omega)) (m3.row0 l_p r_p) (Nat.lt_of_lt_of_le l_p m3.next) (V.mem m3 h_w) (by first | omega | assumption) (by first | assumption | exact all_nil)) fun v6 H6 q6 => ?_
    obtain ⟨z6, hv6, mc6, p6_0⟩ := q6
    dsimp only at hv6 mc6
    subst hv6
    have m7 := m3.seq mc6
    refine KO.buildSliceM m7 el24_B17 ez3_B17 rfl rfl (show _ = some [.int .i64 z6] from rfl) rfl rfl fun H8 m9 => ?_
    refine KO.appendC (C := (EI .i64)) m9 (i := 1) rfl el24_B17 ez3_B17 sb3_B17 un24_B17 rfl rfl (newElems_row1 (C := (EI .i64)) (y := z6) (m9.row (i := 0) rfl) rfl) rfl (by first | omega | (simp only [splice, List.length_append, List.length_set, List.length_replicate, List.length_map, List.length_take, List.length_drop, List.length_cons, List.length_nil] <;> omega)) rfl rfl fun a11 D12 H10 m13 => ?_
    refine KO.pv (PV.assign rfl) rfl rfl ?_
    refine KO.nil ?_
    refine KC.region ?_
    refine KO.pv (PV.add rfl rfl (wrap64 (by omega) (by omega))) rfl rfl ?_
    refine KO.pv (PV.move rfl) rfl rfl ?_
    refine KO.nil ?_
    exact ⟨_, _, (by omega), (.cons rfl (.cons rfl (.cons rfl (.cons rfl (.cons rfl .nil))))), a11, (n4 + 1), (l4 ++ [z6]), D12, (x9 + 1), rfl, rfl, (m13.pick [1] (by decide) rfl), (by first | omega | assumption | (constructor <;> omega)), (by first | omega | (simp only [splice, List.length_append, List.length_set, List.length_replicate, List.length_map, List.length_take, List.length_drop, List.length_cons, List.length_nil] <;> omega)), (all_app hw_l4 (all_one (wf64 (by omega) (by omega)))), (all_app hv4 (all_one (by first | omega | assumption | (constructor <;> omega)))), (by first | omega | (simp only [splice, List.length_append, List.length_set, List.length_replicate, List.length_map, List.length_take, List.length_drop, List.length_cons, List.length_nil] <;> omega))⟩
  · refine KC.exit ?_
    refine KC.seq ?_
    refine KC.region ?_
    refine KO.pv (PV.move rfl) rfl rfl ?_
    refine KO.pv (PV.assign rfl) rfl rfl ?_
    refine KO.nil ?_
    exact KC.ret ⟨rfl, _, (.tmp rfl .nil), a4, n4, l4, D4, rfl, m3.pick [0] (by decide) rfl, (by first | omega | (intro h; omega) | (simp only [List.length_nil, true_and, and_true, or_true, true_or] <;> omega)), (by first | omega | (intro h; omega) | (simp only [List.length_nil, true_and, and_true, or_true, true_or] <;> omega) | exact all_nil | assumption), (by first | omega | (intro h; omega) | (simp only [List.length_nil, true_and, and_true, or_true, true_or] <;> omega) | exact all_nil | assumption)⟩
theorem pref_frame (H : AHeap) (b_b : Nat) (bi : Int) (a_bL : Option Addr) (n_bL c_bL : Nat) (a_bA : Option Addr) (n_bA : Nat) (bA : List (Int × Int)) (D_bA : List Nat) (a_bB : Option Addr) (n_bB c_bB : Nat) (a_bC : Option Addr) (n_bC c_bC : Nat) (fi : Int) (a_fL : Option Addr) (n_fL c_fL : Nat) (a_fA : Option Addr) (n_fA c_fA : Nat) (a_fB : Option Addr) (n_fB c_fB : Nat) (a_fC : Option Addr) (n_fC c_fC : Nat) (m_bm : Nat) (i : Int) (a_st : Option Addr) (n_st c_st : Nat) (st : List Int) (fL : List (Int × Int)) (fA : List (Int × Int)) (fB : List Int) (fC : List Int) (h_b : Mem ([b_b] ++ (D_bA ++ ([m_bm] ++ []))) H H [R.row b_b 153 true [.int .i64 bi, .slice a_bL n_bL c_bL, .slice a_bA n_bA n_bA, .slice a_bB n_bB c_bB, .slice a_bC n_bC c_bC, .int .i64 fi, .slice a_fL n_fL c_fL, .slice a_fA n_fA c_fA, .slice a_fB n_fB c_fB, .slice a_fC n_fC c_fC, .map (some m_bm)], R.lst 187 2 a_bA n_bA (cells EP bA) D_bA, R.mp m_bm KP (VI fun x => 0 ≤ x ∧ x / 2 ≤ 200000)]) (w_bi : IntKind.i64.wrap bi = bi) (wf_bA : ∀ u ∈ bA, (EP).wf u) (w_fi : IntKind.i64.wrap fi = fi) (w_i : IntKind.i64.wrap i = i) (h_st : V (EI .i64) H a_st n_st c_st st) (s_st : 0 < n_st → ∀ y, a_st = some y → y.block ∉ ([b_b] ++ (D_bA ++ ([m_bm] ++ [])))) (h_fL : V EP H a_fL n_fL c_fL fL) (s_fL : 0 < n_fL → ∀ y, a_fL = some y → y.block ∉ ([b_b] ++ (D_bA ++ ([m_bm] ++ [])))) (h_fA : V EP H a_fA n_fA c_fA fA) (s_fA : 0 < n_fA → ∀ y, a_fA = some y → y.block ∉ ([b_b] ++ (D_bA ++ ([m_bm] ++ [])))) (h_fB : V (EI .i64) H a_fB n_fB c_fB fB) (s_fB : 0 < n_fB → ∀ y, a_fB = some y → y.block ∉ ([b_b] ++ (D_bA ++ ([m_bm] ++ [])))) (h_fC : V (EI .i64) H a_fC n_fC c_fC fC) (s_fC : 0 < n_fC → ∀ y, a_fC = some y → y.block ∉ ([b_b] ++ (D_bA ++ ([m_bm] ++ [])))) (h0 : 0 ≤ bi ∧ bi ≤ 20000 ∧ n_bL ≤ 2000 ∧ n_bA ≤ 60000) (ok : CirOK fi fL fA fB fC) (hi : 0 ≤ i ∧ i ≤ 20000) (hst : n_st = n_fL) (hsv : ∀ u ∈ st, 0 ≤ u ∧ u / 2 ≤ 200000) : WF E0 93 [.pointer (some ⟨b_b, 0, none⟩), .int .i64 i, .slice a_st n_st c_st] H fun q => ∃ (ra : Option Addr) (rn : Nat) (rb : Int) (rr : Int) (rx : List Int) (rD : List Nat) (a : Option Addr) (n : Nat) (xs : List (Int × Int)) (D : List Nat), q.1 = .agg #[.slice ra rn rn, .int .i64 rb, .int .i64 rr] ∧ Mem ([b_b] ++ (D_bA ++ ([m_bm] ++ []))) H q.2 [R.row b_b 153 true [.int .i64 bi, .slice a_bL n_bL c_bL, .slice a n n, .slice a_bB n_bB c_bB, .slice a_bC n_bC c_bC, .int .i64 fi, .slice a_fL n_fL c_fL, .slice a_fA n_fA c_fA, .slice a_fB n_fB c_fB, .slice a_fC n_fC c_fC, .map (some m_bm)], R.lst 187 2 a n (cells EP xs) D, R.mp m_bm KP (VI fun x => 0 ≤ x ∧ x / 2 ≤ 200000), R.lst 3 1 ra rn (cells (EI .i64) rx) rD] ∧ (0 ≤ rb ∧ rb / 2 ≤ 200000) ∧ (0 ≤ rr ∧ rr / 2 ≤ 200000) ∧ (n_bA ≤ n ∧ n ≤ n_bA + 1200) ∧ (rn = n_fL ∧ rx.length = rn) ∧ (∀ u ∈ rx, 0 ≤ u ∧ u / 2 ≤ 200000) ∧ (∀ u ∈ rx, (EI .i64).wf u) ∧ (∀ u ∈ xs, EP.wf u) := by
  obtain ⟨lo_bi, hi_bi⟩ := rangei64 w_bi
  have len_bA : bA.length = n_bA := h_b.lstLen (E := EP) (i := 1) rfl
  obtain ⟨lo_fi, hi_fi⟩ := rangei64 w_fi
  obtain ⟨lo_i, hi_i⟩ := rangei64 w_i
  obtain ⟨len_st, cap_st, max_st, wf_st⟩ := h_st.len
  obtain ⟨len_fL, cap_fL, max_fL, wf_fL⟩ := h_fL.len
  obtain ⟨len_fA, cap_fA, max_fA, wf_fA⟩ := h_fA.len
  obtain ⟨len_fB, cap_fB, max_fB, wf_fB⟩ := h_fB.len
  obtain ⟨len_fC, cap_fC, max_fC, wf_fC⟩ := h_fC.len
  obtain ⟨ok_i0, ok_al, ok_b, ok_c, ok_hb, ok_hc, ok_hl, ok_ha⟩ := id ok
  have m0 := h_b
  refine WF.kg Tryz.func93 rfl rfl ?_
  refine KC.seq ?_
  refine KC.region ?_
  refine KO.allocM m0 zt157_B17 rfl rfl fun H1 m2 => ?_
  refine KO.nil ?_
  refine KC.seq ?_
  refine KC.region ?_
  refine KO.buildSliceM m2 el24_B17 ez3_B17 rfl rfl (show _ = some [.int .i64 0] from rfl) rfl rfl fun H3 m4 => ?_
  have m5 := m4.lxRow (C := (EI .i64)) 3 [0] (i := 0) (n := 1) rfl rfl
  refine KO.allocM m5 zt24_B17 rfl rfl fun H6 m7 => ?_
  refine KO.storeM m7 (i := 0) rfl sz24_B17 rfl rfl rfl (show 0 + 1 ≤ 1 by decide) (show _ = [.slice (some ⟨H1.next, 0, none⟩) 1 1] from rfl) rfl fun H8 m9 => ?_
  refine KO.nil ?_
  refine KC.seq ?_
  refine KC.seq ?_
  refine KC.region ?_
  refine KO.pv (PV.move rfl) rfl rfl ?_
  refine KO.pv (PV.nilCheck rfl) rfl rfl ?_
  refine KO.pv (PV.fieldAddr fo153_1_B17 rfl) rfl rfl ?_
  refine KO.pv (PV.fieldAddr fo26_0_B17 rfl) rfl rfl ?_
  refine KO.load1 ag3_B17 rfl (m9.row (i := 3) rfl) rfl rfl rfl ?_
  refine KO.pv (PV.move rfl) rfl rfl ?_
  refine KO.nil ?_
  refine KC.block ?_
  refine KC.sub (l' := [(0, .pointer (some ⟨b_b, 0, none⟩)), (1, .int .i64 i), (2, .slice a_st n_st c_st), (6, .pointer (some ⟨H.next, 0, none⟩)), (7, .pointer (some ⟨H3.next, 0, none⟩)), (22, .int .i64 fi), (23, .int .i64 0)]) (.cons rfl (.cons rfl (.cons rfl (.cons rfl (.cons rfl (.cons rfl (.cons rfl .nil))))))) ?_
  refine KC.loopN (fun kq lq A => ∃ (x23 : Int) (a_c7_0 : Option Addr) (n_c7_0 : Nat) (l_c7_0 : List Int) (D_c7_0 : List Nat), kq = (fi - x23).toNat ∧ lq = [(0, .pointer (some ⟨b_b, 0, none⟩)), (1, .int .i64 i), (2, .slice a_st n_st c_st), (6, .pointer (some ⟨H.next, 0, none⟩)), (7, .pointer (some ⟨H3.next, 0, none⟩)), (22, .int .i64 fi), (23, .int .i64 x23)] ∧ Mem ([b_b] ++ (D_bA ++ ([m_bm] ++ []))) H A [R.row H3.next 24 true [.slice a_c7_0 n_c7_0 n_c7_0], R.lx 3 1 a_c7_0 n_c7_0 (cells (EI .i64) l_c7_0) D_c7_0, R.row H.next 157 true [.slice none 0 0, .int .i64 0, .int .i64 0], R.row b_b 153 true [.int .i64 bi, .slice a_bL n_bL c_bL, .slice a_bA n_bA n_bA, .slice a_bB n_bB c_bB, .slice a_bC n_bC c_bC, .int .i64 fi, .slice a_fL n_fL c_fL, .slice a_fA n_fA c_fA, .slice a_fB n_fB c_fB, .slice a_fC n_fC c_fC, .map (some m_bm)], R.lst 187 2 a_bA n_bA (cells EP bA) D_bA, R.mp m_bm KP (VI fun x => 0 ≤ x ∧ x / 2 ≤ 200000)] ∧ (0 ≤ x23 ∧ x23 ≤ fi) ∧ ((n_c7_0 : Int) = 1 + x23) ∧ (l_c7_0.length = n_c7_0) ∧ (∀ u ∈ l_c7_0, (EI .i64).wf u) ∧ (∀ u ∈ l_c7_0, 0 ≤ u ∧ u / 2 ≤ 200000)) ?_ ((fi - 0).toNat) ⟨0, (some ⟨H1.next, 0, none⟩), 1, [0], [H1.next], rfl, rfl, (m9.pick [0, 1, 2, 3, 4, 5] (by decide) rfl), (by first | omega | assumption | (constructor <;> omega)), (by first | omega | (simp only [splice, List.length_append, List.length_set, List.length_replicate, List.length_map, List.length_take, List.length_drop, List.length_cons, List.length_nil] <;> omega)), (by first | omega | (simp only [splice, List.length_append, List.length_set, List.length_replicate, List.length_map, List.length_take, List.length_drop, List.length_cons, List.length_nil] <;> omega)), (all_one (wf64 (by omega) (by omega))), (all_one (by first | omega | assumption | (constructor <;> omega)))⟩
  rintro kq lq A10 ⟨x23, a_c7_0, n_c7_0, l_c7_0, D_c7_0, rfl, rfl, m11, hr3, hn7, hl_l_c7_0, hw_l_c7_0, hb⟩
  refine KC.seq ?_
  refine KC.region ?_
  refine KO.pv (PV.lssD rfl rfl rfl) rfl rfl ?_
  refine KO.nil ?_
  refine KC.seq ?_
  refine KC.condD rfl (fun h12 => ?_) (fun h12 => ?_)
  · refine KC.skip ?_
    refine KC.seq ?_
    refine KC.block ?_
    refine KC.seq ?_
    refine KC.region ?_
    refine KO.pv (PV.move rfl) rfl rfl ?_
    refine KO.pv (PV.assign rfl) rfl rfl ?_
    refine KO.nil ?_
    refine KC.region ?_
    refine KO.load1 ag24_B17 rfl (m11.row (i := 0) rfl) rfl rfl rfl ?_
    refine KO.pv (PV.move rfl) rfl rfl ?_
    refine KO.pv (PV.move rfl) rfl rfl ?_
    refine KO.pv (PV.add rfl rfl (wrap64 (by omega) (by omega))) rfl rfl ?_
    refine KO.pv (PV.mul rfl rfl (wrap64 (by omega) (by omega))) rfl rfl ?_
    refine KO.buildSliceM m11 el24_B17 ez3_B17 rfl rfl (show _ = some [.int .i64 (2 * (i + x23))] from rfl) rfl rfl fun H13 m14 => ?_
    refine KO.appendX (C := (EI .i64)) m14 (i := 2) rfl hw_l_c7_0 el24_B17 ez3_B17 sb3_B17 un24_B17 rfl rfl (newElems_row1 (C := (EI .i64)) (y := (2 * (i + x23))) (m14.row (i := 0) rfl) rfl) rfl (by omega) (by first | omega | (simp only [splice, List.length_append, List.length_set, List.length_replicate, List.length_map, List.length_take, List.length_drop, List.length_cons, List.length_nil] <;> omega)) rfl rfl fun a16 D17 H15 m18 => ?_
    refine KO.storeM m18 (i := 1) rfl sz24_B17 rfl rfl rfl (show 0 + 1 ≤ 1 by decide) (show _ = [.slice a16 (n_c7_0 + 1) (n_c7_0 + 1)] from rfl) rfl fun H19 m20 => ?_
    refine KO.nil ?_
    refine KC.region ?_
    refine KO.pv (PV.add rfl rfl (wrap64 (by omega) (by omega))) rfl rfl ?_
    refine KO.pv (PV.move rfl) rfl rfl ?_
    refine KO.nil ?_
    have m21 := m20.lxLst (i := 2) rfl
    exact ⟨_, _, (by omega), (.cons rfl (.cons rfl (.cons rfl (.cons rfl (.cons rfl (.cons rfl (.cons rfl .nil))))))), (x23 + 1), a16, (n_c7_0 + 1), (l_c7_0 ++ [(2 * (i + x23))]), D17, rfl, rfl, (m21.pick [1, 2, 3, 4, 5, 6] (by decide) rfl), (by first | omega | assumption | (constructor <;> omega)), (by first | omega | (simp only [splice, List.length_append, List.length_set, List.length_replicate, List.length_map, List.length_take, List.length_drop, List.length_cons, List.length_nil] <;> omega)), (by first | omega | (simp only [splice, List.length_append, List.length_set, List.length_replicate, List.length_map, List.length_take, List.length_drop, List.length_cons, List.length_nil] <;> omega)), (all_app hw_l_c7_0 (all_one (wf64 (by omega) (by omega)))), (all_app hb (all_one (by first | omega | assumption | (constructor <;> omega))))⟩
  · refine KC.exit ?_
    refine KC.seq ?_
    refine KC.region ?_
    refine KO.load1 ag24_B17 rfl (m11.row (i := 0) rfl) rfl rfl rfl ?_
    refine KO.pv (PV.move rfl) rfl rfl ?_
    refine KO.appendXL (C := (EI .i64)) m11 (i := 1) rfl hw_l_c7_0 el24_B17 ez3_B17 sb3_B17 un24_B17 rfl rfl (V.new (V.mem m11 h_st s_st)) (by first | omega | (simp only [splice, List.length_append, List.length_set, List.length_replicate, List.length_map, List.length_take, List.length_drop, List.length_cons, List.length_nil] <;> omega)) (by first | omega | (simp only [splice, List.length_append, List.length_set, List.length_replicate, List.length_map, List.length_take, List.length_drop, List.length_cons, List.length_nil] <;> omega)) rfl rfl fun a23 D24 H22 m25 => ?_
    refine KO.storeM m25 (i := 0) rfl sz24_B17 rfl rfl rfl (show 0 + 1 ≤ 1 by decide) (show _ = [.slice a23 (n_c7_0 + n_st) (n_c7_0 + n_st)] from rfl) rfl fun H26 m27 => ?_
    refine KO.nil ?_
    refine KC.seq ?_
    refine KC.region ?_
    refine KO.pv (PV.makeFunc rfl rfl) rfl rfl ?_
    refine KO.allocM m27 zt225_B17 rfl rfl fun H28 m29 => ?_
    refine KO.storeM m29 (i := 0) rfl sz225_B17 rfl rfl rfl (show 0 + 1 ≤ 1 by decide) (show _ = [.func (.func 149) #[] #[.pointer (some ⟨H3.next, 0, none⟩)]] from rfl) rfl fun H30 m31 => ?_
    refine KO.nil ?_
    refine KC.seq ?_
    refine KC.seq ?_
    refine KC.region ?_
    refine KO.pv (PV.move rfl) rfl rfl ?_
    refine KO.pv (PV.nilCheck rfl) rfl rfl ?_
    refine KO.pv (PV.fieldAddr fo153_1_B17 rfl) rfl rfl ?_
    refine KO.pv (PV.fieldAddr fo26_2_B17 rfl) rfl rfl ?_
    refine KO.load1 ag23_B17 rfl (m31.row (i := 4) rfl) rfl rfl rfl ?_
    refine KO.pv (PV.len un23_B17 rfl) rfl rfl ?_
    refine KO.pv (PV.move rfl) rfl rfl ?_
    refine KO.nil ?_
    refine KC.block ?_
    refine KC.sub (l' := [(0, .pointer (some ⟨b_b, 0, none⟩)), (6, .pointer (some ⟨H.next, 0, none⟩)), (7, .pointer (some ⟨H3.next, 0, none⟩)), (9, .pointer (some ⟨H26.next, 0, none⟩)), (42, .slice a_fA n_fA c_fA), (43, .int .i64 (n_fA : Int)), (44, .int .i64 0)]) (.cons rfl (.cons rfl (.cons rfl (.cons rfl (.cons rfl (.cons rfl (.cons rfl .nil))))))) ?_
    refine KC.loopN (fun kq lq A => ∃ (x44 : Int) (a_c7_0b : Option Addr) (n_c7_0b : Nat) (l_c7_0b : List Int) (D_c7_0b : List Nat) (a_c0_2 : Option Addr) (n_c0_2 : Nat) (l_c0_2 : List (Int × Int)) (D_c0_2 : List Nat), kq = ((n_fA : Int) - x44).toNat ∧ lq = [(0, .pointer (some ⟨b_b, 0, none⟩)), (6, .pointer (some ⟨H.next, 0, none⟩)), (7, .pointer (some ⟨H3.next, 0, none⟩)), (9, .pointer (some ⟨H26.next, 0, none⟩)), (42, .slice a_fA n_fA c_fA), (43, .int .i64 (n_fA : Int)), (44, .int .i64 x44)] ∧ Mem ([b_b] ++ (D_bA ++ ([m_bm] ++ []))) H A [R.row H26.next 225 true [.func (.func 149) #[] #[.pointer (some ⟨H3.next, 0, none⟩)]], R.row H3.next 24 true [.slice a_c7_0b n_c7_0b n_c7_0b], R.lx 3 1 a_c7_0b n_c7_0b (cells (EI .i64) l_c7_0b) D_c7_0b, R.row H.next 157 true [.slice none 0 0, .int .i64 0, .int .i64 0], R.row b_b 153 true [.int .i64 bi, .slice a_bL n_bL c_bL, .slice a_c0_2 n_c0_2 n_c0_2, .slice a_bB n_bB c_bB, .slice a_bC n_bC c_bC, .int .i64 fi, .slice a_fL n_fL c_fL, .slice a_fA n_fA c_fA, .slice a_fB n_fB c_fB, .slice a_fC n_fC c_fC, .map (some m_bm)], R.lst 187 2 a_c0_2 n_c0_2 (cells EP l_c0_2) D_c0_2, R.mp m_bm KP (VI fun x => 0 ≤ x ∧ x / 2 ≤ 200000)] ∧ (0 ≤ x44 ∧ x44 ≤ (n_fA : Int)) ∧ ((n_c7_0b : Int) = 1 + fi + n_fL + x44) ∧ (n_bA ≤ n_c0_2 ∧ (n_c0_2 : Int) ≤ n_bA + x44) ∧ (l_c7_0b.length = n_c7_0b) ∧ (∀ u ∈ l_c7_0b, (EI .i64).wf u) ∧ (∀ u ∈ l_c7_0b, 0 ≤ u ∧ u / 2 ≤ 200000) ∧ (l_c0_2.length = n_c0_2) ∧ (∀ u ∈ l_c0_2, (EP).wf u)) ?_ (((n_fA : Int) - 0).toNat) ⟨0, a23, (n_c7_0 + n_st), (l_c7_0 ++ st), D24, a_bA, n_bA, bA, D_bA, rfl, rfl, (m31.pick [0, 1, 2, 3, 4, 5, 6] (by decide) rfl), (by first | omega | assumption | (constructor <;> omega)), (by first | omega | (simp only [splice, List.length_append, List.length_set, List.length_replicate, List.length_map, List.length_take, List.length_drop, List.length_cons, List.length_nil] <;> omega)), (by first | omega | (simp only [splice, List.length_append, List.length_set, List.length_replicate, List.length_map, List.length_take, List.length_drop, List.length_cons, List.length_nil] <;> omega)), (by first | omega | (simp only [splice, List.length_append, List.length_set, List.length_replicate, List.length_map, List.length_take, List.length_drop, List.length_cons, List.length_nil] <;> omega)), (all_app hw_l_c7_0 wf_st), (all_app (by assumption) (by assumption)), (by first | omega | (simp only [splice, List.length_append, List.length_set, List.length_replicate, List.length_map, List.length_take, List.length_drop, List.length_cons, List.length_nil] <;> omega)), wf_bA⟩
    rintro kq lq A32 ⟨x44, a_c7_0b, n_c7_0b, l_c7_0b, D_c7_0b, a_c0_2, n_c0_2, l_c0_2, D_c0_2, rfl, rfl, m33, hr10, hn7b, hnA, hl_l_c7_0b, hw_l_c7_0b, hbb, hl_l_c0_2, hw_l_c0_2⟩
    refine KC.seq ?_
    refine KC.region ?_
    refine KO.pv (PV.lssD rfl rfl rfl) rfl rfl ?_
    refine KO.nil ?_
    refine KC.seq ?_
    refine KC.condD rfl (fun h34 => ?_) (fun h34 => ?_)
    · refine KC.skip ?_
      refine KC.seq ?_
      refine KC.block ?_
      refine KC.seq ?_
      refine KC.region ?_
      obtain ⟨b35, o35, p35, r35, e35, ha35, hb35, hr35, hx35, hw35, hc35, ht35⟩ := V.at_ h_fA (z := x44) (by omega) (by omega)
      have hs35 : b35 ∉ ([b_b] ++ (D_bA ++ ([m_bm] ++ []))) := s_fA (by omega) _ ha35
      have hc35_0 : r35.cs[o35 + (x44).toNat * 2 + 0]? = some (.int .i64 e35.1) := hc35 0 (by decide)
      have hc35_1 : r35.cs[o35 + (x44).toNat * 2 + 1]? = some (.int .i64 e35.2) := hc35 1 (by decide)
      obtain ⟨hwa35, hwb35⟩ := hw35
      obtain ⟨loa35, hia35⟩ := rangei64 hwa35
      obtain ⟨lob35, hib35⟩ := rangei64 hwb35
      have gok_ha_35 := ok_ha _ _ hx35
      refine KO.pv (PV.indexAddrZ un23_B17 sz187_B17 rfl ha35 rfl (by omega) (by omega)) rfl rfl ?_
      refine KO.loadN ag187_B17 sz187_B17 rfl (m33.row0M hb35 (by assumption) hr35) ht35 rfl rfl ?_
      refine KO.allocM m33 zt187_B17 rfl rfl fun H36 m37 => ?_
      refine KO.storeM m37 (i := 0) rfl sz187_B17 rfl rfl rfl (show 0 + 2 ≤ 2 by decide) (show _ = [.int .i64 e35.1, .int .i64 e35.2] from rfl) rfl fun H38 m39 => ?_
      refine KO.nil ?_
      refine KC.drawG (n := 14) (anc := [0, 0, 0, 0, 8, 28, 0, 0, 128, 508, 1022, 2046, 4095, 8191]) (hv := [5, 9, 10, 12, 13]) (ord := [2, 3, 4, 5, 6, 7, 8, 9, 1, 10, 0, 11, 12, 13]) (by kernel_rfl) (by kernel_rfl) (by kernel_rfl) (by kernel_rfl) (by kernel_rfl) fun H40 n41 g42 => ?_
      have m43 := m39.room n41 g42 [11] (by decide) (by decide)
      refine KD.load 4 rfl (m43.row (i := 2) rfl) (by rw [read1 ag225_B17]; exact rfl) (pastGo (k := 1) (l := [H40]) (by kernel_rfl) rfl (pastCons ⟨_, (m43.row (i := 2) rfl), (by rw [read1 ag225_B17]; exact rfl)⟩ pastNil)) (veq_func veqNil (veqCons veqP veqNil)) rfl (by kernel_rfl) rfl rfl rfl ?_
      refine KD.pv 12 (PV.fieldAddr fo187_0_B17 rfl) rfl rfl rfl (by kernel_rfl) rfl rfl rfl ?_
      refine KD.load 28 rfl (m43.row (i := 1) rfl) (by rw [read1 ag3_B17]; exact rfl) (pastGo (k := 1) (l := [H40]) (by kernel_rfl) rfl (pastCons ⟨_, (m43.row (i := 1) rfl), (by rw [read1 ag3_B17]; exact rfl)⟩ pastNil)) veq_int rfl (by kernel_rfl) rfl rfl rfl ?_
      refine KD.callV 60 rfl rfl rfl rfl (by kernel_rfl) rfl rfl rfl (pref_of H40 e35.1 H3.next _ _ _ _ (wrap64 (by omega) (by omega)) (m43.row (i := 3) rfl) (m43.blt (i := 3) rfl) (m43.lxV (i := 4) rfl hw_l_c7_0b (by first | omega | (simp only [splice, List.length_append, List.length_set, List.length_replicate, List.length_map, List.length_take, List.length_drop, List.length_cons, List.length_nil] <;> omega))) (by first | omega | assumption) (by first | assumption | exact all_nil)) fun v44 H44 q44 => ?_
      obtain ⟨z44, hv44, mc44, p44_0⟩ := q44
      dsimp only at hv44 mc44
      subst hv44
      have m45 := m43.seq mc44
      refine KD.load 124 rfl (m45.row (i := 2) rfl) (by rw [read1 ag225_B17]; exact rfl) (pastGo (k := 2) (l := [H44, H40]) (by kernel_rfl) rfl (pastCons ⟨_, (m45.row (i := 2) rfl), (by rw [read1 ag225_B17]; exact rfl)⟩ (pastCons ⟨_, (m43.row (i := 2) rfl), (by rw [read1 ag225_B17]; exact rfl)⟩ pastNil))) (veq_func veqNil (veqCons veqP veqNil)) rfl (by kernel_rfl) rfl rfl rfl ?_
      refine KD.pv 252 (PV.fieldAddr fo187_1_B17 rfl) rfl rfl rfl (by kernel_rfl) rfl rfl rfl ?_
      refine KD.load 508 rfl (m45.row (i := 1) rfl) (by rw [read1 ag3_B17]; exact rfl) (pastGo (k := 2) (l := [H44, H40]) (by kernel_rfl) rfl (pastCons ⟨_, (m45.row (i := 1) rfl), (by rw [read1 ag3_B17]; exact rfl)⟩ (pastCons ⟨_, (m43.row (i := 1) rfl), (by rw [read1 ag3_B17]; exact rfl)⟩ pastNil))) veq_int rfl (by kernel_rfl) rfl rfl rfl ?_
      refine KD.callV 1020 rfl rfl rfl rfl (by kernel_rfl) rfl rfl rfl (pref_of H44 e35.2 H3.next _ _ _ _ (wrap64 (by omega) (by omega)) (m45.row (i := 3) rfl) (m45.blt (i := 3) rfl) (m45.lxV (i := 4) rfl hw_l_c7_0b (by first | omega | (simp only [splice, List.length_append, List.length_set, List.length_replicate, List.length_map, List.length_take, List.length_drop, List.length_cons, List.length_nil] <;> omega))) (by first | omega | assumption) (by first | assumption | exact all_nil)) fun v46 H46 q46 => ?_
      obtain ⟨z46, hv46, mc46, p46_0⟩ := q46
      dsimp only at hv46 mc46
      subst hv46
      have m47 := m45.seq mc46
      refine KD.pv 1022 (PV.move rfl) rfl rfl rfl (by kernel_rfl) rfl rfl rfl ?_
      have m48 : Mem ([b_b] ++ (D_bA ++ ([m_bm] ++ []))) H H46 [R.row b_b 153 true [.int .i64 bi, .slice a_bL n_bL c_bL, .slice a_c0_2 n_c0_2 n_c0_2, .slice a_bB n_bB c_bB, .slice a_bC n_bC c_bC, .int .i64 fi, .slice a_fL n_fL c_fL, .slice a_fA n_fA c_fA, .slice a_fB n_fB c_fB, .slice a_fC n_fC c_fC, .map (some m_bm)], R.lst 187 2 a_c0_2 n_c0_2 (cells EP l_c0_2) D_c0_2, R.mp m_bm KP (VI fun x => 0 ≤ x ∧ x / 2 ≤ 200000), R.free (H38.next + 11), R.row A32.next 187 true [.int .i64 e35.1, .int .i64 e35.2], R.row H26.next 225 true [.func (.func 149) #[] #[.pointer (some ⟨H3.next, 0, none⟩)]], R.row H3.next 24 true [.slice a_c7_0b n_c7_0b n_c7_0b], R.lx 3 1 a_c7_0b n_c7_0b (cells (EI .i64) l_c7_0b) D_c7_0b, R.row H.next 157 true [.slice none 0 0, .int .i64 0, .int .i64 0]] := m47.pick [6, 7, 8, 0, 1, 2, 3, 4, 5] (by decide) rfl
      refine KD.call 2046 rfl rfl rfl (by kernel_rfl) rfl rfl rfl (pref_and H46 b_b bi a_bL n_bL c_bL _ _ _ D_c0_2 a_bB n_bB c_bB a_bC n_bC c_bC fi a_fL n_fL c_fL a_fA n_fA c_fA a_fB n_fB c_fB a_fC n_fC c_fC m_bm z44 z46 (m48.ownK (Rs := [R.row b_b 153 true [.int .i64 bi, .slice a_bL n_bL c_bL, .slice a_c0_2 n_c0_2 n_c0_2, .slice a_bB n_bB c_bB, .slice a_bC n_bC c_bC, .int .i64 fi, .slice a_fL n_fL c_fL, .slice a_fA n_fA c_fA, .slice a_fB n_fB c_fB, .slice a_fC n_fC c_fC, .map (some m_bm)], R.lst 187 2 a_c0_2 n_c0_2 (cells EP l_c0_2) D_c0_2, R.mp m_bm KP (VI fun x => 0 ≤ x ∧ x / 2 ≤ 200000)])) (wrap64 (by omega) (by omega)) hw_l_c0_2 (wrap64 (by omega) (by omega)) (wrap64 (by omega) (by omega)) (wrap64 (by omega) (by omega)) (by first | omega | assumption) (by first | omega | assumption) (by first | omega | assumption)) fun v49 H49 q49 => ?_
      obtain ⟨z49, a49, n49, xs49, D49, hv49, mc49, p49_0, p49_1, p49_2⟩ := q49
      dsimp only at hv49 mc49
      subst hv49
      have m50 := m48.seqK (Rs := [R.row b_b 153 true [.int .i64 bi, .slice a_bL n_bL c_bL, .slice a_c0_2 n_c0_2 n_c0_2, .slice a_bB n_bB c_bB, .slice a_bC n_bC c_bC, .int .i64 fi, .slice a_fL n_fL c_fL, .slice a_fA n_fA c_fA, .slice a_fB n_fB c_fB, .slice a_fC n_fC c_fC, .map (some m_bm)], R.lst 187 2 a_c0_2 n_c0_2 (cells EP l_c0_2) D_c0_2, R.mp m_bm KP (VI fun x => 0 ≤ x ∧ x / 2 ≤ 200000)]) mc49
      have ll49_1 : xs49.length = n49 := m50.lstLen (E := EP) (i := 1) rfl
      refine KD.load 2047 rfl (m50.row (i := 6) rfl) (by rw [read1 ag24_B17]; exact rfl) (pastGo (k := 4) (l := [H49, H46, H44, H40]) (by kernel_rfl) rfl (pastCons ⟨_, (m50.row (i := 6) rfl), (by rw [read1 ag24_B17]; exact rfl)⟩ (pastCons ⟨_, (m47.row (i := 3) rfl), (by rw [read1 ag24_B17]; exact rfl)⟩ (pastCons ⟨_, (m45.row (i := 3) rfl), (by rw [read1 ag24_B17]; exact rfl)⟩ (pastCons ⟨_, (m43.row (i := 3) rfl), (by rw [read1 ag24_B17]; exact rfl)⟩ pastNil))))) veq_sl rfl (by kernel_rfl) rfl rfl rfl ?_
      refine KD.buildSliceM 4095 m50 (j := 3) rfl el24_B17 ez3_B17 rfl rfl (show _ = some [.int .i64 z49] from rfl) rfl (by kernel_rfl) rfl rfl rfl fun H51 m52 => ?_
      refine KD.appendX 8191 (C := (EI .i64)) m52 (j := 7) rfl hw_l_c7_0b el24_B17 ez3_B17 sb3_B17 un24_B17 rfl rfl (newElems_row1 (C := (EI .i64)) (y := z49) (m52.row (i := 3) rfl) rfl) rfl (by omega) (by first | omega | (simp only [splice, List.length_append, List.length_set, List.length_replicate, List.length_map, List.length_take, List.length_drop, List.length_cons, List.length_nil] <;> omega)) rfl (by kernel_rfl) rfl rfl rfl fun a54 D55 H53 m56 => ?_
      refine KD.storeM 16383 m56 (j := 6) rfl sz24_B17 rfl rfl rfl (show 0 + 1 ≤ 1 by decide) (show _ = [.slice a54 (n_c7_0b + 1) (n_c7_0b + 1)] from rfl) rfl (by kernel_rfl) rfl rfl fun H57 m58 => ?_
      refine KD.nil ⟨rfl, ?_⟩
      refine KC.region ?_
      refine KO.pv (PV.add rfl rfl (wrap64 (by omega) (by omega))) rfl rfl ?_
      refine KO.pv (PV.move rfl) rfl rfl ?_
      refine KO.nil ?_
      have m59 := m58.lxLst (i := 7) rfl
      exact ⟨_, _, (by omega), (.cons rfl (.cons rfl (.cons rfl (.cons rfl (.cons rfl (.cons rfl (.cons rfl .nil))))))), (x44 + 1), a54, (n_c7_0b + 1), (l_c7_0b ++ [z49]), D55, a49, n49, xs49, D49, rfl, rfl, (m59.pick [5, 6, 7, 8, 0, 1, 2] (by decide) rfl), (by first | omega | assumption | (constructor <;> omega)), (by first | omega | (simp only [splice, List.length_append, List.length_set, List.length_replicate, List.length_map, List.length_take, List.length_drop, List.length_cons, List.length_nil] <;> omega)), (by first | omega | (simp only [splice, List.length_append, List.length_set, List.length_replicate, List.length_map, List.length_take, List.length_drop, List.length_cons, List.length_nil] <;> omega)), (by first | omega | (simp only [splice, List.length_append, List.length_set, List.length_replicate, List.length_map, List.length_take, List.length_drop, List.length_cons, List.length_nil] <;> omega)), (all_app hw_l_c7_0b (all_one (wf64 (by omega) (by omega)))), (all_app hbb (all_one (by first | omega | assumption | (constructor <;> omega)))), (by first | omega | (simp only [splice, List.length_append, List.length_set, List.length_replicate, List.length_map, List.length_take, List.length_drop, List.length_cons, List.length_nil] <;> omega)), (by assumption)⟩
    · refine KC.exit ?_
      refine KC.seq ?_
      refine KC.region ?_
      refine KO.allocM m33 zt157_B17 rfl rfl fun H60 m61 => ?_
      refine KO.nil ?_
      refine KC.seq ?_
      refine KC.seq ?_
      refine KC.region ?_
      refine KO.pv (PV.move rfl) rfl rfl ?_
      refine KO.pv (PV.nilCheck rfl) rfl rfl ?_
      refine KO.pv (PV.fieldAddr fo153_1_B17 rfl) rfl rfl ?_
      refine KO.pv (PV.fieldAddr fo26_1_B17 rfl) rfl rfl ?_
      refine KO.load1 ag22_B17 rfl (m61.row (i := 5) rfl) rfl rfl rfl ?_
      refine KO.pv (PV.len un22_B17 rfl) rfl rfl ?_
      refine KO.pv (PV.move rfl) rfl rfl ?_
      refine KO.nil ?_
      refine KC.block ?_
      refine KC.sub (l' := [(0, .pointer (some ⟨b_b, 0, none⟩)), (6, .pointer (some ⟨H.next, 0, none⟩)), (9, .pointer (some ⟨H26.next, 0, none⟩)), (12, .pointer (some ⟨A32.next, 0, none⟩)), (66, .slice a_fL n_fL c_fL), (67, .int .i64 (n_fL : Int)), (68, .int .i64 0)]) (.cons rfl (.cons rfl (.cons rfl (.cons rfl (.cons rfl (.cons rfl (.cons rfl .nil))))))) ?_
      have m62 := m61.lnilC (EI .i64) (e := 3) none rfl
      refine KC.loopN (fun kq lq A => ∃ (x68 : Int) (a_c12_0 : Option Addr) (n_c12_0 : Nat) (l_c12_0 : List Int) (D_c12_0 : List Nat), kq = ((n_fL : Int) - x68).toNat ∧ lq = [(0, .pointer (some ⟨b_b, 0, none⟩)), (6, .pointer (some ⟨H.next, 0, none⟩)), (9, .pointer (some ⟨H26.next, 0, none⟩)), (12, .pointer (some ⟨A32.next, 0, none⟩)), (66, .slice a_fL n_fL c_fL), (67, .int .i64 (n_fL : Int)), (68, .int .i64 x68)] ∧ Mem ([b_b] ++ (D_bA ++ ([m_bm] ++ []))) H A [R.row A32.next 157 true [.slice a_c12_0 n_c12_0 n_c12_0, .int .i64 0, .int .i64 0], R.row H26.next 225 true [.func (.func 149) #[] #[.pointer (some ⟨H3.next, 0, none⟩)]], R.row H3.next 24 true [.slice a_c7_0b n_c7_0b n_c7_0b], R.lx 3 1 a_c7_0b n_c7_0b (cells (EI .i64) l_c7_0b) D_c7_0b, R.row H.next 157 true [.slice none 0 0, .int .i64 0, .int .i64 0], R.row b_b 153 true [.int .i64 bi, .slice a_bL n_bL c_bL, .slice a_c0_2 n_c0_2 n_c0_2, .slice a_bB n_bB c_bB, .slice a_bC n_bC c_bC, .int .i64 fi, .slice a_fL n_fL c_fL, .slice a_fA n_fA c_fA, .slice a_fB n_fB c_fB, .slice a_fC n_fC c_fC, .map (some m_bm)], R.lst 187 2 a_c0_2 n_c0_2 (cells EP l_c0_2) D_c0_2, R.mp m_bm KP (VI fun x => 0 ≤ x ∧ x / 2 ≤ 200000), R.lst 3 1 a_c12_0 n_c12_0 (cells (EI .i64) l_c12_0) D_c12_0] ∧ (0 ≤ x68 ∧ x68 ≤ (n_fL : Int)) ∧ ((n_c12_0 : Int) = x68) ∧ (l_c12_0.length = n_c12_0) ∧ (∀ u ∈ l_c12_0, (EI .i64).wf u) ∧ (∀ u ∈ l_c12_0, 0 ≤ u ∧ u / 2 ≤ 200000)) ?_ (((n_fL : Int) - 0).toNat) ⟨0, none, 0, [], [], rfl, rfl, (m62.pick [1, 2, 3, 4, 5, 6, 7, 8, 0] (by decide) rfl), (by first | omega | assumption | (constructor <;> omega)), (by first | omega | (simp only [splice, List.length_append, List.length_set, List.length_replicate, List.length_map, List.length_take, List.length_drop, List.length_cons, List.length_nil] <;> omega)), (by first | omega | (simp only [splice, List.length_append, List.length_set, List.length_replicate, List.length_map, List.length_take, List.length_drop, List.length_cons, List.length_nil] <;> omega)), (fun _ h => absurd h List.not_mem_nil), all_nil⟩
      rintro kq lq A63 ⟨x68, a_c12_0, n_c12_0, l_c12_0, D_c12_0, rfl, rfl, m64, hr16, hn12, hl_l_c12_0, hw_l_c12_0, hv12⟩
      refine KC.seq ?_
      refine KC.region ?_
      refine KO.pv (PV.lssD rfl rfl rfl) rfl rfl ?_
      refine KO.nil ?_
      refine KC.seq ?_
      refine KC.condD rfl (fun h65 => ?_) (fun h65 => ?_)
      · refine KC.skip ?_
        refine KC.seq ?_
        refine KC.block ?_
        refine KC.seq ?_
        refine KC.region ?_
        obtain ⟨b66, o66, p66, r66, e66, ha66, hb66, hr66, hx66, hw66, hc66, ht66⟩ := V.at_ h_fL (z := x68) (by omega) (by omega)
        have hs66 : b66 ∉ ([b_b] ++ (D_bA ++ ([m_bm] ++ []))) := s_fL (by omega) _ ha66
        have hc66_0 : r66.cs[o66 + (x68).toNat * 2 + 0]? = some (.int .i64 e66.1) := hc66 0 (by decide)
        have hc66_1 : r66.cs[o66 + (x68).toNat * 2 + 1]? = some (.int .i64 e66.2) := hc66 1 (by decide)
        obtain ⟨hwa66, hwb66⟩ := hw66
        obtain ⟨loa66, hia66⟩ := rangei64 hwa66
        obtain ⟨lob66, hib66⟩ := rangei64 hwb66
        have gok_hl_66 := ok_hl _ (List.mem_of_getElem? hx66)
        refine KO.pv (PV.indexAddrZ un22_B17 sz150_B17 rfl ha66 rfl (by omega) (by omega)) rfl rfl ?_
        refine KO.loadN ag150_B17 sz150_B17 rfl (m64.row0M hb66 (by assumption) hr66) ht66 rfl rfl ?_
        refine KO.allocM m64 zt150_B17 rfl rfl fun H67 m68 => ?_
        refine KO.storeM m68 (i := 0) rfl sz150_B17 rfl rfl rfl (show 0 + 2 ≤ 2 by decide) (show _ = [.int .i64 e66.1, .int .i64 e66.2] from rfl) rfl fun H69 m70 => ?_
        refine KO.nil ?_
        refine KC.drawG (n := 10) (anc := [0, 1, 0, 0, 8, 28, 60, 127, 255, 511]) (hv := [5, 7, 9]) (ord := [2, 3, 4, 5, 0, 1, 6, 7, 8, 9]) (by kernel_rfl) (by kernel_rfl) (by kernel_rfl) (by kernel_rfl) (by kernel_rfl) fun H71 n72 g73 => ?_
        have m74 := m70.room n72 g73 [6] (by decide) (by decide)
        refine KD.load 4 rfl (m74.row (i := 3) rfl) (by rw [read1 ag225_B17]; exact rfl) (pastGo (k := 1) (l := [H71]) (by kernel_rfl) rfl (pastCons ⟨_, (m74.row (i := 3) rfl), (by rw [read1 ag225_B17]; exact rfl)⟩ pastNil)) (veq_func veqNil (veqCons veqP veqNil)) rfl (by kernel_rfl) rfl rfl rfl ?_
        refine KD.pv 12 (PV.fieldAddr fo150_0_B17 rfl) rfl rfl rfl (by kernel_rfl) rfl rfl rfl ?_
        refine KD.load 28 rfl (m74.row (i := 1) rfl) (by rw [read1 ag3_B17]; exact rfl) (pastGo (k := 1) (l := [H71]) (by kernel_rfl) rfl (pastCons ⟨_, (m74.row (i := 1) rfl), (by rw [read1 ag3_B17]; exact rfl)⟩ pastNil)) veq_int rfl (by kernel_rfl) rfl rfl rfl ?_
        refine KD.callV 60 rfl rfl rfl rfl (by kernel_rfl) rfl rfl rfl (pref_of H71 e66.1 H3.next _ _ _ _ (wrap64 (by omega) (by omega)) (m74.row (i := 4) rfl) (m74.blt (i := 4) rfl) (m74.lxV (i := 5) rfl hw_l_c7_0b (by first | omega | (simp only [splice, List.length_append, List.length_set, List.length_replicate, List.length_map, List.length_take, List.length_drop, List.length_cons, List.length_nil] <;> omega))) (by first | omega | assumption) (by first | assumption | exact all_nil)) fun v75 H75 q75 => ?_
        obtain ⟨z75, hv75, mc75, p75_0⟩ := q75
        dsimp only at hv75 mc75
        subst hv75
        have m76 := m74.seq mc75
        refine KD.pv 61 (PV.fieldAddr fo157_0_B17 rfl) rfl rfl rfl (by kernel_rfl) rfl rfl rfl ?_
        refine KD.load 63 rfl (m76.row (i := 2) rfl) (by rw [read1 ag24_B17]; exact rfl) (pastGo (k := 2) (l := [H75, H71]) (by kernel_rfl) rfl (pastCons ⟨_, (m76.row (i := 2) rfl), (by rw [read1 ag24_B17]; exact rfl)⟩ (pastCons ⟨_, (m74.row (i := 2) rfl), (by rw [read1 ag24_B17]; exact rfl)⟩ pastNil))) veq_sl rfl (by kernel_rfl) rfl rfl rfl ?_
        refine KD.buildSliceM 127 m76 (j := 0) rfl el24_B17 ez3_B17 rfl rfl (show _ = some [.int .i64 z75] from rfl) rfl (by kernel_rfl) rfl rfl rfl fun H77 m78 => ?_
        refine KD.appendC 255 (C := (EI .i64)) m78 (j := 10) rfl el24_B17 ez3_B17 sb3_B17 un24_B17 rfl rfl (newElems_row1 (C := (EI .i64)) (y := z75) (m78.row (i := 0) rfl) rfl) rfl (by first | omega | (simp only [splice, List.length_append, List.length_set, List.length_replicate, List.length_map, List.length_take, List.length_drop, List.length_cons, List.length_nil] <;> omega)) rfl (by kernel_rfl) rfl rfl rfl fun a80 D81 H79 m82 => ?_
        refine KD.pv 511 (PV.fieldAddr fo157_0_B17 rfl) rfl rfl rfl (by kernel_rfl) rfl rfl rfl ?_
        refine KD.storeM 1023 m82 (j := 2) rfl sz24_B17 rfl rfl rfl (show 0 + 1 ≤ 3 by decide) (show _ = [.slice a80 (n_c12_0 + 1) (n_c12_0 + 1), .int .i64 0, .int .i64 0] from rfl) rfl (by kernel_rfl) rfl rfl fun H83 m84 => ?_
        refine KD.nil ⟨rfl, ?_⟩
        refine KC.region ?_
        refine KO.pv (PV.add rfl rfl (wrap64 (by omega) (by omega))) rfl rfl ?_
        refine KO.pv (PV.move rfl) rfl rfl ?_
        refine KO.nil ?_
        exact ⟨_, _, (by omega), (.cons rfl (.cons rfl (.cons rfl (.cons rfl (.cons rfl (.cons rfl (.cons rfl .nil))))))), (x68 + 1), a80, (n_c12_0 + 1), (l_c12_0 ++ [z75]), D81, rfl, rfl, (m84.pick [2, 3, 4, 5, 6, 7, 8, 9, 10] (by decide) rfl), (by first | omega | assumption | (constructor <;> omega)), (by first | omega | (simp only [splice, List.length_append, List.length_set, List.length_replicate, List.length_map, List.length_take, List.length_drop, List.length_cons, List.length_nil] <;> omega)), (by first | omega | (simp only [splice, List.length_append, List.length_set, List.length_replicate, List.length_map, List.length_take, List.length_drop, List.length_cons, List.length_nil] <;> omega)), (all_app hw_l_c12_0 (all_one (wf64 (by omega) (by omega)))), (all_app hv12 (all_one (by first | omega | assumption | (constructor <;> omega))))⟩
      · refine KC.exit ?_
        refine KC.seq ?_
        refine KC.region ?_
        refine KO.pv (PV.makeFunc rfl rfl) rfl rfl ?_
        refine KO.pv (PV.assign rfl) rfl rfl ?_
        refine KO.nil ?_
        refine KC.seq ?_
        refine KC.region ?_
        refine KO.pv (PV.move rfl) rfl rfl ?_
        refine KO.pv (PV.makeFunc rfl rfl) rfl rfl ?_
        refine KO.pv (PV.assign rfl) rfl rfl ?_
        refine KO.nil ?_
        refine KC.seq ?_
        refine KC.region ?_
        refine KO.pv (PV.move rfl) rfl rfl ?_
        refine KO.pv (PV.move rfl) rfl rfl ?_
        refine KO.pv (PV.move rfl) rfl rfl ?_
        refine KO.pv (PV.nilCheck rfl) rfl rfl ?_
        refine KO.pv (PV.fieldAddr fo153_1_B17 rfl) rfl rfl ?_
        refine KO.pv (PV.fieldAddr fo26_3_B17 rfl) rfl rfl ?_
        refine KO.load1 ag24_B17 rfl (m64.row (i := 5) rfl) rfl rfl rfl ?_
        refine KO.callV rfl rfl rfl rfl rfl (pref_all A63 a_fB n_fB c_fB _ H26.next H3.next a_c7_0b n_c7_0b n_c7_0b _ (V.mem m64 h_fB s_fB) (m64.row (i := 1) rfl) (m64.blt (i := 1) rfl) (m64.row (i := 2) rfl) (m64.blt (i := 2) rfl) (m64.lxV (i := 3) rfl hw_l_c7_0b (by first | omega | (simp only [splice, List.length_append, List.length_set, List.length_replicate, List.length_map, List.length_take, List.length_drop, List.length_cons, List.length_nil] <;> omega))) (by first | omega | assumption) (fun u hu => by have := ok_hb u hu; omega) (by first | assumption | exact all_nil)) fun v85 H85 q85 => ?_
        obtain ⟨a85, n85, xs85, D85, hv85, mc85, p85_0, p85_1, p85_2⟩ := q85
        dsimp only at hv85 mc85
        subst hv85
        have m86 := m64.seq mc85
        have m87 : Mem ([b_b] ++ (D_bA ++ ([m_bm] ++ []))) H H85 [R.row b_b 153 true [.int .i64 bi, .slice a_bL n_bL c_bL, .slice a_c0_2 n_c0_2 n_c0_2, .slice a_bB n_bB c_bB, .slice a_bC n_bC c_bC, .int .i64 fi, .slice a_fL n_fL c_fL, .slice a_fA n_fA c_fA, .slice a_fB n_fB c_fB, .slice a_fC n_fC c_fC, .map (some m_bm)], R.lst 187 2 a_c0_2 n_c0_2 (cells EP l_c0_2) D_c0_2, R.mp m_bm KP (VI fun x => 0 ≤ x ∧ x / 2 ≤ 200000), R.lst 3 1 a85 n85 (cells (EI .i64) xs85) D85, R.row A32.next 157 true [.slice a_c12_0 n_c12_0 n_c12_0, .int .i64 0, .int .i64 0], R.row H26.next 225 true [.func (.func 149) #[] #[.pointer (some ⟨H3.next, 0, none⟩)]], R.row H3.next 24 true [.slice a_c7_0b n_c7_0b n_c7_0b], R.lx 3 1 a_c7_0b n_c7_0b (cells (EI .i64) l_c7_0b) D_c7_0b, R.row H.next 157 true [.slice none 0 0, .int .i64 0, .int .i64 0], R.lst 3 1 a_c12_0 n_c12_0 (cells (EI .i64) l_c12_0) D_c12_0] := m86.pick [6, 7, 8, 0, 1, 2, 3, 4, 5, 9] (by decide) rfl
        refine KO.call rfl rfl rfl rfl (pref_any H85 b_b bi a_bL n_bL c_bL _ _ _ D_c0_2 a_bB n_bB c_bB a_bC n_bC c_bC fi a_fL n_fL c_fL a_fA n_fA c_fA a_fB n_fB c_fB a_fC n_fC c_fC m_bm a85 n85 n85 _ (m87.ownK (Rs := [R.row b_b 153 true [.int .i64 bi, .slice a_bL n_bL c_bL, .slice a_c0_2 n_c0_2 n_c0_2, .slice a_bB n_bB c_bB, .slice a_bC n_bC c_bC, .int .i64 fi, .slice a_fL n_fL c_fL, .slice a_fA n_fA c_fA, .slice a_fB n_fB c_fB, .slice a_fC n_fC c_fC, .map (some m_bm)], R.lst 187 2 a_c0_2 n_c0_2 (cells EP l_c0_2) D_c0_2, R.mp m_bm KP (VI fun x => 0 ≤ x ∧ x / 2 ≤ 200000)])) (wrap64 (by omega) (by omega)) hw_l_c0_2 (wrap64 (by omega) (by omega)) (m87.vlst (i := 3) rfl (by assumption) (by first | omega | (simp only [splice, List.length_append, List.length_set, List.length_replicate, List.length_map, List.length_take, List.length_drop, List.length_cons, List.length_nil] <;> omega))) (sepCons (m87.sepLst (k := 3) (i := 0) rfl rfl (by decide)) (sepCons (m87.sepLst (k := 3) (i := 1) rfl rfl (by decide)) (sepCons (m87.sepLst (k := 3) (i := 2) rfl rfl (by decide)) sepEnd))) (by first | omega | assumption) (by first | omega | assumption) (by first | assumption | exact all_nil)) fun v88 H88 q88 => ?_
        obtain ⟨z88, a88, n88, xs88, D88, hv88, mc88, p88_0, p88_1, p88_2⟩ := q88
        dsimp only at hv88 mc88
        subst hv88
        have m89 := m87.seqK (Rs := [R.row b_b 153 true [.int .i64 bi, .slice a_bL n_bL c_bL, .slice a_c0_2 n_c0_2 n_c0_2, .slice a_bB n_bB c_bB, .slice a_bC n_bC c_bC, .int .i64 fi, .slice a_fL n_fL c_fL, .slice a_fA n_fA c_fA, .slice a_fB n_fB c_fB, .slice a_fC n_fC c_fC, .map (some m_bm)], R.lst 187 2 a_c0_2 n_c0_2 (cells EP l_c0_2) D_c0_2, R.mp m_bm KP (VI fun x => 0 ≤ x ∧ x / 2 ≤ 200000)]) mc88
        have ll88_1 : xs88.length = n88 := m89.lstLen (E := EP) (i := 1) rfl
        refine KO.pv (PV.fieldAddr fo157_1_B17 rfl) rfl rfl ?_
        refine KO.storeM m89 (i := 4) rfl sz3_B17 rfl rfl rfl (show 1 + 1 ≤ 3 by decide) (show _ = [.slice a_c12_0 n_c12_0 n_c12_0, .int .i64 z88, .int .i64 0] from rfl) rfl fun H90 m91 => ?_
        refine KO.nil ?_
        refine KC.seq ?_
        refine KC.region ?_
        refine KO.pv (PV.move rfl) rfl rfl ?_
        refine KO.pv (PV.move rfl) rfl rfl ?_
        refine KO.pv (PV.move rfl) rfl rfl ?_
        refine KO.pv (PV.nilCheck rfl) rfl rfl ?_
        refine KO.pv (PV.fieldAddr fo153_1_B17 rfl) rfl rfl ?_
        refine KO.pv (PV.fieldAddr fo26_4_B17 rfl) rfl rfl ?_
        refine KO.load1 ag24_B17 rfl (m91.row (i := 0) rfl) rfl rfl rfl ?_
        refine KO.callV rfl rfl rfl rfl rfl (pref_all H90 a_fC n_fC c_fC _ H26.next H3.next a_c7_0b n_c7_0b n_c7_0b _ (V.mem m91 h_fC s_fC) (m91.row (i := 5) rfl) (m91.blt (i := 5) rfl) (m91.row (i := 6) rfl) (m91.blt (i := 6) rfl) (m91.lxV (i := 7) rfl hw_l_c7_0b (by first | omega | (simp only [splice, List.length_append, List.length_set, List.length_replicate, List.length_map, List.length_take, List.length_drop, List.length_cons, List.length_nil] <;> omega))) (by first | omega | assumption) (fun u hu => by have := ok_hc u hu; omega) (by first | assumption | exact all_nil)) fun v92 H92 q92 => ?_
        obtain ⟨a92, n92, xs92, D92, hv92, mc92, p92_0, p92_1, p92_2⟩ := q92
        dsimp only at hv92 mc92
        subst hv92
        have m93 := m91.seq mc92
        have m94 : Mem ([b_b] ++ (D_bA ++ ([m_bm] ++ []))) H H92 [R.row b_b 153 true [.int .i64 bi, .slice a_bL n_bL c_bL, .slice a88 n88 n88, .slice a_bB n_bB c_bB, .slice a_bC n_bC c_bC, .int .i64 fi, .slice a_fL n_fL c_fL, .slice a_fA n_fA c_fA, .slice a_fB n_fB c_fB, .slice a_fC n_fC c_fC, .map (some m_bm)], R.lst 187 2 a88 n88 (cells EP xs88) D88, R.mp m_bm KP (VI fun x => 0 ≤ x ∧ x / 2 ≤ 200000), R.lst 3 1 a92 n92 (cells (EI .i64) xs92) D92, R.lst 3 1 a85 n85 (cells (EI .i64) xs85) D85, R.row A32.next 157 true [.slice a_c12_0 n_c12_0 n_c12_0, .int .i64 z88, .int .i64 0], R.row H26.next 225 true [.func (.func 149) #[] #[.pointer (some ⟨H3.next, 0, none⟩)]], R.row H3.next 24 true [.slice a_c7_0b n_c7_0b n_c7_0b], R.lx 3 1 a_c7_0b n_c7_0b (cells (EI .i64) l_c7_0b) D_c7_0b, R.row H.next 157 true [.slice none 0 0, .int .i64 0, .int .i64 0], R.lst 3 1 a_c12_0 n_c12_0 (cells (EI .i64) l_c12_0) D_c12_0] := m93.pick [1, 2, 3, 0, 4, 5, 6, 7, 8, 9, 10] (by decide) rfl
        refine KO.call rfl rfl rfl rfl (pref_chain_and H92 b_b bi a_bL n_bL c_bL _ _ _ D88 a_bB n_bB c_bB a_bC n_bC c_bC fi a_fL n_fL c_fL a_fA n_fA c_fA a_fB n_fB c_fB a_fC n_fC c_fC m_bm 1 a92 n92 n92 _ (m94.ownK (Rs := [R.row b_b 153 true [.int .i64 bi, .slice a_bL n_bL c_bL, .slice a88 n88 n88, .slice a_bB n_bB c_bB, .slice a_bC n_bC c_bC, .int .i64 fi, .slice a_fL n_fL c_fL, .slice a_fA n_fA c_fA, .slice a_fB n_fB c_fB, .slice a_fC n_fC c_fC, .map (some m_bm)], R.lst 187 2 a88 n88 (cells EP xs88) D88, R.mp m_bm KP (VI fun x => 0 ≤ x ∧ x / 2 ≤ 200000)])) (wrap64 (by omega) (by omega)) (by assumption) (wrap64 (by omega) (by omega)) (wrap64 (by omega) (by omega)) (m94.vlst (i := 3) rfl (by assumption) (by first | omega | (simp only [splice, List.length_append, List.length_set, List.length_replicate, List.length_map, List.length_take, List.length_drop, List.length_cons, List.length_nil] <;> omega))) (sepCons (m94.sepLst (k := 3) (i := 0) rfl rfl (by decide)) (sepCons (m94.sepLst (k := 3) (i := 1) rfl rfl (by decide)) (sepCons (m94.sepLst (k := 3) (i := 2) rfl rfl (by decide)) sepEnd))) (by first | omega | assumption) (by first | omega | assumption) (by first | omega | assumption) (by first | assumption | exact all_nil)) fun v95 H95 q95 => ?_
        obtain ⟨z95, a95, n95, xs95, D95, hv95, mc95, p95_0, p95_1, p95_2⟩ := q95
        dsimp only at hv95 mc95
        subst hv95
        have m96 := m94.seqK (Rs := [R.row b_b 153 true [.int .i64 bi, .slice a_bL n_bL c_bL, .slice a88 n88 n88, .slice a_bB n_bB c_bB, .slice a_bC n_bC c_bC, .int .i64 fi, .slice a_fL n_fL c_fL, .slice a_fA n_fA c_fA, .slice a_fB n_fB c_fB, .slice a_fC n_fC c_fC, .map (some m_bm)], R.lst 187 2 a88 n88 (cells EP xs88) D88, R.mp m_bm KP (VI fun x => 0 ≤ x ∧ x / 2 ≤ 200000)]) mc95
        have ll95_1 : xs95.length = n95 := m96.lstLen (E := EP) (i := 1) rfl
        refine KO.pv (PV.fieldAddr fo157_2_B17 rfl) rfl rfl ?_
        refine KO.storeM m96 (i := 5) rfl sz3_B17 rfl rfl rfl (show 2 + 1 ≤ 3 by decide) (show _ = [.slice a_c12_0 n_c12_0 n_c12_0, .int .i64 z88, .int .i64 z95] from rfl) rfl fun H97 m98 => ?_
        refine KO.nil ?_
        refine KC.seq ?_
        refine KC.region ?_
        refine KO.loadN ag157_B17 sz157_B17 rfl (m98.row (i := 5) rfl) (takeN_of (p := [.slice a_c12_0 n_c12_0 n_c12_0, .int .i64 z88, .int .i64 z95]) rfl  rfl) rfl rfl ?_
        refine KO.storeM m98 (i := 9) rfl sz157_B17 rfl rfl rfl (show 0 + 3 ≤ 3 by decide) (show _ = [.slice a_c12_0 n_c12_0 n_c12_0, .int .i64 z88, .int .i64 z95] from rfl) rfl fun H99 m100 => ?_
        refine KO.nil ?_
        exact KC.ret ⟨rfl, _, (.cell rfl (ldN (m100.row (i := 9) rfl) ag157_B17 sz157_B17 rfl rfl) .nil), a_c12_0, n_c12_0, z88, z95, l_c12_0, D_c12_0, a95, n95, xs95, D95, rfl, m100.pick [0, 1, 2, 10] (by decide) rfl, (by first | omega | (intro h; omega) | (simp only [List.length_nil, true_and, and_true, or_true, true_or] <;> omega)), (by first | omega | (intro h; omega) | (simp only [List.length_nil, true_and, and_true, or_true, true_or] <;> omega)), (by first | omega | (intro h; omega) | (simp only [List.length_nil, true_and, and_true, or_true, true_or] <;> omega)), (by first | omega | (intro h; omega) | (simp only [List.length_nil, true_and, and_true, or_true, true_or] <;> omega)), (by first | omega | (intro h; omega) | (simp only [List.length_nil, true_and, and_true, or_true, true_or] <;> omega) | assumption), (by first | omega | (intro h; omega) | (simp only [List.length_nil, true_and, and_true, or_true, true_or] <;> omega) | assumption), (by first | omega | (intro h; omega) | (simp only [List.length_nil, true_and, and_true, or_true, true_or] <;> omega) | assumption)⟩
theorem pref_begin (H : AHeap) (ci : Int) (a_cL : Option Addr) (n_cL c_cL : Nat) (cL : List (Int × Int)) (a_cA : Option Addr) (n_cA c_cA : Nat) (cA : List (Int × Int)) (a_cB : Option Addr) (n_cB c_cB : Nat) (cB : List Int) (a_cC : Option Addr) (n_cC c_cC : Nat) (cC : List Int) (k : Int) (a_q : Option Addr) (n_q c_q : Nat) (w_ci : IntKind.i64.wrap ci = ci) (h_cL : V EP H a_cL n_cL c_cL cL) (h_cA : V EP H a_cA n_cA c_cA cA) (h_cB : V (EI .i64) H a_cB n_cB c_cB cB) (h_cC : V (EI .i64) H a_cC n_cC c_cC cC) (w_k : IntKind.i64.wrap k = k) : WF E0 89 [.agg #[.int .i64 ci, .slice a_cL n_cL c_cL, .slice a_cA n_cA c_cA, .slice a_cB n_cB c_cB, .slice a_cC n_cC c_cC], .int .i64 k, .slice a_q n_q c_q] H fun q => ∃ (b : Nat) (m : Nat), q.1 = .pointer (some ⟨b, 0, none⟩) ∧ Mem [] H q.2 [R.row b 153 true [.int .i64 k, .slice a_q n_q c_q, .slice none 0 0, .slice none 0 0, .slice none 0 0, .int .i64 ci, .slice a_cL n_cL c_cL, .slice a_cA n_cA c_cA, .slice a_cB n_cB c_cB, .slice a_cC n_cC c_cC, .map (some m)], R.mp m KP (VI fun x => 0 ≤ x ∧ x / 2 ≤ 200000)] := by
  obtain ⟨lo_ci, hi_ci⟩ := rangei64 w_ci
  obtain ⟨len_cL, cap_cL, max_cL, wf_cL⟩ := h_cL.len
  obtain ⟨len_cA, cap_cA, max_cA, wf_cA⟩ := h_cA.len
  obtain ⟨len_cB, cap_cB, max_cB, wf_cB⟩ := h_cB.len
  obtain ⟨len_cC, cap_cC, max_cC, wf_cC⟩ := h_cC.len
  obtain ⟨lo_k, hi_k⟩ := rangei64 w_k
  have m0 : Mem [] H H [] := Mem.start
  refine WF.kg Tryz.func89 rfl rfl ?_
  refine KC.seq ?_
  refine KC.region ?_
  refine KO.boxM m0 rfl rfl (show _ = [.int .i64 ci, .slice a_cL n_cL c_cL, .slice a_cA n_cA c_cA, .slice a_cB n_cB c_cB, .slice a_cC n_cC c_cC] from rfl) rfl rfl fun H1 m2 => ?_
  refine KO.pv (PV.assign rfl) rfl rfl ?_
  refine KO.nil ?_
  refine KC.seq ?_
  refine KC.region ?_
  refine KO.pv (PV.move rfl) rfl rfl ?_
  refine KO.pv (PV.move rfl) rfl rfl ?_
  refine KO.pv (PV.build rfl (bl26_0i64_1s_B17 _ _ _ _)) rfl rfl ?_
  refine KO.loadN ag26_B17 sz26_B17 rfl (m2.row (i := 0) rfl) (takeN_of (p := [.int .i64 ci, .slice a_cL n_cL c_cL, .slice a_cA n_cA c_cA, .slice a_cB n_cB c_cB, .slice a_cC n_cC c_cC]) rfl  rfl) rfl rfl ?_
  refine KO.makeMap KP (VI fun x => 0 ≤ x ∧ x / 2 ≤ 200000) m2 rfl rfl fun H3 m4 => ?_
  refine KO.pv (PV.build rfl (bl153_0Ai64ssss_1Ai64ssss_2m_B17 _ _ _ _ _ _ _ _ _ _ _ _ _ _ _ _ _ _ _ _ _ _ _ _ _ _ _)) rfl rfl ?_
  refine KO.boxM m4 rfl rfl (show _ = [.int .i64 k, .slice a_q n_q c_q, .slice none 0 0, .slice none 0 0, .slice none 0 0, .int .i64 ci, .slice a_cL n_cL c_cL, .slice a_cA n_cA c_cA, .slice a_cB n_cB c_cB, .slice a_cC n_cC c_cC, .map (some H1.next)] from rfl) rfl rfl fun H5 m6 => ?_
  refine KO.pv (PV.assign rfl) rfl rfl ?_
  refine KO.nil ?_
  exact KC.ret ⟨rfl, _, (.tmp rfl .nil), H3.next, H1.next, rfl, m6.pick [0, 1] (by decide) rfl⟩
theorem pref_copied (H : AHeap) (ci : Int) (a_cL : Option Addr) (n_cL c_cL : Nat) (cL : List (Int × Int)) (a_cA : Option Addr) (n_cA c_cA : Nat) (cA : List (Int × Int)) (a_cB : Option Addr) (n_cB c_cB : Nat) (cB : List Int) (a_cC : Option Addr) (n_cC c_cC : Nat) (cC : List Int) (w_ci : IntKind.i64.wrap ci = ci) (h_cL : V EP H a_cL n_cL c_cL cL) (h_cA : V EP H a_cA n_cA c_cA cA) (h_cB : V (EI .i64) H a_cB n_cB c_cB cB) (h_cC : V (EI .i64) H a_cC n_cC c_cC cC) (h0 : n_cL ≤ 1000 ∧ n_cA ≤ 1000 ∧ n_cB ≤ 100 ∧ n_cC ≤ 100) : WF E0 98 [.agg #[.int .i64 ci, .slice a_cL n_cL c_cL, .slice a_cA n_cA c_cA, .slice a_cB n_cB c_cB, .slice a_cC n_cC c_cC]] H fun q => ∃ (a1 : Option Addr) (n1 : Nat) (l1 : List (Int × Int)) (D1 : List Nat) (a2 : Option Addr) (n2 : Nat) (l2 : List (Int × Int)) (D2 : List Nat) (a3 : Option Addr) (n3 : Nat) (l3 : List Int) (D3 : List Nat) (a4 : Option Addr) (n4 : Nat) (l4 : List Int) (D4 : List Nat), q.1 = .agg #[.int .i64 ci, .slice a1 n1 n1, .slice a2 n2 n2, .slice a3 n3 n3, .slice a4 n4 n4] ∧ Mem [] H q.2 [R.lst 150 2 a1 n1 (cells EP l1) D1, R.lst 187 2 a2 n2 (cells EP l2) D2, R.lst 3 1 a3 n3 (cells (EI .i64) l3) D3, R.lst 3 1 a4 n4 (cells (EI .i64) l4) D4] ∧ (n1 = n_cL ∧ n2 = n_cA ∧ n3 = n_cB ∧ n4 = n_cC) ∧ (∀ u ∈ l1, EP.wf u) ∧ (∀ u ∈ l2, EP.wf u) ∧ (∀ u ∈ l3, (EI .i64).wf u) ∧ (∀ u ∈ l4, (EI .i64).wf u) := by
  obtain ⟨lo_ci, hi_ci⟩ := rangei64 w_ci
  obtain ⟨len_cL, cap_cL, max_cL, wf_cL⟩ := h_cL.len
  obtain ⟨len_cA, cap_cA, max_cA, wf_cA⟩ := h_cA.len
  obtain ⟨len_cB, cap_cB, max_cB, wf_cB⟩ := h_cB.len
  obtain ⟨len_cC, cap_cC, max_cC, wf_cC⟩ := h_cC.len
  have m0 : Mem [] H H [] := Mem.start
  refine WF.kg Tryz.func98 rfl rfl ?_
  refine KC.seq ?_
  refine KC.region ?_
  refine KO.boxM m0 rfl rfl (show _ = [.int .i64 ci, .slice a_cL n_cL c_cL, .slice a_cA n_cA c_cA, .slice a_cB n_cB c_cB, .slice a_cC n_cC c_cC] from rfl) rfl rfl fun H1 m2 => ?_
  refine KO.allocM m2 zt26_B17 rfl rfl fun H3 m4 => ?_
  refine KO.nil ?_
  refine KC.seq ?_
  refine KC.drawG (n := 10) (anc := [0, 1, 3, 0, 8, 31, 31, 127, 255, 511]) (hv := [2, 5, 7, 9]) (ord := [0, 1, 2, 3, 4, 5, 6, 7, 8, 9]) (by kernel_rfl) (by kernel_rfl) (by kernel_rfl) (by kernel_rfl) (by kernel_rfl) fun H5 n6 g7 => ?_
  have m8 := m4.room n6 g7 [] (by decide) (by decide)
  refine KD.pv 1 (PV.fieldAddr fo26_1_B17 rfl) rfl rfl rfl (by kernel_rfl) rfl rfl rfl ?_
  refine KD.load 3 rfl (m8.row (i := 1) rfl) (by rw [read1 ag22_B17]; exact rfl) (pastGo (k := 1) (l := [H5]) (by kernel_rfl) rfl (pastCons ⟨_, (m8.row (i := 1) rfl), (by rw [read1 ag22_B17]; exact rfl)⟩ pastNil)) veq_sl rfl (by kernel_rfl) rfl rfl rfl ?_
  refine KD.call 7 rfl rfl rfl (by kernel_rfl) rfl rfl rfl (Clone_api_Latch H5 a_cL n_cL c_cL _ (V.mem m8 h_cL) (by first | omega | assumption)) fun v9 H9 q9 => ?_
  obtain ⟨a9, n9, xs9, D9, hv9, mc9, p9_0, p9_1, p9_2, p9_3⟩ := q9
  dsimp only at hv9 mc9
  subst hv9
  have m10 := m8.seq mc9
  refine KD.pv 15 (PV.fieldAddr fo26_2_B17 rfl) rfl rfl rfl (by kernel_rfl) rfl rfl rfl ?_
  refine KD.load 31 rfl (m10.row (i := 2) rfl) (by rw [read1 ag23_B17]; exact rfl) (pastGo (k := 2) (l := [H9, H5]) (by kernel_rfl) rfl (pastCons ⟨_, (m10.row (i := 2) rfl), (by rw [read1 ag23_B17]; exact rfl)⟩ (pastCons ⟨_, (m8.row (i := 1) rfl), (by rw [read1 ag23_B17]; exact rfl)⟩ pastNil))) veq_sl rfl (by kernel_rfl) rfl rfl rfl ?_
  refine KD.call 63 rfl rfl rfl (by kernel_rfl) rfl rfl rfl (Clone_api_And H9 a_cA n_cA c_cA _ (V.mem m10 h_cA) (by first | omega | assumption)) fun v11 H11 q11 => ?_
  obtain ⟨a11, n11, xs11, D11, hv11, mc11, p11_0, p11_1, p11_2, p11_3⟩ := q11
  dsimp only at hv11 mc11
  subst hv11
  have m12 := m10.seq mc11
  refine KD.pv 127 (PV.fieldAddr fo26_1_B17 rfl) rfl rfl rfl (by kernel_rfl) rfl rfl rfl ?_
  refine KD.storeM 255 m12 (j := 3) rfl sz22_B17 rfl rfl rfl (show 1 + 1 ≤ 5 by decide) (show _ = [.int .i64 ci, .slice a9 n9 n9, .slice a_cA n_cA c_cA, .slice a_cB n_cB c_cB, .slice a_cC n_cC c_cC] from rfl) rfl (by kernel_rfl) rfl rfl fun H13 m14 => ?_
  refine KD.pv 511 (PV.fieldAddr fo26_2_B17 rfl) rfl rfl rfl (by kernel_rfl) rfl rfl rfl ?_
  refine KD.storeM 1023 m14 (j := 3) rfl sz23_B17 rfl rfl rfl (show 2 + 1 ≤ 5 by decide) (show _ = [.int .i64 ci, .slice a9 n9 n9, .slice a11 n11 n11, .slice a_cB n_cB c_cB, .slice a_cC n_cC c_cC] from rfl) rfl (by kernel_rfl) rfl rfl fun H15 m16 => ?_
  refine KD.nil ⟨rfl, ?_⟩
  refine KC.seq ?_
  refine KC.drawG (n := 10) (anc := [0, 1, 3, 0, 8, 31, 31, 127, 255, 511]) (hv := [2, 5, 7, 9]) (ord := [0, 1, 2, 3, 4, 5, 6, 7, 8, 9]) (by kernel_rfl) (by kernel_rfl) (by kernel_rfl) (by kernel_rfl) (by kernel_rfl) fun H17 n18 g19 => ?_
  have m20 := m16.room n18 g19 [] (by decide) (by decide)
  refine KD.pv 1 (PV.fieldAddr fo26_3_B17 rfl) rfl rfl rfl (by kernel_rfl) rfl rfl rfl ?_
  refine KD.load 3 rfl (m20.row (i := 3) rfl) (by rw [read1 ag24_B17]; exact rfl) (pastGo (k := 1) (l := [H17]) (by kernel_rfl) rfl (pastCons ⟨_, (m20.row (i := 3) rfl), (by rw [read1 ag24_B17]; exact rfl)⟩ pastNil)) veq_sl rfl (by kernel_rfl) rfl rfl rfl ?_
  refine KD.call 7 rfl rfl rfl (by kernel_rfl) rfl rfl rfl (Clone_int H17 a_cB n_cB c_cB _ (V.mem m20 h_cB) (by first | omega | assumption)) fun v21 H21 q21 => ?_
  obtain ⟨a21, n21, xs21, D21, hv21, mc21, p21_0, p21_1, p21_2, p21_3⟩ := q21
  dsimp only at hv21 mc21
  subst hv21
  have m22 := m20.seq mc21
  refine KD.pv 15 (PV.fieldAddr fo26_4_B17 rfl) rfl rfl rfl (by kernel_rfl) rfl rfl rfl ?_
  refine KD.load 31 rfl (m22.row (i := 4) rfl) (by rw [read1 ag24_B17]; exact rfl) (pastGo (k := 2) (l := [H21, H17]) (by kernel_rfl) rfl (pastCons ⟨_, (m22.row (i := 4) rfl), (by rw [read1 ag24_B17]; exact rfl)⟩ (pastCons ⟨_, (m20.row (i := 3) rfl), (by rw [read1 ag24_B17]; exact rfl)⟩ pastNil))) veq_sl rfl (by kernel_rfl) rfl rfl rfl ?_
  refine KD.call 63 rfl rfl rfl (by kernel_rfl) rfl rfl rfl (Clone_int H21 a_cC n_cC c_cC _ (V.mem m22 h_cC) (by first | omega | assumption)) fun v23 H23 q23 => ?_
  obtain ⟨a23, n23, xs23, D23, hv23, mc23, p23_0, p23_1, p23_2, p23_3⟩ := q23
  dsimp only at hv23 mc23
  subst hv23
  have m24 := m22.seq mc23
  refine KD.pv 127 (PV.fieldAddr fo26_3_B17 rfl) rfl rfl rfl (by kernel_rfl) rfl rfl rfl ?_
  refine KD.storeM 255 m24 (j := 5) rfl sz24_B17 rfl rfl rfl (show 3 + 1 ≤ 5 by decide) (show _ = [.int .i64 ci, .slice a9 n9 n9, .slice a11 n11 n11, .slice a21 n21 n21, .slice a_cC n_cC c_cC] from rfl) rfl (by kernel_rfl) rfl rfl fun H25 m26 => ?_
  refine KD.pv 511 (PV.fieldAddr fo26_4_B17 rfl) rfl rfl rfl (by kernel_rfl) rfl rfl rfl ?_
  refine KD.storeM 1023 m26 (j := 5) rfl sz24_B17 rfl rfl rfl (show 4 + 1 ≤ 5 by decide) (show _ = [.int .i64 ci, .slice a9 n9 n9, .slice a11 n11 n11, .slice a21 n21 n21, .slice a23 n23 n23] from rfl) rfl (by kernel_rfl) rfl rfl fun H27 m28 => ?_
  refine KD.nil ⟨rfl, ?_⟩
  refine KC.seq ?_
  refine KC.region ?_
  refine KO.loadN ag26_B17 sz26_B17 rfl (m28.row (i := 5) rfl) (takeN_of (p := [.int .i64 ci, .slice a9 n9 n9, .slice a11 n11 n11, .slice a21 n21 n21, .slice a23 n23 n23]) rfl  rfl) rfl rfl ?_
  refine KO.storeM m28 (i := 4) rfl sz26_B17 rfl rfl rfl (show 0 + 5 ≤ 5 by decide) (show _ = [.int .i64 ci, .slice a9 n9 n9, .slice a11 n11 n11, .slice a21 n21 n21, .slice a23 n23 n23] from rfl) rfl fun H29 m30 => ?_
  refine KO.nil ?_
  exact KC.ret ⟨rfl, _, (.cell rfl (ldN (m30.row (i := 4) rfl) ag26_B17 sz26_B17 rfl rfl) .nil), a9, n9, xs9, D9, a11, n11, xs11, D11, a21, n21, xs21, D21, a23, n23, xs23, D23, rfl, m30.pick [3, 2, 1, 0] (by decide) rfl, (by first | omega | (intro h; omega) | (simp only [List.length_nil, true_and, and_true, or_true, true_or] <;> omega)), (by first | omega | (intro h; omega) | (simp only [List.length_nil, true_and, and_true, or_true, true_or] <;> omega) | (exact fun u hu => p9_3 u hu)), (by first | omega | (intro h; omega) | (simp only [List.length_nil, true_and, and_true, or_true, true_or] <;> omega) | (exact fun u hu => p11_3 u hu)), (by first | omega | (intro h; omega) | (simp only [List.length_nil, true_and, and_true, or_true, true_or] <;> omega) | (exact fun u hu => p21_3 u hu)), (by first | omega | (intro h; omega) | (simp only [List.length_nil, true_and, and_true, or_true, true_or] <;> omega) | (exact fun u hu => p23_3 u hu))⟩
theorem pref_in (H : AHeap) (f0 : Int) (b_c : Nat) (ci : Int) (a_cL : Option Addr) (n_cL c_cL : Nat) (a_cA : Option Addr) (n_cA c_cA : Nat) (a_cB : Option Addr) (n_cB c_cB : Nat) (a_cC : Option Addr) (n_cC c_cC : Nat) (b_u : Nat) (uk : Int) (up : Int) (a_uF : Option Addr) (n_uF c_uF : Nat) (a_uI : Option Addr) (n_uI : Nat) (v_uI : List (Option Addr × Nat × Nat)) (D_uI : List Nat) (uI : List (List Int)) (E_uI : List Nat) (a_uL : Option Addr) (n_uL c_uL : Nat) (a_uA : Option Addr) (n_uA c_uA : Nat) (ul : Int)  (w_f0 : IntKind.i64.wrap f0 = f0) (h_g : Mem ([b_c] ++ ([b_u] ++ (D_uI ++ (E_uI ++ [])))) H H [R.row b_c 26 true [.int .i64 ci, .slice a_cL n_cL c_cL, .slice a_cA n_cA c_cA, .slice a_cB n_cB c_cB, .slice a_cC n_cC c_cC], R.row b_u 38 true [.int .i64 uk, .int .i64 up, .slice a_uF n_uF c_uF, .slice a_uI n_uI n_uI, .slice a_uL n_uL c_uL, .slice a_uA n_uA c_uA, .int .i64 ul], R.lst 24 1 a_uI n_uI (cells ES v_uI) D_uI, R.inn (EI .i64) v_uI uI E_uI]) (w_ci : IntKind.i64.wrap ci = ci) (w_uk : IntKind.i64.wrap uk = uk) (w_up : IntKind.i64.wrap up = up) (w_ul : IntKind.i64.wrap ul = ul) (h0 : 0 ≤ ci ∧ ci ≤ 1000 ∧ 0 ≤ f0 ∧ f0 ≤ 20000 ∧ n_uI ≤ 100) (hk : ∀ c ∈ uI, c.length ≤ 1000) : WF E0 92 [.int .i64 f0, .pointer (some ⟨b_c, 0, none⟩), .pointer (some ⟨b_u, 0, none⟩)] H fun q => ∃ (a : Option Addr) (n : Nat) (v : List (Option Addr × Nat × Nat)) (D : List Nat) (x : List (List Int)) (E : List Nat), q.1 = .tuple #[] ∧ Mem ([b_c] ++ ([b_u] ++ (D_uI ++ (E_uI ++ [])))) H q.2 [R.row b_c 26 true [.int .i64 ci, .slice a_cL n_cL c_cL, .slice a_cA n_cA c_cA, .slice a_cB n_cB c_cB, .slice a_cC n_cC c_cC], R.row b_u 38 true [.int .i64 uk, .int .i64 up, .slice a_uF n_uF c_uF, .slice a n n, .slice a_uL n_uL c_uL, .slice a_uA n_uA c_uA, .int .i64 ul], R.lst 24 1 a n (cells ES v) D, R.inn (EI .i64) v x E] ∧ (n = n_uI + 1 ∧ v.length = n) ∧ (∀ c ∈ x, c.length ≤ 1000) := by
  obtain ⟨lo_f0, hi_f0⟩ := rangei64 w_f0
  obtain ⟨lo_ci, hi_ci⟩ := rangei64 w_ci
  obtain ⟨lo_uk, hi_uk⟩ := rangei64 w_uk
  obtain ⟨lo_up, hi_up⟩ := rangei64 w_up
  have len_uI : v_uI.length = n_uI := h_g.lstLen (E := ES) (i := 2) rfl
  have len2_uI := h_g.innLen (i := 3) rfl
  obtain ⟨lo_ul, hi_ul⟩ := rangei64 w_ul
  have m0 := h_g
  refine WF.kg Tryz.func92 rfl rfl ?_
  refine KC.seq ?_
  refine KC.region ?_
  refine KO.pv (PV.assign rfl) rfl rfl ?_
  refine KO.nil ?_
  refine KC.seq ?_
  refine KC.seq ?_
  refine KC.region ?_
  refine KO.pv (PV.fieldAddr fo26_0_B17 rfl) rfl rfl ?_
  refine KO.load1 ag3_B17 rfl (m0.row (i := 0) rfl) rfl rfl rfl ?_
  refine KO.pv (PV.move rfl) rfl rfl ?_
  refine KO.nil ?_
  refine KC.block ?_
  refine KC.sub (l' := [(0, .int .i64 f0), (2, .pointer (some ⟨b_u, 0, none⟩)), (4, .slice none 0 0), (7, .int .i64 ci), (8, .int .i64 0)]) (.cons rfl (.cons rfl (.cons rfl (.cons rfl (.cons rfl .nil))))) ?_
  have m1 := m0.lnilC (EI .i64) (e := 3) none rfl
  refine KC.loopN (fun kq lq A => ∃ (a4 : Option Addr) (n4 : Nat) (l4 : List Int) (D4 : List Nat) (x8 : Int), kq = (ci - x8).toNat ∧ lq = [(0, .int .i64 f0), (2, .pointer (some ⟨b_u, 0, none⟩)), (4, .slice a4 n4 n4), (7, .int .i64 ci), (8, .int .i64 x8)] ∧ Mem ([b_c] ++ ([b_u] ++ (D_uI ++ (E_uI ++ [])))) H A [R.lst 3 1 a4 n4 (cells (EI .i64) l4) D4, R.row b_c 26 true [.int .i64 ci, .slice a_cL n_cL c_cL, .slice a_cA n_cA c_cA, .slice a_cB n_cB c_cB, .slice a_cC n_cC c_cC], R.row b_u 38 true [.int .i64 uk, .int .i64 up, .slice a_uF n_uF c_uF, .slice a_uI n_uI n_uI, .slice a_uL n_uL c_uL, .slice a_uA n_uA c_uA, .int .i64 ul], R.lst 24 1 a_uI n_uI (cells ES v_uI) D_uI, R.inn (EI .i64) v_uI uI E_uI] ∧ (0 ≤ x8 ∧ x8 ≤ ci) ∧ (l4.length = n4) ∧ (∀ u ∈ l4, (EI .i64).wf u) ∧ ((n4 : Int) = x8)) ?_ ((ci - 0).toNat) ⟨none, 0, [], [], 0, rfl, rfl, (m1.pick [0, 1, 2, 3, 4] (by decide) rfl), (by first | omega | assumption | (constructor <;> omega)), (by first | omega | (simp only [splice, List.length_append, List.length_set, List.length_replicate, List.length_map, List.length_take, List.length_drop, List.length_cons, List.length_nil] <;> omega)), (fun _ h => absurd h List.not_mem_nil), (by first | omega | (simp only [splice, List.length_append, List.length_set, List.length_replicate, List.length_map, List.length_take, List.length_drop, List.length_cons, List.length_nil] <;> omega))⟩
  rintro kq lq A2 ⟨a4, n4, l4, D4, x8, rfl, rfl, m3, hr2, hl_l4, hw_l4, hn4⟩
  refine KC.seq ?_
  refine KC.region ?_
  refine KO.pv (PV.lssD rfl rfl rfl) rfl rfl ?_
  refine KO.nil ?_
  refine KC.seq ?_
  refine KC.condD rfl (fun h4 => ?_) (fun h4 => ?_)
  · refine KC.skip ?_
    refine KC.seq ?_
    refine KC.block ?_
    refine KC.seq ?_
    refine KC.region ?_
    refine KO.pv (PV.move rfl) rfl rfl ?_
    refine KO.pv (PV.assign rfl) rfl rfl ?_
    refine KO.nil ?_
    refine KC.region ?_
    refine KO.pv (PV.move rfl) rfl rfl ?_
    refine KO.pv (PV.move rfl) rfl rfl ?_
    refine KO.pv (PV.move rfl) rfl rfl ?_
    refine KO.pv (PV.add rfl rfl (wrap64 (by omega) (by omega))) rfl rfl ?_
    refine KO.pv (PV.mul rfl rfl (wrap64 (by omega) (by omega))) rfl rfl ?_
    refine KO.buildSliceM m3 el24_B17 ez3_B17 rfl rfl (show _ = some [.int .i64 (2 * (f0 + x8))] from rfl) rfl rfl fun H5 m6 => ?_
    refine KO.appendC (C := (EI .i64)) m6 (i := 1) rfl el24_B17 ez3_B17 sb3_B17 un24_B17 rfl rfl (newElems_row1 (C := (EI .i64)) (y := (2 * (f0 + x8))) (m6.row (i := 0) rfl) rfl) rfl (by first | omega | (simp only [splice, List.length_append, List.length_set, List.length_replicate, List.length_map, List.length_take, List.length_drop, List.length_cons, List.length_nil] <;> omega)) rfl rfl fun a8 D9 H7 m10 => ?_
    refine KO.pv (PV.assign rfl) rfl rfl ?_
    refine KO.nil ?_
    refine KC.region ?_
    refine KO.pv (PV.add rfl rfl (wrap64 (by omega) (by omega))) rfl rfl ?_
    refine KO.pv (PV.move rfl) rfl rfl ?_
    refine KO.nil ?_
    exact ⟨_, _, (by omega), (.cons rfl (.cons rfl (.cons rfl (.cons rfl (.cons rfl .nil))))), a8, (n4 + 1), (l4 ++ [(2 * (f0 + x8))]), D9, (x8 + 1), rfl, rfl, (m10.pick [1, 2, 3, 4, 5] (by decide) rfl), (by first | omega | assumption | (constructor <;> omega)), (by first | omega | (simp only [splice, List.length_append, List.length_set, List.length_replicate, List.length_map, List.length_take, List.length_drop, List.length_cons, List.length_nil] <;> omega)), (all_app hw_l4 (all_one (wf64 (by omega) (by omega)))), (by first | omega | (simp only [splice, List.length_append, List.length_set, List.length_replicate, List.length_map, List.length_take, List.length_drop, List.length_cons, List.length_nil] <;> omega))⟩
  · refine KC.exit ?_
    refine KC.region ?_
    refine KO.pv (PV.fieldAddr fo38_3_B17 rfl) rfl rfl ?_
    refine KO.load1 ag34_B17 rfl (m3.row (i := 2) rfl) rfl rfl rfl ?_
    refine KO.pv (PV.move rfl) rfl rfl ?_
    refine KO.buildSliceM m3 el34_B17 ez24_B17 rfl rfl (show _ = some [.slice a4 n4 n4] from rfl) rfl rfl fun H11 m12 => ?_
    refine KO.appendC (C := ES) m12 (i := 4) rfl el34_B17 ez24_B17 sb24_B17 un34_B17 rfl rfl (newElems_row1 (C := ES) (y := (a4, n4, n4)) (m12.row (i := 0) rfl) rfl) rfl (by first | omega | (simp only [splice, List.length_append, List.length_set, List.length_replicate, List.length_map, List.length_take, List.length_drop, List.length_cons, List.length_nil] <;> omega)) rfl rfl fun a14 D15 H13 m16 => ?_
    have m17 := m16.ownLst (C := (EI .i64)) (i := 1) rfl hw_l4 (by first | omega | (simp only [splice, List.length_append, List.length_set, List.length_replicate, List.length_map, List.length_take, List.length_drop, List.length_cons, List.length_nil] <;> omega))
    have m18 : Mem ([b_c] ++ ([b_u] ++ (D_uI ++ (E_uI ++ [])))) H H13 [R.inn (EI .i64) v_uI uI E_uI, R.own (EI .i64) a4 n4 n4 l4 D4, R.row A2.next 24 true [.slice a4 n4 n4], R.row b_c 26 true [.int .i64 ci, .slice a_cL n_cL c_cL, .slice a_cA n_cA c_cA, .slice a_cB n_cB c_cB, .slice a_cC n_cC c_cC], R.row b_u 38 true [.int .i64 uk, .int .i64 up, .slice a_uF n_uF c_uF, .slice a_uI n_uI n_uI, .slice a_uL n_uL c_uL, .slice a_uA n_uA c_uA, .int .i64 ul], R.lst 24 1 a14 (n_uI + 1) (cells ES (v_uI ++ [(a4, n4, n4)])) D15] := m17.pick [5, 1, 0, 2, 3, 4] (by decide) rfl
    have m19 := m18.push
    refine KO.pv (PV.fieldAddr fo38_3_B17 rfl) rfl rfl ?_
    refine KO.storeM m19 (i := 3) rfl sz34_B17 rfl rfl rfl (show 3 + 1 ≤ 7 by decide) (show _ = [.int .i64 uk, .int .i64 up, .slice a_uF n_uF c_uF, .slice a14 (n_uI + 1) (n_uI + 1), .slice a_uL n_uL c_uL, .slice a_uA n_uA c_uA, .int .i64 ul] from rfl) rfl fun H20 m21 => ?_
    refine KO.nil ?_
    exact ⟨rfl, _, .nil, a14, (n_uI + 1), (v_uI ++ [(a4, n4, n4)]), D15, (uI ++ [l4]), (E_uI ++ D4), rfl, m21.pick [2, 3, 4, 0] (by decide) rfl, (by first | omega | (intro h; omega) | (simp only [List.length_nil, true_and, and_true, or_true, true_or] <;> omega) | (exact ⟨by omega, by simp only [List.length_append, List.length_cons, List.length_nil]; omega⟩)), (by first | omega | (intro h; omega) | (simp only [List.length_nil, true_and, and_true, or_true, true_or] <;> omega) | (exact all_app hk (all_one (by omega))))⟩
set_option maxHeartbeats 4000000 in
theorem pref_Of (H : AHeap) (ci : Int) (a_cL : Option Addr) (n_cL c_cL : Nat) (cL : List (Int × Int)) (a_cA : Option Addr) (n_cA c_cA : Nat) (cA : List (Int × Int)) (a_cB : Option Addr) (n_cB c_cB : Nat) (cB : List Int) (a_cC : Option Addr) (n_cC c_cC : Nat) (cC : List Int) (k : Int) (w_ci : IntKind.i64.wrap ci = ci) (h_cL : V EP H a_cL n_cL c_cL cL) (h_cA : V EP H a_cA n_cA c_cA cA) (h_cB : V (EI .i64) H a_cB n_cB c_cB cB) (h_cC : V (EI .i64) H a_cC n_cC c_cC cC) (w_k : IntKind.i64.wrap k = k) : WF E0 13 [.agg #[.int .i64 ci, .slice a_cL n_cL c_cL, .slice a_cA n_cA c_cA, .slice a_cB n_cB c_cB, .slice a_cC n_cC c_cC], .int .i64 k] H fun q => ∃ (r0 : Int) (r1a : Option Addr) (r1n : Nat) (r1c : Nat) (r1 : List (Int × Int)) (r1D : List Nat) (r2a : Option Addr) (r2n : Nat) (r2c : Nat) (r2 : List (Int × Int)) (r2D : List Nat) (r3a : Option Addr) (r3n : Nat) (r3c : Nat) (r3 : List Int) (r3D : List Nat) (r4a : Option Addr) (r4n : Nat) (r4c : Nat) (r4 : List Int) (r4D : List Nat) (r5 : Int) (r6 : Int) (r7a : Option Addr) (r7n : Nat) (r7c : Nat) (r7 : List Int) (r7D : List Nat) (r8a : Option Addr) (r8n : Nat) (r8c : Nat) (r8v : List (Option Addr × Nat × Nat)) (r8D : List Nat) (r8 : List (List Int)) (r8E : List Nat) (r9a : Option Addr) (r9n : Nat) (r9c : Nat) (r9 : List Int) (r9D : List Nat) (r10a : Option Addr) (r10n : Nat) (r10c : Nat) (r10 : List (Int × Int)) (r10D : List Nat) (r11 : Int) (e : Int), q.1 = .tuple #[.agg #[.int .i64 r0, .slice r1a r1n r1c, .slice r2a r2n r2c, .slice r3a r3n r3c, .slice r4a r4n r4c, .int .i64 r5, .int .i64 r6, .slice r7a r7n r7c, .slice r8a r8n r8c, .slice r9a r9n r9c, .slice r10a r10n r10c, .int .i64 r11], .int .i64 e] ∧ Mem [] H q.2 [R.own EP r1a r1n r1c r1 r1D, R.own EP r2a r2n r2c r2 r2D, R.own (EI .i64) r3a r3n r3c r3 r3D, R.own (EI .i64) r4a r4n r4c r4 r4D, R.own (EI .i64) r7a r7n r7c r7 r7D, R.own ES r8a r8n r8c r8v r8D, R.inn (EI .i64) r8v r8 r8E, R.own (EI .i64) r9a r9n r9c r9 r9D, R.own EP r10a r10n r10c r10 r10D] ∧ (0 ≤ e ∧ e ≤ 100) ∧ (r1n ≤ 1001 ∧ r2n ≤ 1001 ∧ r3n ≤ 100 ∧ r4n ≤ 100 ∧ r7n ≤ 1001 ∧ r8n ≤ 10 ∧ r9n ≤ 1001 ∧ r10n ≤ 1001) ∧ (∀ c ∈ r8, c.length ≤ 1000) ∧ ((0 ≤ r0 ∧ r0 ≤ 1000000) ∧ (0 ≤ r5 ∧ r5 ≤ 1000000) ∧ (0 ≤ r6 ∧ r6 ≤ 1000000) ∧ (0 ≤ r11 ∧ r11 ≤ 1000000)) := by
  obtain ⟨lo_ci, hi_ci⟩ := rangei64 w_ci
  obtain ⟨len_cL, cap_cL, max_cL, wf_cL⟩ := h_cL.len
  obtain ⟨len_cA, cap_cA, max_cA, wf_cA⟩ := h_cA.len
  obtain ⟨len_cB, cap_cB, max_cB, wf_cB⟩ := h_cB.len
  obtain ⟨len_cC, cap_cC, max_cC, wf_cC⟩ := h_cC.len
  obtain ⟨lo_k, hi_k⟩ := rangei64 w_k
  have m0 : Mem [] H H [] := Mem.start
  refine WF.kg Tryz.func13 rfl rfl ?_
  refine KC.seq ?_
  refine KC.region ?_
  refine KO.boxM m0 rfl rfl (show _ = [.int .i64 ci, .slice a_cL n_cL c_cL, .slice a_cA n_cA c_cA, .slice a_cB n_cB c_cB, .slice a_cC n_cC c_cC] from rfl) rfl rfl fun H1 m2 => ?_
  refine KO.allocM m2 zt40_B17 rfl rfl fun H3 m4 => ?_
  refine KO.pv (PV.assign rfl) rfl rfl ?_
  refine KO.nil ?_
  refine KC.seq ?_
  refine KC.seq ?_
  refine KC.region ?_
  refine KO.loadN ag26_B17 sz26_B17 rfl (m4.row (i := 1) rfl) (takeN_of (p := [.int .i64 ci, .slice a_cL n_cL c_cL, .slice a_cA n_cA c_cA, .slice a_cB n_cB c_cB, .slice a_cC n_cC c_cC]) rfl  rfl) rfl rfl ?_
  refine KO.call rfl rfl rfl rfl (gates_Check H3 ci a_cL n_cL c_cL _ a_cA n_cA c_cA _ a_cB n_cB c_cB _ a_cC n_cC c_cC _ (wrap64 (by omega) (by omega)) (V.mem m4 h_cL) (V.mem m4 h_cA) (V.mem m4 h_cB) (V.mem m4 h_cC)) fun v5 H5 q5 => ?_
  obtain ⟨e5, hv5, mc5, p5_0, p5_1, p5_2⟩ := q5
  dsimp only at hv5 mc5
  subst hv5
  have m6 := m4.seq mc5
  refine KO.pv (PV.assign rfl) rfl rfl ?_
  refine KO.nil ?_
  refine KC.seq ?_
  refine KC.region ?_
  refine KO.pv (PV.move rfl) rfl rfl ?_
  refine KO.pv (PV.neqD rfl rfl rfl) rfl rfl ?_
  refine KO.nil ?_
  refine KC.condD rfl (fun h7 => ?_) (fun h7 => ?_)
  · refine KC.seq ?_
    refine KC.region ?_
    refine KO.pv (PV.build rfl bl40__B17) rfl rfl ?_
    refine KO.pv (PV.move rfl) rfl rfl ?_
    refine KO.storeM m6 (i := 0) rfl sz40_B17 rfl rfl rfl (show 0 + 12 ≤ 12 by decide) (show _ = [.int .i64 0, .slice none 0 0, .slice none 0 0, .slice none 0 0, .slice none 0 0, .int .i64 0, .int .i64 0, .slice none 0 0, .slice none 0 0, .slice none 0 0, .slice none 0 0, .int .i64 0] from rfl) rfl fun H8 m9 => ?_
    refine KO.pv (PV.assign rfl) rfl rfl ?_
    refine KO.nil ?_
    have m10 := m9.ownNil (C := EP)
    have m11 := m10.ownNil (C := EP)
    have m12 := m11.ownNil (C := (EI .i64))
    have m13 := m12.ownNil (C := (EI .i64))
    have m14 := m13.ownNil (C := (EI .i64))
    have m15 := m14.ownNil (C := ES)
    have m16 := m15.ownNil (C := (EI .i64))
    have m17 := m16.ownNil (C := EP)
    have m18 := m17.innNil (C := (EI .i64))
    exact KC.ret ⟨rfl, _, (.cell rfl (ldN (m9.row (i := 0) rfl) ag40_B17 sz40_B17 rfl rfl) (.tmp rfl .nil)), 0, none, 0, 0, [], [], none, 0, 0, [], [], none, 0, 0, [], [], none, 0, 0, [], [], 0, 0, none, 0, 0, [], [], none, 0, 0, [], [], [], [], none, 0, 0, [], [], none, 0, 0, [], [], 0, e5, rfl, m18.pick [8, 7, 6, 5, 4, 3, 0, 2, 1] (by decide) rfl, (by first | omega | (intro h; omega) | (simp only [List.length_nil, true_and, and_true, or_true, true_or] <;> omega)), (by first | omega | (intro h; omega) | (simp only [List.length_nil, true_and, and_true, or_true, true_or] <;> omega)), (by first | omega | (intro h; omega) | (simp only [List.length_nil, true_and, and_true, or_true, true_or] <;> omega) | exact all_nil | assumption), (by first | omega | (intro h; omega) | (simp only [List.length_nil, true_and, and_true, or_true, true_or] <;> omega))⟩
  · have p5_0t := p5_0 (by omega)
    obtain ⟨p5_0_i0, p5_0_al, p5_0_b, p5_0_c, p5_0_hb, p5_0_hc, p5_0_hl, p5_0_ha⟩ := id p5_0t
    refine KC.skip ?_
    refine KC.seq ?_
    refine KC.seq ?_
    refine KC.region ?_
    refine KO.pv (PV.move rfl) rfl rfl ?_
    by_cases h19 : k < 1
    · refine KO.pv (PV.lssD rfl rfl (decide_eq_true h19)) rfl rfl ?_
      refine KO.pv (PV.move rfl) rfl rfl ?_
      refine KO.no rfl rfl rfl ?_
      refine KO.no rfl rfl rfl ?_
      refine KO.pv (PV.pickT rfl rfl rfl) rfl rfl ?_
      refine KO.nil ?_
      refine KC.condT rfl ?_
      refine KC.seq ?_
      refine KC.region ?_
      refine KO.pv (PV.build rfl bl40__B17) rfl rfl ?_
      refine KO.storeM m6 (i := 0) rfl sz40_B17 rfl rfl rfl (show 0 + 12 ≤ 12 by decide) (show _ = [.int .i64 0, .slice none 0 0, .slice none 0 0, .slice none 0 0, .slice none 0 0, .int .i64 0, .int .i64 0, .slice none 0 0, .slice none 0 0, .slice none 0 0, .slice none 0 0, .int .i64 0] from rfl) rfl fun H20 m21 => ?_
      refine KO.pv (PV.assign rfl) rfl rfl ?_
      refine KO.nil ?_
      have m22 := m21.ownNil (C := EP)
      have m23 := m22.ownNil (C := EP)
      have m24 := m23.ownNil (C := (EI .i64))
      have m25 := m24.ownNil (C := (EI .i64))
      have m26 := m25.ownNil (C := (EI .i64))
      have m27 := m26.ownNil (C := ES)
      have m28 := m27.ownNil (C := (EI .i64))
      have m29 := m28.ownNil (C := EP)
      have m30 := m29.innNil (C := (EI .i64))
      exact KC.ret ⟨rfl, _, (.cell rfl (ldN (m21.row (i := 0) rfl) ag40_B17 sz40_B17 rfl rfl) (.tmp rfl .nil)), 0, none, 0, 0, [], [], none, 0, 0, [], [], none, 0, 0, [], [], none, 0, 0, [], [], 0, 0, none, 0, 0, [], [], none, 0, 0, [], [], [], [], none, 0, 0, [], [], none, 0, 0, [], [], 0, 2, rfl, m30.pick [8, 7, 6, 5, 4, 3, 0, 2, 1] (by decide) rfl, (by first | omega | (intro h; omega) | (simp only [List.length_nil, true_and, and_true, or_true, true_or] <;> omega)), (by first | omega | (intro h; omega) | (simp only [List.length_nil, true_and, and_true, or_true, true_or] <;> omega)), (by first | omega | (intro h; omega) | (simp only [List.length_nil, true_and, and_true, or_true, true_or] <;> omega) | exact all_nil | assumption), (by first | omega | (intro h; omega) | (simp only [List.length_nil, true_and, and_true, or_true, true_or] <;> omega))⟩
    · refine KO.pv (PV.lssD rfl rfl (decide_eq_false h19)) rfl rfl ?_
      refine KO.pv (PV.move rfl) rfl rfl ?_
      refine KO.pv (PV.move rfl) rfl rfl ?_
      refine KO.pv (PV.gtrD rfl rfl rfl) rfl rfl ?_
      refine KO.pv (PV.pickF rfl rfl rfl) rfl rfl ?_
      refine KO.nil ?_
      refine KC.condD rfl (fun h31 => ?_) (fun h31 => ?_)
      · refine KC.seq ?_
        refine KC.region ?_
        refine KO.pv (PV.build rfl bl40__B17) rfl rfl ?_
        refine KO.storeM m6 (i := 0) rfl sz40_B17 rfl rfl rfl (show 0 + 12 ≤ 12 by decide) (show _ = [.int .i64 0, .slice none 0 0, .slice none 0 0, .slice none 0 0, .slice none 0 0, .int .i64 0, .int .i64 0, .slice none 0 0, .slice none 0 0, .slice none 0 0, .slice none 0 0, .int .i64 0] from rfl) rfl fun H32 m33 => ?_
        refine KO.pv (PV.assign rfl) rfl rfl ?_
        refine KO.nil ?_
        have m34 := m33.ownNil (C := EP)
        have m35 := m34.ownNil (C := EP)
        have m36 := m35.ownNil (C := (EI .i64))
        have m37 := m36.ownNil (C := (EI .i64))
        have m38 := m37.ownNil (C := (EI .i64))
        have m39 := m38.ownNil (C := ES)
        have m40 := m39.ownNil (C := (EI .i64))
        have m41 := m40.ownNil (C := EP)
        have m42 := m41.innNil (C := (EI .i64))
        exact KC.ret ⟨rfl, _, (.cell rfl (ldN (m33.row (i := 0) rfl) ag40_B17 sz40_B17 rfl rfl) (.tmp rfl .nil)), 0, none, 0, 0, [], [], none, 0, 0, [], [], none, 0, 0, [], [], none, 0, 0, [], [], 0, 0, none, 0, 0, [], [], none, 0, 0, [], [], [], [], none, 0, 0, [], [], none, 0, 0, [], [], 0, 2, rfl, m42.pick [8, 7, 6, 5, 4, 3, 0, 2, 1] (by decide) rfl, (by first | omega | (intro h; omega) | (simp only [List.length_nil, true_and, and_true, or_true, true_or] <;> omega)), (by first | omega | (intro h; omega) | (simp only [List.length_nil, true_and, and_true, or_true, true_or] <;> omega)), (by first | omega | (intro h; omega) | (simp only [List.length_nil, true_and, and_true, or_true, true_or] <;> omega) | exact all_nil | assumption), (by first | omega | (intro h; omega) | (simp only [List.length_nil, true_and, and_true, or_true, true_or] <;> omega))⟩
      · refine KC.skip ?_
        refine KC.seq ?_
        refine KC.region ?_
        refine KO.pv (PV.fieldAddr fo26_1_B17 rfl) rfl rfl ?_
        refine KO.load1 ag22_B17 rfl (m6.row (i := 1) rfl) rfl rfl rfl ?_
        refine KO.pv (PV.len un22_B17 rfl) rfl rfl ?_
        refine KO.pv (PV.assign rfl) rfl rfl ?_
        refine KO.nil ?_
        refine KC.seq ?_
        refine KC.drawG (n := 14) (anc := [0, 0, 2, 0, 8, 30, 0, 64, 192, 0, 512, 1984, 4095, 8191]) (hv := [8, 11, 12]) (ord := [6, 7, 8, 9, 10, 11, 0, 1, 2, 3, 4, 5, 12, 13]) (by kernel_rfl) (by kernel_rfl) (by kernel_rfl) (by kernel_rfl) (by kernel_rfl) fun H43 n44 g45 => ?_
        have m46 := m6.room n44 g45 [10] (by decide) (by decide)
        refine KD.pv 64 (PV.fieldAddr fo26_1_B17 rfl) rfl rfl rfl (by kernel_rfl) rfl rfl rfl ?_
        refine KD.load 192 rfl (m46.row (i := 2) rfl) (by rw [read1 ag22_B17]; exact rfl) (pastGo (k := 1) (l := [H43]) (by kernel_rfl) rfl (pastCons ⟨_, (m46.row (i := 2) rfl), (by rw [read1 ag22_B17]; exact rfl)⟩ pastNil)) veq_sl rfl (by kernel_rfl) rfl rfl rfl ?_
        refine KD.call 448 rfl rfl rfl (by kernel_rfl) rfl rfl rfl (Clone_api_Latch H43 a_cL n_cL c_cL _ (V.mem m46 h_cL) (by first | omega | assumption)) fun v47 H47 q47 => ?_
        obtain ⟨a47, n47, xs47, D47, hv47, mc47, p47_0, p47_1, p47_2, p47_3⟩ := q47
        dsimp only at hv47 mc47
        subst hv47
        have m48 := m46.seq mc47
        refine KD.pv 960 (PV.build rfl (bl150_1i64_B17 _)) rfl rfl rfl (by kernel_rfl) rfl rfl rfl ?_
        refine KD.buildSliceM 1984 m48 (j := 1) rfl el22_B17 ez150_B17 rfl rfl (show _ = some [.int .i64 0, .int .i64 1] from rfl) rfl (by kernel_rfl) rfl rfl rfl fun H49 m50 => ?_
        refine KD.appendC 4032 (C := EP) m50 (j := 0) rfl el22_B17 ez150_B17 sb150_B17 un22_B17 rfl rfl (newElems_row1 (C := EP) (y := (0, 1)) (m50.row (i := 1) rfl) rfl) rfl (by first | omega | (simp only [splice, List.length_append, List.length_set, List.length_replicate, List.length_map, List.length_take, List.length_drop, List.length_cons, List.length_nil] <;> omega)) rfl (by kernel_rfl) rfl rfl rfl fun a52 D53 H51 m54 => ?_
        refine KD.load 4033 rfl (m54.row (i := 3) rfl) (readN ag26_B17 sz26_B17 (takeN_of (p := [.int .i64 ci, .slice a_cL n_cL c_cL, .slice a_cA n_cA c_cA, .slice a_cB n_cB c_cB, .slice a_cC n_cC c_cC]) rfl  rfl)) (pastGo (k := 3) (l := [H51, H47, H43]) (by kernel_rfl) rfl (pastCons ⟨_, (m54.row (i := 3) rfl), (readN ag26_B17 sz26_B17 (takeN_of (p := [.int .i64 ci, .slice a_cL n_cL c_cL, .slice a_cA n_cA c_cA, .slice a_cB n_cB c_cB, .slice a_cC n_cC c_cC]) rfl  rfl))⟩ (pastCons ⟨_, (m48.row (i := 3) rfl), (readN ag26_B17 sz26_B17 (takeN_of (p := [.int .i64 ci, .slice a_cL n_cL c_cL, .slice a_cA n_cA c_cA, .slice a_cB n_cB c_cB, .slice a_cC n_cC c_cC]) rfl  rfl))⟩ (pastCons ⟨_, (m46.row (i := 2) rfl), (readN ag26_B17 sz26_B17 (takeN_of (p := [.int .i64 ci, .slice a_cL n_cL c_cL, .slice a_cA n_cA c_cA, .slice a_cB n_cB c_cB, .slice a_cC n_cC c_cC]) rfl  rfl))⟩ pastNil)))) (veq_agg (veqCons veqI (veqCons veqS (veqCons veqS (veqCons veqS (veqCons veqS veqNil)))))) rfl (by kernel_rfl) rfl rfl rfl ?_
        refine KD.pv 4035 (PV.move rfl) rfl rfl rfl (by kernel_rfl) rfl rfl rfl ?_
        refine KD.pv 4039 (PV.add rfl rfl (wrap64 (by omega) (by omega))) rfl rfl rfl (by kernel_rfl) rfl rfl rfl ?_
        refine KD.pv 4047 (PV.fieldAddr fo26_0_B17 rfl) rfl rfl rfl (by kernel_rfl) rfl rfl rfl ?_
        refine KD.load 4063 rfl (m54.row (i := 3) rfl) (by rw [read1 ag3_B17]; exact rfl) (pastGo (k := 3) (l := [H51, H47, H43]) (by kernel_rfl) rfl (pastCons ⟨_, (m54.row (i := 3) rfl), (by rw [read1 ag3_B17]; exact rfl)⟩ (pastCons ⟨_, (m48.row (i := 3) rfl), (by rw [read1 ag3_B17]; exact rfl)⟩ (pastCons ⟨_, (m46.row (i := 2) rfl), (by rw [read1 ag3_B17]; exact rfl)⟩ pastNil)))) veq_int rfl (by kernel_rfl) rfl rfl rfl ?_
        have hmulk := mulB (a := k + 1) (b := ci) (A := 9) (B := 1000) (by omega) (by omega) (by omega) (by omega)
        refine KD.pv 4095 (PV.mul rfl rfl (wrap64 (by omega) (by omega))) rfl rfl rfl (by kernel_rfl) rfl rfl rfl ?_
        refine KD.call 8191 rfl rfl rfl (by kernel_rfl) rfl rfl rfl (pref_begin H51 ci a_cL n_cL c_cL _ a_cA n_cA c_cA _ a_cB n_cB c_cB _ a_cC n_cC c_cC _ ((k + 1) * ci) a52 (n47 + 1) (n47 + 1) (wrap64 (by omega) (by omega)) (V.mem m54 h_cL) (V.mem m54 h_cA) (V.mem m54 h_cB) (V.mem m54 h_cC) (wrap64 (by omega) (by omega))) fun v55 H55 q55 => ?_
        obtain ⟨b55, m55, hv55, mc55⟩ := q55
        dsimp only at hv55 mc55
        subst hv55
        have m56 := m54.seq mc55
        refine KD.pv 16383 (PV.assign rfl) rfl rfl rfl (by kernel_rfl) rfl rfl rfl ?_
        refine KD.nil ⟨rfl, ?_⟩
        refine KC.seq ?_
        refine KC.region ?_
        refine KO.pv (PV.move rfl) rfl rfl ?_
        refine KO.pv (PV.build rfl (bl36_1i64_B17 _)) rfl rfl ?_
        refine KO.pv (PV.build rfl (bl38_0i64_1i64_5Asi64_B17 _ _ _ _ _ _)) rfl rfl ?_
        refine KO.allocM m56 zt38_B17 rfl rfl fun H57 m58 => ?_
        refine KO.storeM m58 (i := 0) rfl sz38_B17 rfl rfl rfl (show 0 + 7 ≤ 7 by decide) (show _ = [.int .i64 k, .int .i64 1, .slice none 0 0, .slice none 0 0, .slice none 0 0, .slice none 0 0, .int .i64 1] from rfl) rfl fun H59 m60 => ?_
        refine KO.nil ?_
        refine KC.seq ?_
        refine KC.seq ?_
        refine KC.region ?_
        refine KO.pv (PV.move rfl) rfl rfl ?_
        refine KO.pv (PV.move rfl) rfl rfl ?_
        refine KO.nil ?_
        refine KC.block ?_
        refine KC.sub (l' := [(1, .int .i64 k), (2, .pointer (some ⟨H.next, 0, none⟩)), (4, .pointer (some ⟨H1.next, 0, none⟩)), (7, .int .i64 (n_cL : Int)), (8, .pointer (some ⟨b55, 0, none⟩)), (9, .pointer (some ⟨H55.next, 0, none⟩)), (59, .int .i64 (n_cL : Int)), (60, .int .i64 0)]) (.cons rfl (.cons rfl (.cons rfl (.cons rfl (.cons rfl (.cons rfl (.cons rfl (.cons rfl .nil)))))))) ?_
        have m61 := m60.lnilC (EI .i64) (e := 3) none rfl
        have m62 := m61.lnilC (EI .i64) (e := 3) none rfl
        refine KC.loopN (fun kq lq A => ∃ (x60 : Int) (a_c9_2 : Option Addr) (n_c9_2 : Nat) (l_c9_2 : List Int) (D_c9_2 : List Nat) (a_c9_4 : Option Addr) (n_c9_4 : Nat) (l_c9_4 : List Int) (D_c9_4 : List Nat), kq = ((n_cL : Int) - x60).toNat ∧ lq = [(1, .int .i64 k), (2, .pointer (some ⟨H.next, 0, none⟩)), (4, .pointer (some ⟨H1.next, 0, none⟩)), (7, .int .i64 (n_cL : Int)), (8, .pointer (some ⟨b55, 0, none⟩)), (9, .pointer (some ⟨H55.next, 0, none⟩)), (59, .int .i64 (n_cL : Int)), (60, .int .i64 x60)] ∧ Mem [] H A [R.row H55.next 38 true [.int .i64 k, .int .i64 1, .slice a_c9_2 n_c9_2 n_c9_2, .slice none 0 0, .slice a_c9_4 n_c9_4 n_c9_4, .slice none 0 0, .int .i64 1], R.row b55 153 true [.int .i64 ((k + 1) * ci), .slice a52 (n47 + 1) (n47 + 1), .slice none 0 0, .slice none 0 0, .slice none 0 0, .int .i64 ci, .slice a_cL n_cL c_cL, .slice a_cA n_cA c_cA, .slice a_cB n_cB c_cB, .slice a_cC n_cC c_cC, .map (some m55)], R.mp m55 KP (VI fun x => 0 ≤ x ∧ x / 2 ≤ 200000), R.lst 150 2 a52 (n47 + 1) (cells EP (xs47 ++ [(0, 1)])) D53, R.row H1.next 40 true [.int .i64 0, .slice none 0 0, .slice none 0 0, .slice none 0 0, .slice none 0 0, .int .i64 0, .int .i64 0, .slice none 0 0, .slice none 0 0, .slice none 0 0, .slice none 0 0, .int .i64 0], R.row H.next 26 true [.int .i64 ci, .slice a_cL n_cL c_cL, .slice a_cA n_cA c_cA, .slice a_cB n_cB c_cB, .slice a_cC n_cC c_cC], R.lst 3 1 a_c9_2 n_c9_2 (cells (EI .i64) l_c9_2) D_c9_2, R.lst 3 1 a_c9_4 n_c9_4 (cells (EI .i64) l_c9_4) D_c9_4] ∧ (0 ≤ x60 ∧ x60 ≤ (n_cL : Int)) ∧ ((n_c9_2 : Int) = x60) ∧ ((n_c9_4 : Int) = x60) ∧ (l_c9_2.length = n_c9_2) ∧ (∀ u ∈ l_c9_2, (EI .i64).wf u) ∧ (∀ u ∈ l_c9_2, 0 ≤ u ∧ u / 2 ≤ 200000) ∧ (l_c9_4.length = n_c9_4) ∧ (∀ u ∈ l_c9_4, (EI .i64).wf u)) ?_ (((n_cL : Int) - 0).toNat) ⟨0, none, 0, [], [], none, 0, [], [], rfl, rfl, (m62.pick [2, 3, 4, 5, 7, 8, 1, 0] (by decide) rfl), (by first | omega | assumption | (constructor <;> omega)), (by first | omega | (simp only [splice, List.length_append, List.length_set, List.length_replicate, List.length_map, List.length_take, List.length_drop, List.length_cons, List.length_nil] <;> omega)), (by first | omega | (simp only [splice, List.length_append, List.length_set, List.length_replicate, List.length_map, List.length_take, List.length_drop, List.length_cons, List.length_nil] <;> omega)), (by first | omega | (simp only [splice, List.length_append, List.length_set, List.length_replicate, List.length_map, List.length_take, List.length_drop, List.length_cons, List.length_nil] <;> omega)), (fun _ h => absurd h List.not_mem_nil), all_nil, (by first | omega | (simp only [splice, List.length_append, List.length_set, List.length_replicate, List.length_map, List.length_take, List.length_drop, List.length_cons, List.length_nil] <;> omega)), (fun _ h => absurd h List.not_mem_nil)⟩
        rintro kq lq A63 ⟨x60, a_c9_2, n_c9_2, l_c9_2, D_c9_2, a_c9_4, n_c9_4, l_c9_4, D_c9_4, rfl, rfl, m64, hr10, hn2, hn4, hl_l_c9_2, hw_l_c9_2, hf, hl_l_c9_4, hw_l_c9_4⟩
        refine KC.seq ?_
        refine KC.region ?_
        refine KO.pv (PV.lssD rfl rfl rfl) rfl rfl ?_
        refine KO.nil ?_
        refine KC.seq ?_
        refine KC.condD rfl (fun h65 => ?_) (fun h65 => ?_)
        · refine KC.skip ?_
          refine KC.seq ?_
          refine KC.block ?_
          refine KC.seq ?_
          refine KC.region ?_
          refine KO.pv (PV.move rfl) rfl rfl ?_
          refine KO.pv (PV.assign rfl) rfl rfl ?_
          refine KO.nil ?_
          refine KC.seq ?_
          refine KC.drawG (n := 15) (anc := [0, 1, 0, 4, 12, 28, 60, 124, 0, 508, 1020, 2044, 4095, 8191, 16383]) (hv := [12, 14]) (ord := [0, 1, 2, 3, 4, 5, 6, 7, 8, 9, 10, 11, 12, 13, 14]) (by kernel_rfl) (by kernel_rfl) (by kernel_rfl) (by kernel_rfl) (by kernel_rfl) fun H66 n67 g68 => ?_
          have m69 := m64.room n67 g68 [11] (by decide) (by decide)
          refine KD.pv 1 (PV.fieldAddr fo38_2_B17 rfl) rfl rfl rfl (by kernel_rfl) rfl rfl rfl ?_
          refine KD.load 3 rfl (m69.row (i := 1) rfl) (by rw [read1 ag24_B17]; exact rfl) (pastGo (k := 1) (l := [H66]) (by kernel_rfl) rfl (pastCons ⟨_, (m69.row (i := 1) rfl), (by rw [read1 ag24_B17]; exact rfl)⟩ pastNil)) veq_sl rfl (by kernel_rfl) rfl rfl rfl ?_
          refine KD.pv 7 (PV.move rfl) rfl rfl rfl (by kernel_rfl) rfl rfl rfl ?_
          refine KD.pv 15 (PV.nilCheck rfl) rfl rfl rfl (by kernel_rfl) rfl rfl rfl ?_
          refine KD.pv 31 (PV.fieldAddr fo153_0_B17 rfl) rfl rfl rfl (by kernel_rfl) rfl rfl rfl ?_
          refine KD.pv 63 (PV.fieldAddr fo26_0_B17 rfl) rfl rfl rfl (by kernel_rfl) rfl rfl rfl ?_
          refine KD.load 127 rfl (m69.row (i := 2) rfl) (by rw [read1 ag3_B17]; exact rfl) (pastGo (k := 1) (l := [H66]) (by kernel_rfl) rfl (pastCons ⟨_, (m69.row (i := 2) rfl), (by rw [read1 ag3_B17]; exact rfl)⟩ pastNil)) veq_int rfl (by kernel_rfl) rfl rfl rfl ?_
          refine KD.pv 255 (PV.add rfl rfl (wrap64 (by omega) (by omega))) rfl rfl rfl (by kernel_rfl) rfl rfl rfl ?_
          refine KD.pv 511 (PV.move rfl) rfl rfl rfl (by kernel_rfl) rfl rfl rfl ?_
          refine KD.pv 1023 (PV.add rfl rfl (wrap64 (by omega) (by omega))) rfl rfl rfl (by kernel_rfl) rfl rfl rfl ?_
          refine KD.pv 2047 (PV.mul rfl rfl (wrap64 (by omega) (by omega))) rfl rfl rfl (by kernel_rfl) rfl rfl rfl ?_
          refine KD.buildSliceM 4095 m69 (j := 0) rfl el24_B17 ez3_B17 rfl rfl (show _ = some [.int .i64 (2 * ((((k + 1) * ci) + 1) + x60))] from rfl) rfl (by kernel_rfl) rfl rfl rfl fun H70 m71 => ?_
          refine KD.appendC 8191 (C := (EI .i64)) m71 (j := 7) rfl el24_B17 ez3_B17 sb3_B17 un24_B17 rfl rfl (newElems_row1 (C := (EI .i64)) (y := (2 * ((((k + 1) * ci) + 1) + x60))) (m71.row (i := 0) rfl) rfl) rfl (by first | omega | (simp only [splice, List.length_append, List.length_set, List.length_replicate, List.length_map, List.length_take, List.length_drop, List.length_cons, List.length_nil] <;> omega)) rfl (by kernel_rfl) rfl rfl rfl fun a73 D74 H72 m75 => ?_
          refine KD.pv 16383 (PV.fieldAddr fo38_2_B17 rfl) rfl rfl rfl (by kernel_rfl) rfl rfl rfl ?_
          refine KD.storeM 32767 m75 (j := 1) rfl sz24_B17 rfl rfl rfl (show 2 + 1 ≤ 7 by decide) (show _ = [.int .i64 k, .int .i64 1, .slice a73 (n_c9_2 + 1) (n_c9_2 + 1), .slice none 0 0, .slice a_c9_4 n_c9_4 n_c9_4, .slice none 0 0, .int .i64 1] from rfl) rfl (by kernel_rfl) rfl rfl fun H76 m77 => ?_
          refine KD.nil ⟨rfl, ?_⟩
          refine KC.region ?_
          refine KO.pv (PV.fieldAddr fo38_4_B17 rfl) rfl rfl ?_
          refine KO.load1 ag24_B17 rfl (m77.row (i := 1) rfl) rfl rfl rfl ?_
          refine KO.pv (PV.fieldAddr fo26_0_B17 rfl) rfl rfl ?_
          refine KO.load1 ag3_B17 rfl (m77.row (i := 6) rfl) rfl rfl rfl ?_
          refine KO.pv (PV.add rfl rfl (wrap64 (by omega) (by omega))) rfl rfl ?_
          refine KO.pv (PV.move rfl) rfl rfl ?_
          refine KO.pv (PV.add rfl rfl (wrap64 (by omega) (by omega))) rfl rfl ?_
          refine KO.pv (PV.mul rfl rfl (wrap64 (by omega) (by omega))) rfl rfl ?_
          refine KO.buildSliceM m77 el24_B17 ez3_B17 rfl rfl (show _ = some [.int .i64 (2 * ((ci + 1) + x60))] from rfl) rfl rfl fun H78 m79 => ?_
          refine KO.appendC (C := (EI .i64)) m79 (i := 9) rfl el24_B17 ez3_B17 sb3_B17 un24_B17 rfl rfl (newElems_row1 (C := (EI .i64)) (y := (2 * ((ci + 1) + x60))) (m79.row (i := 0) rfl) rfl) rfl (by first | omega | (simp only [splice, List.length_append, List.length_set, List.length_replicate, List.length_map, List.length_take, List.length_drop, List.length_cons, List.length_nil] <;> omega)) rfl rfl fun a81 D82 H80 m83 => ?_
          refine KO.pv (PV.fieldAddr fo38_4_B17 rfl) rfl rfl ?_
          refine KO.storeM m83 (i := 2) rfl sz24_B17 rfl rfl rfl (show 4 + 1 ≤ 7 by decide) (show _ = [.int .i64 k, .int .i64 1, .slice a73 (n_c9_2 + 1) (n_c9_2 + 1), .slice none 0 0, .slice a81 (n_c9_4 + 1) (n_c9_4 + 1), .slice none 0 0, .int .i64 1] from rfl) rfl fun H84 m85 => ?_
          refine KO.nil ?_
          refine KC.region ?_
          refine KO.pv (PV.add rfl rfl (wrap64 (by omega) (by omega))) rfl rfl ?_
          refine KO.pv (PV.move rfl) rfl rfl ?_
          refine KO.nil ?_
          exact ⟨_, _, (by omega), (.cons rfl (.cons rfl (.cons rfl (.cons rfl (.cons rfl (.cons rfl (.cons rfl (.cons rfl .nil)))))))), (x60 + 1), a73, (n_c9_2 + 1), (l_c9_2 ++ [(2 * ((((k + 1) * ci) + 1) + x60))]), D74, a81, (n_c9_4 + 1), (l_c9_4 ++ [(2 * ((ci + 1) + x60))]), D82, rfl, rfl, (m85.pick [2, 3, 4, 5, 6, 7, 8, 9] (by decide) rfl), (by first | omega | assumption | (constructor <;> omega)), (by first | omega | (simp only [splice, List.length_append, List.length_set, List.length_replicate, List.length_map, List.length_take, List.length_drop, List.length_cons, List.length_nil] <;> omega)), (by first | omega | (simp only [splice, List.length_append, List.length_set, List.length_replicate, List.length_map, List.length_take, List.length_drop, List.length_cons, List.length_nil] <;> omega)), (by first | omega | (simp only [splice, List.length_append, List.length_set, List.length_replicate, List.length_map, List.length_take, List.length_drop, List.length_cons, List.length_nil] <;> omega)), (all_app hw_l_c9_2 (all_one (wf64 (by omega) (by omega)))), (all_app hf (all_one (by first | omega | assumption | (constructor <;> omega)))), (by first | omega | (simp only [splice, List.length_append, List.length_set, List.length_replicate, List.length_map, List.length_take, List.length_drop, List.length_cons, List.length_nil] <;> omega)), (all_app hw_l_c9_4 (all_one (wf64 (by omega) (by omega))))⟩
        · refine KC.exit ?_
          refine KC.seq ?_
          refine KC.region ?_
          refine KO.pv (PV.fieldAddr fo38_4_B17 rfl) rfl rfl ?_
          refine KO.load1 ag24_B17 rfl (m64.row (i := 0) rfl) rfl rfl rfl ?_
          refine KO.buildSliceM m64 el24_B17 ez3_B17 rfl rfl (show _ = some [.int .i64 (-1)] from rfl) rfl rfl fun H86 m87 => ?_
          refine KO.appendC (C := (EI .i64)) m87 (i := 8) rfl el24_B17 ez3_B17 sb3_B17 un24_B17 rfl rfl (newElems_row1 (C := (EI .i64)) (y := (-1)) (m87.row (i := 0) rfl) rfl) rfl (by first | omega | (simp only [splice, List.length_append, List.length_set, List.length_replicate, List.length_map, List.length_take, List.length_drop, List.length_cons, List.length_nil] <;> omega)) rfl rfl fun a89 D90 H88 m91 => ?_
          refine KO.pv (PV.fieldAddr fo38_4_B17 rfl) rfl rfl ?_
          refine KO.storeM m91 (i := 1) rfl sz24_B17 rfl rfl rfl (show 4 + 1 ≤ 7 by decide) (show _ = [.int .i64 k, .int .i64 1, .slice a_c9_2 n_c9_2 n_c9_2, .slice none 0 0, .slice a89 (n_c9_4 + 1) (n_c9_4 + 1), .slice none 0 0, .int .i64 1] from rfl) rfl fun H92 m93 => ?_
          refine KO.nil ?_
          refine KC.seq ?_
          refine KC.region ?_
          refine KO.pv (PV.fieldAddr fo38_2_B17 rfl) rfl rfl ?_
          refine KO.load1 ag24_B17 rfl (m93.row (i := 1) rfl) rfl rfl rfl ?_
          refine KO.call rfl rfl rfl rfl (Clone_int H92 a_c9_2 n_c9_2 n_c9_2 _ (m93.vlst (i := 7) rfl hw_l_c9_2 (by first | omega | (simp only [splice, List.length_append, List.length_set, List.length_replicate, List.length_map, List.length_take, List.length_drop, List.length_cons, List.length_nil] <;> omega))) (by first | omega | assumption)) fun v94 H94 q94 => ?_
          obtain ⟨a94, n94, xs94, D94, hv94, mc94, p94_0, p94_1, p94_2, p94_3⟩ := q94
          dsimp only at hv94 mc94
          subst hv94
          have m95 := m93.seq mc94
          have hs0 : ∀ u ∈ xs94, 0 ≤ u ∧ u / 2 ≤ 200000 := by rw [p94_0]; exact hf
          refine KO.pv (PV.assign rfl) rfl rfl ?_
          refine KO.nil ?_
          refine KC.seq ?_
          refine KC.region ?_
          refine KO.pv (PV.move rfl) rfl rfl ?_
          refine KO.pv (PV.nilCheck rfl) rfl rfl ?_
          refine KO.pv (PV.fieldAddr fo153_0_B17 rfl) rfl rfl ?_
          refine KO.pv (PV.fieldAddr fo26_0_B17 rfl) rfl rfl ?_
          refine KO.load1 ag3_B17 rfl (m95.row (i := 3) rfl) rfl rfl rfl ?_
          refine KO.pv (PV.add rfl rfl (wrap64 (by omega) (by omega))) rfl rfl ?_
          refine KO.pv (PV.move rfl) rfl rfl ?_
          refine KO.pv (PV.add rfl rfl (wrap64 (by omega) (by omega))) rfl rfl ?_
          refine KO.pv (PV.mul rfl rfl (wrap64 (by omega) (by omega))) rfl rfl ?_
          refine KO.pv (PV.assign rfl) rfl rfl ?_
          refine KO.nil ?_
          refine KC.seq ?_
          refine KC.region ?_
          refine KO.pv (PV.makeFunc rfl rfl) rfl rfl ?_
          refine KO.pv (PV.assign rfl) rfl rfl ?_
          refine KO.nil ?_
          refine KC.seq ?_
          refine KC.region ?_
          refine KO.pv (PV.assign rfl) rfl rfl ?_
          refine KO.nil ?_
          refine KC.seq ?_
          refine KC.region ?_
          refine KO.pv (PV.assign rfl) rfl rfl ?_
          refine KO.nil ?_
          refine KC.seq ?_
          refine KC.seq ?_
          refine KC.region ?_
          refine KO.pv (PV.move rfl) rfl rfl ?_
          refine KO.pv (PV.move rfl) rfl rfl ?_
          refine KO.nil ?_
          refine KC.block ?_
          refine KC.sub (l' := [(2, .pointer (some ⟨H.next, 0, none⟩)), (4, .pointer (some ⟨H1.next, 0, none⟩)), (7, .int .i64 (n_cL : Int)), (8, .pointer (some ⟨b55, 0, none⟩)), (9, .pointer (some ⟨H55.next, 0, none⟩)), (11, .slice a94 n94 n94), (12, .int .i64 (2 * ((((k + 1) * ci) + 1) + (n_cL : Int)))), (13, .func (.func 92) #[] #[.pointer (some ⟨H.next, 0, none⟩), .pointer (some ⟨H55.next, 0, none⟩)]), (14, .int .i64 1), (15, .slice none 0 0), (107, .int .i64 k), (108, .int .i64 0)]) (.cons rfl (.cons rfl (.cons rfl (.cons rfl (.cons rfl (.cons rfl (.cons rfl (.cons rfl (.cons rfl (.cons rfl (.cons rfl (.cons rfl .nil)))))))))))) ?_
          have m96 := m95.lnilC (EI .i64) (e := 3) none rfl
          have m97 := m96.lnilC ES (e := 24) none rfl
          have m98 := m97.innNil (C := (EI .i64))
          have m99 := m98.lnilC EP (e := 187) none rfl
          refine KC.loopN (fun kq lq A => ∃ (a11 : Option Addr) (n11 : Nat) (l11 : List Int) (D11 : List Nat) (x14 : Int) (a15 : Option Addr) (n15 : Nat) (l15 : List Int) (D15 : List Nat) (x108 : Int) (a_c9_3 : Option Addr) (n_c9_3 : Nat) (l_c9_3 : List (Option Addr × Nat × Nat)) (D_c9_3 : List Nat) (i_c9_3 : List (List Int)) (E_c9_3 : List Nat) (a_c8_2 : Option Addr) (n_c8_2 : Nat) (l_c8_2 : List (Int × Int)) (D_c8_2 : List Nat), kq = (k - x108).toNat ∧ lq = [(2, .pointer (some ⟨H.next, 0, none⟩)), (4, .pointer (some ⟨H1.next, 0, none⟩)), (7, .int .i64 (n_cL : Int)), (8, .pointer (some ⟨b55, 0, none⟩)), (9, .pointer (some ⟨H55.next, 0, none⟩)), (11, .slice a11 n11 n11), (12, .int .i64 (2 * ((((k + 1) * ci) + 1) + (n_cL : Int)))), (13, .func (.func 92) #[] #[.pointer (some ⟨H.next, 0, none⟩), .pointer (some ⟨H55.next, 0, none⟩)]), (14, .int .i64 x14), (15, .slice a15 n15 n15), (107, .int .i64 k), (108, .int .i64 x108)] ∧ Mem [] H A [R.lst 3 1 a15 n15 (cells (EI .i64) l15) D15, R.lst 3 1 a11 n11 (cells (EI .i64) l11) D11, R.row H55.next 38 true [.int .i64 k, .int .i64 1, .slice a_c9_2 n_c9_2 n_c9_2, .slice a_c9_3 n_c9_3 n_c9_3, .slice a89 (n_c9_4 + 1) (n_c9_4 + 1), .slice none 0 0, .int .i64 1], R.row b55 153 true [.int .i64 ((k + 1) * ci), .slice a52 (n47 + 1) (n47 + 1), .slice a_c8_2 n_c8_2 n_c8_2, .slice none 0 0, .slice none 0 0, .int .i64 ci, .slice a_cL n_cL c_cL, .slice a_cA n_cA c_cA, .slice a_cB n_cB c_cB, .slice a_cC n_cC c_cC, .map (some m55)], R.mp m55 KP (VI fun x => 0 ≤ x ∧ x / 2 ≤ 200000), R.lst 150 2 a52 (n47 + 1) (cells EP (xs47 ++ [(0, 1)])) D53, R.row H1.next 40 true [.int .i64 0, .slice none 0 0, .slice none 0 0, .slice none 0 0, .slice none 0 0, .int .i64 0, .int .i64 0, .slice none 0 0, .slice none 0 0, .slice none 0 0, .slice none 0 0, .int .i64 0], R.row H.next 26 true [.int .i64 ci, .slice a_cL n_cL c_cL, .slice a_cA n_cA c_cA, .slice a_cB n_cB c_cB, .slice a_cC n_cC c_cC], R.lst 3 1 a_c9_2 n_c9_2 (cells (EI .i64) l_c9_2) D_c9_2, R.lst 3 1 a89 (n_c9_4 + 1) (cells (EI .i64) (l_c9_4 ++ [(-1)])) D90, R.lst 24 1 a_c9_3 n_c9_3 (cells ES l_c9_3) D_c9_3, R.inn (EI .i64) l_c9_3 i_c9_3 E_c9_3, R.lst 187 2 a_c8_2 n_c8_2 (cells EP l_c8_2) D_c8_2] ∧ (0 ≤ x108 ∧ x108 ≤ k) ∧ (l11.length = n11) ∧ (∀ u ∈ l11, (EI .i64).wf u) ∧ (∀ u ∈ l11, 0 ≤ u ∧ u / 2 ≤ 200000) ∧ (l15.length = n15) ∧ (∀ u ∈ l15, (EI .i64).wf u) ∧ (∀ u ∈ l15, 0 ≤ u ∧ u / 2 ≤ 200000) ∧ ((n11 : Int) = n_cL) ∧ (0 ≤ x14 ∧ x14 / 2 ≤ 200000) ∧ ((n15 : Int) = x108) ∧ ((n_c9_3 : Int) = x108) ∧ ((n_c8_2 : Int) ≤ 1300 * x108) ∧ (l_c9_3.length = n_c9_3) ∧ (∀ c ∈ i_c9_3, c.length ≤ 1000) ∧ (l_c8_2.length = n_c8_2) ∧ (∀ u ∈ l_c8_2, (EP).wf u)) ?_ ((k - 0).toNat) ⟨a94, n94, xs94, D94, 1, none, 0, [], [], 0, none, 0, [], [], [], [], none, 0, [], [], rfl, rfl, (m99.pick [3, 4, 6, 7, 8, 9, 10, 11, 12, 13, 2, 1, 0] (by decide) rfl), (by first | omega | assumption | (constructor <;> omega)), (by first | omega | (simp only [splice, List.length_append, List.length_set, List.length_replicate, List.length_map, List.length_take, List.length_drop, List.length_cons, List.length_nil] <;> omega)), (by assumption), (by assumption), (by first | omega | (simp only [splice, List.length_append, List.length_set, List.length_replicate, List.length_map, List.length_take, List.length_drop, List.length_cons, List.length_nil] <;> omega)), (fun _ h => absurd h List.not_mem_nil), all_nil, (by first | omega | (simp only [splice, List.length_append, List.length_set, List.length_replicate, List.length_map, List.length_take, List.length_drop, List.length_cons, List.length_nil] <;> omega)), (by first | omega | (simp only [splice, List.length_append, List.length_set, List.length_replicate, List.length_map, List.length_take, List.length_drop, List.length_cons, List.length_nil] <;> omega)), (by first | omega | (simp only [splice, List.length_append, List.length_set, List.length_replicate, List.length_map, List.length_take, List.length_drop, List.length_cons, List.length_nil] <;> omega)), (by first | omega | (simp only [splice, List.length_append, List.length_set, List.length_replicate, List.length_map, List.length_take, List.length_drop, List.length_cons, List.length_nil] <;> omega)), (by first | omega | (simp only [splice, List.length_append, List.length_set, List.length_replicate, List.length_map, List.length_take, List.length_drop, List.length_cons, List.length_nil] <;> omega)), (by first | omega | (simp only [splice, List.length_append, List.length_set, List.length_replicate, List.length_map, List.length_take, List.length_drop, List.length_cons, List.length_nil] <;> omega)), all_nil, (by first | omega | (simp only [splice, List.length_append, List.length_set, List.length_replicate, List.length_map, List.length_take, List.length_drop, List.length_cons, List.length_nil] <;> omega)), (fun _ h => absurd h List.not_mem_nil)⟩
          rintro kq lq A100 ⟨a11, n11, l11, D11, x14, a15, n15, l15, D15, x108, a_c9_3, n_c9_3, l_c9_3, D_c9_3, i_c9_3, E_c9_3, a_c8_2, n_c8_2, l_c8_2, D_c8_2, rfl, rfl, m101, hr22, hl_l11, hw_l11, hs, hl_l15, hw_l15, hh, hn11, hx14, hn15, hnI, hnA, hl_l_c9_3, hk_l_c9_3, hl_l_c8_2, hw_l_c8_2⟩
          refine KC.seq ?_
          refine KC.region ?_
          refine KO.pv (PV.lssD rfl rfl rfl) rfl rfl ?_
          refine KO.nil ?_
          refine KC.seq ?_
          refine KC.condD rfl (fun h102 => ?_) (fun h102 => ?_)
          · refine KC.skip ?_
            refine KC.seq ?_
            refine KC.block ?_
            refine KC.seq ?_
            refine KC.region ?_
            refine KO.pv (PV.move rfl) rfl rfl ?_
            refine KO.pv (PV.assign rfl) rfl rfl ?_
            refine KO.nil ?_
            refine KC.seq ?_
            refine KC.region ?_
            refine KO.pv (PV.move rfl) rfl rfl ?_
            refine KO.pv (PV.add rfl rfl (wrap64 (by omega) (by omega))) rfl rfl ?_
            refine KO.pv (PV.fieldAddr fo26_0_B17 rfl) rfl rfl ?_
            refine KO.load1 ag3_B17 rfl (m101.row (i := 7) rfl) rfl rfl rfl ?_
            have hmulx1 := mulB (a := x108 + 1) (b := ci) (A := 9) (B := 1000) (by omega) (by omega) (by omega) (by omega)
            refine KO.pv (PV.mul rfl rfl (wrap64 (by omega) (by omega))) rfl rfl ?_
            refine KO.pv (PV.add rfl rfl (wrap64 (by omega) (by omega))) rfl rfl ?_
            refine KO.pv (PV.assign rfl) rfl rfl ?_
            refine KO.nil ?_
            refine KC.seq ?_
            refine KC.region ?_
            refine KO.pv (PV.move rfl) rfl rfl ?_
            refine KO.pv (PV.move rfl) rfl rfl ?_
            have m103 : Mem [] H A100 [R.row H.next 26 true [.int .i64 ci, .slice a_cL n_cL c_cL, .slice a_cA n_cA c_cA, .slice a_cB n_cB c_cB, .slice a_cC n_cC c_cC], R.row H55.next 38 true [.int .i64 k, .int .i64 1, .slice a_c9_2 n_c9_2 n_c9_2, .slice a_c9_3 n_c9_3 n_c9_3, .slice a89 (n_c9_4 + 1) (n_c9_4 + 1), .slice none 0 0, .int .i64 1], R.lst 24 1 a_c9_3 n_c9_3 (cells ES l_c9_3) D_c9_3, R.inn (EI .i64) l_c9_3 i_c9_3 E_c9_3, R.lst 3 1 a15 n15 (cells (EI .i64) l15) D15, R.lst 3 1 a11 n11 (cells (EI .i64) l11) D11, R.row b55 153 true [.int .i64 ((k + 1) * ci), .slice a52 (n47 + 1) (n47 + 1), .slice a_c8_2 n_c8_2 n_c8_2, .slice none 0 0, .slice none 0 0, .int .i64 ci, .slice a_cL n_cL c_cL, .slice a_cA n_cA c_cA, .slice a_cB n_cB c_cB, .slice a_cC n_cC c_cC, .map (some m55)], R.mp m55 KP (VI fun x => 0 ≤ x ∧ x / 2 ≤ 200000), R.lst 150 2 a52 (n47 + 1) (cells EP (xs47 ++ [(0, 1)])) D53, R.row H1.next 40 true [.int .i64 0, .slice none 0 0, .slice none 0 0, .slice none 0 0, .slice none 0 0, .int .i64 0, .int .i64 0, .slice none 0 0, .slice none 0 0, .slice none 0 0, .slice none 0 0, .int .i64 0], R.lst 3 1 a_c9_2 n_c9_2 (cells (EI .i64) l_c9_2) D_c9_2, R.lst 3 1 a89 (n_c9_4 + 1) (cells (EI .i64) (l_c9_4 ++ [(-1)])) D90, R.lst 187 2 a_c8_2 n_c8_2 (cells EP l_c8_2) D_c8_2] := m101.pick [7, 2, 10, 11, 0, 1, 3, 4, 5, 6, 8, 9, 12] (by decide) rfl
            refine KO.callV rfl rfl rfl rfl rfl (pref_in A100 (1 + ((x108 + 1) * ci)) H.next ci a_cL n_cL c_cL a_cA n_cA c_cA a_cB n_cB c_cB a_cC n_cC c_cC H55.next k 1 a_c9_2 n_c9_2 n_c9_2 _ _ _ D_c9_3 _ E_c9_3 a89 (n_c9_4 + 1) (n_c9_4 + 1) none 0 0 1 (wrap64 (by omega) (by omega)) (m103.ownK (Rs := [R.row H.next 26 true [.int .i64 ci, .slice a_cL n_cL c_cL, .slice a_cA n_cA c_cA, .slice a_cB n_cB c_cB, .slice a_cC n_cC c_cC], R.row H55.next 38 true [.int .i64 k, .int .i64 1, .slice a_c9_2 n_c9_2 n_c9_2, .slice a_c9_3 n_c9_3 n_c9_3, .slice a89 (n_c9_4 + 1) (n_c9_4 + 1), .slice none 0 0, .int .i64 1], R.lst 24 1 a_c9_3 n_c9_3 (cells ES l_c9_3) D_c9_3, R.inn (EI .i64) l_c9_3 i_c9_3 E_c9_3])) (wrap64 (by omega) (by omega)) (wrap64 (by omega) (by omega)) (wrap64 (by omega) (by omega)) (wrap64 (by omega) (by omega)) (by first | omega | assumption) (by first | assumption | exact all_nil)) fun v104 H104 q104 => ?_
            obtain ⟨a104, n104, v104, D104, x104, E104, hv104, mc104, p104_0, p104_1⟩ := q104
            dsimp only at hv104 mc104
            subst hv104
            have m105 := m103.seqK (Rs := [R.row H.next 26 true [.int .i64 ci, .slice a_cL n_cL c_cL, .slice a_cA n_cA c_cA, .slice a_cB n_cB c_cB, .slice a_cC n_cC c_cC], R.row H55.next 38 true [.int .i64 k, .int .i64 1, .slice a_c9_2 n_c9_2 n_c9_2, .slice a_c9_3 n_c9_3 n_c9_3, .slice a89 (n_c9_4 + 1) (n_c9_4 + 1), .slice none 0 0, .int .i64 1], R.lst 24 1 a_c9_3 n_c9_3 (cells ES l_c9_3) D_c9_3, R.inn (EI .i64) l_c9_3 i_c9_3 E_c9_3]) mc104
            refine KO.nil ?_
            refine KC.seq ?_
            refine KC.region ?_
            refine KO.pv (PV.move rfl) rfl rfl ?_
            refine KO.pv (PV.move rfl) rfl rfl ?_
            refine KO.pv (PV.move rfl) rfl rfl ?_
            have m106 : Mem [] H H104 [R.row b55 153 true [.int .i64 ((k + 1) * ci), .slice a52 (n47 + 1) (n47 + 1), .slice a_c8_2 n_c8_2 n_c8_2, .slice none 0 0, .slice none 0 0, .int .i64 ci, .slice a_cL n_cL c_cL, .slice a_cA n_cA c_cA, .slice a_cB n_cB c_cB, .slice a_cC n_cC c_cC, .map (some m55)], R.lst 187 2 a_c8_2 n_c8_2 (cells EP l_c8_2) D_c8_2, R.mp m55 KP (VI fun x => 0 ≤ x ∧ x / 2 ≤ 200000), R.row H.next 26 true [.int .i64 ci, .slice a_cL n_cL c_cL, .slice a_cA n_cA c_cA, .slice a_cB n_cB c_cB, .slice a_cC n_cC c_cC], R.row H55.next 38 true [.int .i64 k, .int .i64 1, .slice a_c9_2 n_c9_2 n_c9_2, .slice a104 n104 n104, .slice a89 (n_c9_4 + 1) (n_c9_4 + 1), .slice none 0 0, .int .i64 1], R.lst 24 1 a104 n104 (cells ES v104) D104, R.inn (EI .i64) v104 x104 E104, R.lst 3 1 a15 n15 (cells (EI .i64) l15) D15, R.lst 3 1 a11 n11 (cells (EI .i64) l11) D11, R.lst 150 2 a52 (n47 + 1) (cells EP (xs47 ++ [(0, 1)])) D53, R.row H1.next 40 true [.int .i64 0, .slice none 0 0, .slice none 0 0, .slice none 0 0, .slice none 0 0, .int .i64 0, .int .i64 0, .slice none 0 0, .slice none 0 0, .slice none 0 0, .slice none 0 0, .int .i64 0], R.lst 3 1 a_c9_2 n_c9_2 (cells (EI .i64) l_c9_2) D_c9_2, R.lst 3 1 a89 (n_c9_4 + 1) (cells (EI .i64) (l_c9_4 ++ [(-1)])) D90] := m105.pick [6, 12, 7, 0, 1, 2, 3, 4, 5, 8, 9, 10, 11] (by decide) rfl
            refine KO.call rfl rfl rfl rfl (pref_frame H104 b55 ((k + 1) * ci) a52 (n47 + 1) (n47 + 1) _ _ _ D_c8_2 none 0 0 none 0 0 ci a_cL n_cL c_cL a_cA n_cA c_cA a_cB n_cB c_cB a_cC n_cC c_cC m55 (1 + ((x108 + 1) * ci)) a11 n11 n11 _ _ _ _ _ (m106.ownK (Rs := [R.row b55 153 true [.int .i64 ((k + 1) * ci), .slice a52 (n47 + 1) (n47 + 1), .slice a_c8_2 n_c8_2 n_c8_2, .slice none 0 0, .slice none 0 0, .int .i64 ci, .slice a_cL n_cL c_cL, .slice a_cA n_cA c_cA, .slice a_cB n_cB c_cB, .slice a_cC n_cC c_cC, .map (some m55)], R.lst 187 2 a_c8_2 n_c8_2 (cells EP l_c8_2) D_c8_2, R.mp m55 KP (VI fun x => 0 ≤ x ∧ x / 2 ≤ 200000)])) (wrap64 (by omega) (by omega)) hw_l_c8_2 (wrap64 (by omega) (by omega)) (wrap64 (by omega) (by omega)) (m106.vlst (i := 8) rfl hw_l11 (by first | omega | (simp only [splice, List.length_append, List.length_set, List.length_replicate, List.length_map, List.length_take, List.length_drop, List.length_cons, List.length_nil] <;> omega))) (sepCons (m106.sepLst (k := 8) (i := 0) rfl rfl (by decide)) (sepCons (m106.sepLst (k := 8) (i := 1) rfl rfl (by decide)) (sepCons (m106.sepLst (k := 8) (i := 2) rfl rfl (by decide)) sepEnd))) (V.mem m106 h_cL) (sepCons (V.sep m106 h_cL (i := 0) rfl) (sepCons (V.sep m106 h_cL (i := 1) rfl) (sepCons (V.sep m106 h_cL (i := 2) rfl) sepEnd))) (V.mem m106 h_cA) (sepCons (V.sep m106 h_cA (i := 0) rfl) (sepCons (V.sep m106 h_cA (i := 1) rfl) (sepCons (V.sep m106 h_cA (i := 2) rfl) sepEnd))) (V.mem m106 h_cB) (sepCons (V.sep m106 h_cB (i := 0) rfl) (sepCons (V.sep m106 h_cB (i := 1) rfl) (sepCons (V.sep m106 h_cB (i := 2) rfl) sepEnd))) (V.mem m106 h_cC) (sepCons (V.sep m106 h_cC (i := 0) rfl) (sepCons (V.sep m106 h_cC (i := 1) rfl) (sepCons (V.sep m106 h_cC (i := 2) rfl) sepEnd))) (by first | omega | assumption) (by first | omega | assumption) (by first | omega | assumption) (by first | omega | assumption) (by assumption)) fun v107 H107 q107 => ?_
            obtain ⟨ra107, rn107, rb107, rr107, rx107, rD107, a107, n107, xs107, D107, hv107, mc107, p107_0, p107_1, p107_2, p107_3, p107_4, p107_5, p107_6⟩ := q107
            dsimp only at hv107 mc107
            subst hv107
            have m108 := m106.seqK (Rs := [R.row b55 153 true [.int .i64 ((k + 1) * ci), .slice a52 (n47 + 1) (n47 + 1), .slice a_c8_2 n_c8_2 n_c8_2, .slice none 0 0, .slice none 0 0, .int .i64 ci, .slice a_cL n_cL c_cL, .slice a_cA n_cA c_cA, .slice a_cB n_cB c_cB, .slice a_cC n_cC c_cC, .map (some m55)], R.lst 187 2 a_c8_2 n_c8_2 (cells EP l_c8_2) D_c8_2, R.mp m55 KP (VI fun x => 0 ≤ x ∧ x / 2 ≤ 200000)]) mc107
            have ll107_1 : xs107.length = n107 := m108.lstLen (E := EP) (i := 1) rfl
            refine KO.allocM m108 zt157_B17 rfl rfl fun H109 m110 => ?_
            refine KO.storeM m110 (i := 0) rfl sz157_B17 rfl rfl rfl (show 0 + 3 ≤ 3 by decide) (show _ = [.slice ra107 rn107 rn107, .int .i64 rb107, .int .i64 rr107] from rfl) rfl fun H111 m112 => ?_
            refine KO.nil ?_
            refine KC.seq ?_
            refine KC.region ?_
            refine KO.pv (PV.move rfl) rfl rfl ?_
            refine KO.pv (PV.move rfl) rfl rfl ?_
            refine KO.pv (PV.fieldAddr fo157_2_B17 rfl) rfl rfl ?_
            refine KO.load1 ag3_B17 rfl (m112.row (i := 0) rfl) rfl rfl rfl ?_
            have m113 : Mem [] H H111 [R.row b55 153 true [.int .i64 ((k + 1) * ci), .slice a52 (n47 + 1) (n47 + 1), .slice a107 n107 n107, .slice none 0 0, .slice none 0 0, .int .i64 ci, .slice a_cL n_cL c_cL, .slice a_cA n_cA c_cA, .slice a_cB n_cB c_cB, .slice a_cC n_cC c_cC, .map (some m55)], R.lst 187 2 a107 n107 (cells EP xs107) D107, R.mp m55 KP (VI fun x => 0 ≤ x ∧ x / 2 ≤ 200000), R.row H107.next 157 true [.slice ra107 rn107 rn107, .int .i64 rb107, .int .i64 rr107], R.lst 3 1 ra107 rn107 (cells (EI .i64) rx107) rD107, R.row H.next 26 true [.int .i64 ci, .slice a_cL n_cL c_cL, .slice a_cA n_cA c_cA, .slice a_cB n_cB c_cB, .slice a_cC n_cC c_cC], R.row H55.next 38 true [.int .i64 k, .int .i64 1, .slice a_c9_2 n_c9_2 n_c9_2, .slice a104 n104 n104, .slice a89 (n_c9_4 + 1) (n_c9_4 + 1), .slice none 0 0, .int .i64 1], R.lst 24 1 a104 n104 (cells ES v104) D104, R.inn (EI .i64) v104 x104 E104, R.lst 3 1 a15 n15 (cells (EI .i64) l15) D15, R.lst 3 1 a11 n11 (cells (EI .i64) l11) D11, R.lst 150 2 a52 (n47 + 1) (cells EP (xs47 ++ [(0, 1)])) D53, R.row H1.next 40 true [.int .i64 0, .slice none 0 0, .slice none 0 0, .slice none 0 0, .slice none 0 0, .int .i64 0, .int .i64 0, .slice none 0 0, .slice none 0 0, .slice none 0 0, .slice none 0 0, .int .i64 0], R.lst 3 1 a_c9_2 n_c9_2 (cells (EI .i64) l_c9_2) D_c9_2, R.lst 3 1 a89 (n_c9_4 + 1) (cells (EI .i64) (l_c9_4 ++ [(-1)])) D90] := m112.pick [1, 2, 3, 0, 4, 5, 6, 7, 8, 9, 10, 11, 12, 13, 14] (by decide) rfl
            refine KO.call rfl rfl rfl rfl (pref_and H111 b55 ((k + 1) * ci) a52 (n47 + 1) (n47 + 1) _ _ _ D107 none 0 0 none 0 0 ci a_cL n_cL c_cL a_cA n_cA c_cA a_cB n_cB c_cB a_cC n_cC c_cC m55 x14 rr107 (m113.ownK (Rs := [R.row b55 153 true [.int .i64 ((k + 1) * ci), .slice a52 (n47 + 1) (n47 + 1), .slice a107 n107 n107, .slice none 0 0, .slice none 0 0, .int .i64 ci, .slice a_cL n_cL c_cL, .slice a_cA n_cA c_cA, .slice a_cB n_cB c_cB, .slice a_cC n_cC c_cC, .map (some m55)], R.lst 187 2 a107 n107 (cells EP xs107) D107, R.mp m55 KP (VI fun x => 0 ≤ x ∧ x / 2 ≤ 200000)])) (wrap64 (by omega) (by omega)) (by assumption) (wrap64 (by omega) (by omega)) (wrap64 (by omega) (by omega)) (wrap64 (by omega) (by omega)) (by first | omega | assumption) (by first | omega | assumption) (by first | omega | assumption)) fun v114 H114 q114 => ?_
            obtain ⟨z114, a114, n114, xs114, D114, hv114, mc114, p114_0, p114_1, p114_2⟩ := q114
            dsimp only at hv114 mc114
            subst hv114
            have m115 := m113.seqK (Rs := [R.row b55 153 true [.int .i64 ((k + 1) * ci), .slice a52 (n47 + 1) (n47 + 1), .slice a107 n107 n107, .slice none 0 0, .slice none 0 0, .int .i64 ci, .slice a_cL n_cL c_cL, .slice a_cA n_cA c_cA, .slice a_cB n_cB c_cB, .slice a_cC n_cC c_cC, .map (some m55)], R.lst 187 2 a107 n107 (cells EP xs107) D107, R.mp m55 KP (VI fun x => 0 ≤ x ∧ x / 2 ≤ 200000)]) mc114
            have ll114_1 : xs114.length = n114 := m115.lstLen (E := EP) (i := 1) rfl
            refine KO.pv (PV.assign rfl) rfl rfl ?_
            refine KO.nil ?_
            refine KC.seq ?_
            refine KC.region ?_
            refine KO.pv (PV.move rfl) rfl rfl ?_
            refine KO.pv (PV.move rfl) rfl rfl ?_
            refine KO.pv (PV.fieldAddr fo157_1_B17 rfl) rfl rfl ?_
            refine KO.load1 ag3_B17 rfl (m115.row (i := 3) rfl) rfl rfl rfl ?_
            refine KO.pv (PV.move rfl) rfl rfl ?_
            have m116 : Mem [] H H114 [R.row b55 153 true [.int .i64 ((k + 1) * ci), .slice a52 (n47 + 1) (n47 + 1), .slice a114 n114 n114, .slice none 0 0, .slice none 0 0, .int .i64 ci, .slice a_cL n_cL c_cL, .slice a_cA n_cA c_cA, .slice a_cB n_cB c_cB, .slice a_cC n_cC c_cC, .map (some m55)], R.lst 187 2 a114 n114 (cells EP xs114) D114, R.mp m55 KP (VI fun x => 0 ≤ x ∧ x / 2 ≤ 200000), R.row H107.next 157 true [.slice ra107 rn107 rn107, .int .i64 rb107, .int .i64 rr107], R.lst 3 1 ra107 rn107 (cells (EI .i64) rx107) rD107, R.row H.next 26 true [.int .i64 ci, .slice a_cL n_cL c_cL, .slice a_cA n_cA c_cA, .slice a_cB n_cB c_cB, .slice a_cC n_cC c_cC], R.row H55.next 38 true [.int .i64 k, .int .i64 1, .slice a_c9_2 n_c9_2 n_c9_2, .slice a104 n104 n104, .slice a89 (n_c9_4 + 1) (n_c9_4 + 1), .slice none 0 0, .int .i64 1], R.lst 24 1 a104 n104 (cells ES v104) D104, R.inn (EI .i64) v104 x104 E104, R.lst 3 1 a15 n15 (cells (EI .i64) l15) D15, R.lst 3 1 a11 n11 (cells (EI .i64) l11) D11, R.lst 150 2 a52 (n47 + 1) (cells EP (xs47 ++ [(0, 1)])) D53, R.row H1.next 40 true [.int .i64 0, .slice none 0 0, .slice none 0 0, .slice none 0 0, .slice none 0 0, .int .i64 0, .int .i64 0, .slice none 0 0, .slice none 0 0, .slice none 0 0, .slice none 0 0, .int .i64 0], R.lst 3 1 a_c9_2 n_c9_2 (cells (EI .i64) l_c9_2) D_c9_2, R.lst 3 1 a89 (n_c9_4 + 1) (cells (EI .i64) (l_c9_4 ++ [(-1)])) D90] := m115.pick [0, 1, 2, 3, 4, 5, 6, 7, 8, 9, 10, 11, 12, 13, 14] (by decide) rfl
            refine KO.call rfl rfl rfl rfl (pref_and H114 b55 ((k + 1) * ci) a52 (n47 + 1) (n47 + 1) _ _ _ D114 none 0 0 none 0 0 ci a_cL n_cL c_cL a_cA n_cA c_cA a_cB n_cB c_cB a_cC n_cC c_cC m55 rb107 z114 (m116.ownK (Rs := [R.row b55 153 true [.int .i64 ((k + 1) * ci), .slice a52 (n47 + 1) (n47 + 1), .slice a114 n114 n114, .slice none 0 0, .slice none 0 0, .int .i64 ci, .slice a_cL n_cL c_cL, .slice a_cA n_cA c_cA, .slice a_cB n_cB c_cB, .slice a_cC n_cC c_cC, .map (some m55)], R.lst 187 2 a114 n114 (cells EP xs114) D114, R.mp m55 KP (VI fun x => 0 ≤ x ∧ x / 2 ≤ 200000)])) (wrap64 (by omega) (by omega)) (by assumption) (wrap64 (by omega) (by omega)) (wrap64 (by omega) (by omega)) (wrap64 (by omega) (by omega)) (by first | omega | assumption) (by first | omega | assumption) (by first | omega | assumption)) fun v117 H117 q117 => ?_
            obtain ⟨z117, a117, n117, xs117, D117, hv117, mc117, p117_0, p117_1, p117_2⟩ := q117
            dsimp only at hv117 mc117
            subst hv117
            have m118 := m116.seqK (Rs := [R.row b55 153 true [.int .i64 ((k + 1) * ci), .slice a52 (n47 + 1) (n47 + 1), .slice a114 n114 n114, .slice none 0 0, .slice none 0 0, .int .i64 ci, .slice a_cL n_cL c_cL, .slice a_cA n_cA c_cA, .slice a_cB n_cB c_cB, .slice a_cC n_cC c_cC, .map (some m55)], R.lst 187 2 a114 n114 (cells EP xs114) D114, R.mp m55 KP (VI fun x => 0 ≤ x ∧ x / 2 ≤ 200000)]) mc117
            have ll117_1 : xs117.length = n117 := m118.lstLen (E := EP) (i := 1) rfl
            refine KO.buildSliceM m118 el24_B17 ez3_B17 rfl rfl (show _ = some [.int .i64 z117] from rfl) rfl rfl fun H119 m120 => ?_
            refine KO.appendC (C := (EI .i64)) m120 (i := 10) rfl el24_B17 ez3_B17 sb3_B17 un24_B17 rfl rfl (newElems_row1 (C := (EI .i64)) (y := z117) (m120.row (i := 0) rfl) rfl) rfl (by first | omega | (simp only [splice, List.length_append, List.length_set, List.length_replicate, List.length_map, List.length_take, List.length_drop, List.length_cons, List.length_nil] <;> omega)) rfl rfl fun a122 D123 H121 m124 => ?_
            refine KO.pv (PV.assign rfl) rfl rfl ?_
            refine KO.nil ?_
            refine KC.region ?_
            refine KO.pv (PV.fieldAddr fo157_0_B17 rfl) rfl rfl ?_
            refine KO.load1 ag24_B17 rfl (m124.row (i := 4) rfl) rfl rfl rfl ?_
            refine KO.pv (PV.assign rfl) rfl rfl ?_
            refine KO.nil ?_
            refine KC.region ?_
            refine KO.pv (PV.add rfl rfl (wrap64 (by omega) (by omega))) rfl rfl ?_
            refine KO.pv (PV.move rfl) rfl rfl ?_
            refine KO.nil ?_
            exact ⟨_, _, (by omega), (.cons rfl (.cons rfl (.cons rfl (.cons rfl (.cons rfl (.cons rfl (.cons rfl (.cons rfl (.cons rfl (.cons rfl (.cons rfl (.cons rfl .nil)))))))))))), ra107, rn107, rx107, rD107, z114, a122, (n15 + 1), (l15 ++ [z117]), D123, (x108 + 1), a104, n104, v104, D104, x104, E104, a117, n117, xs117, D117, rfl, rfl, (m124.pick [10, 5, 7, 1, 3, 12, 13, 6, 14, 15, 8, 9, 2] (by decide) rfl), (by first | omega | assumption | (constructor <;> omega)), (by first | omega | (simp only [splice, List.length_append, List.length_set, List.length_replicate, List.length_map, List.length_take, List.length_drop, List.length_cons, List.length_nil] <;> omega)), (by assumption), (by assumption), (by first | omega | (simp only [splice, List.length_append, List.length_set, List.length_replicate, List.length_map, List.length_take, List.length_drop, List.length_cons, List.length_nil] <;> omega)), (all_app hw_l15 (all_one (wf64 (by omega) (by omega)))), (all_app hh (all_one (by first | omega | assumption | (constructor <;> omega)))), (by first | omega | (simp only [splice, List.length_append, List.length_set, List.length_replicate, List.length_map, List.length_take, List.length_drop, List.length_cons, List.length_nil] <;> omega)), (by first | omega | (simp only [splice, List.length_append, List.length_set, List.length_replicate, List.length_map, List.length_take, List.length_drop, List.length_cons, List.length_nil] <;> omega)), (by first | omega | (simp only [splice, List.length_append, List.length_set, List.length_replicate, List.length_map, List.length_take, List.length_drop, List.length_cons, List.length_nil] <;> omega)), (by first | omega | (simp only [splice, List.length_append, List.length_set, List.length_replicate, List.length_map, List.length_take, List.length_drop, List.length_cons, List.length_nil] <;> omega)), (by first | omega | (simp only [splice, List.length_append, List.length_set, List.length_replicate, List.length_map, List.length_take, List.length_drop, List.length_cons, List.length_nil] <;> omega)), (by first | omega | (simp only [splice, List.length_append, List.length_set, List.length_replicate, List.length_map, List.length_take, List.length_drop, List.length_cons, List.length_nil] <;> omega)), (by assumption), (by first | omega | (simp only [splice, List.length_append, List.length_set, List.length_replicate, List.length_map, List.length_take, List.length_drop, List.length_cons, List.length_nil] <;> omega)), (by assumption)⟩
          · refine KC.exit ?_
            refine KC.seq ?_
            refine KC.region ?_
            refine KO.pv (PV.move rfl) rfl rfl ?_
            have m125 : Mem [] H A100 [R.row H.next 26 true [.int .i64 ci, .slice a_cL n_cL c_cL, .slice a_cA n_cA c_cA, .slice a_cB n_cB c_cB, .slice a_cC n_cC c_cC], R.row H55.next 38 true [.int .i64 k, .int .i64 1, .slice a_c9_2 n_c9_2 n_c9_2, .slice a_c9_3 n_c9_3 n_c9_3, .slice a89 (n_c9_4 + 1) (n_c9_4 + 1), .slice none 0 0, .int .i64 1], R.lst 24 1 a_c9_3 n_c9_3 (cells ES l_c9_3) D_c9_3, R.inn (EI .i64) l_c9_3 i_c9_3 E_c9_3, R.lst 3 1 a15 n15 (cells (EI .i64) l15) D15, R.lst 3 1 a11 n11 (cells (EI .i64) l11) D11, R.row b55 153 true [.int .i64 ((k + 1) * ci), .slice a52 (n47 + 1) (n47 + 1), .slice a_c8_2 n_c8_2 n_c8_2, .slice none 0 0, .slice none 0 0, .int .i64 ci, .slice a_cL n_cL c_cL, .slice a_cA n_cA c_cA, .slice a_cB n_cB c_cB, .slice a_cC n_cC c_cC, .map (some m55)], R.mp m55 KP (VI fun x => 0 ≤ x ∧ x / 2 ≤ 200000), R.lst 150 2 a52 (n47 + 1) (cells EP (xs47 ++ [(0, 1)])) D53, R.row H1.next 40 true [.int .i64 0, .slice none 0 0, .slice none 0 0, .slice none 0 0, .slice none 0 0, .int .i64 0, .int .i64 0, .slice none 0 0, .slice none 0 0, .slice none 0 0, .slice none 0 0, .int .i64 0], R.lst 3 1 a_c9_2 n_c9_2 (cells (EI .i64) l_c9_2) D_c9_2, R.lst 3 1 a89 (n_c9_4 + 1) (cells (EI .i64) (l_c9_4 ++ [(-1)])) D90, R.lst 187 2 a_c8_2 n_c8_2 (cells EP l_c8_2) D_c8_2] := m101.pick [7, 2, 10, 11, 0, 1, 3, 4, 5, 6, 8, 9, 12] (by decide) rfl
            refine KO.callV rfl rfl rfl rfl rfl (pref_in A100 1 H.next ci a_cL n_cL c_cL a_cA n_cA c_cA a_cB n_cB c_cB a_cC n_cC c_cC H55.next k 1 a_c9_2 n_c9_2 n_c9_2 _ _ _ D_c9_3 _ E_c9_3 a89 (n_c9_4 + 1) (n_c9_4 + 1) none 0 0 1 (wrap64 (by omega) (by omega)) (m125.ownK (Rs := [R.row H.next 26 true [.int .i64 ci, .slice a_cL n_cL c_cL, .slice a_cA n_cA c_cA, .slice a_cB n_cB c_cB, .slice a_cC n_cC c_cC], R.row H55.next 38 true [.int .i64 k, .int .i64 1, .slice a_c9_2 n_c9_2 n_c9_2, .slice a_c9_3 n_c9_3 n_c9_3, .slice a89 (n_c9_4 + 1) (n_c9_4 + 1), .slice none 0 0, .int .i64 1], R.lst 24 1 a_c9_3 n_c9_3 (cells ES l_c9_3) D_c9_3, R.inn (EI .i64) l_c9_3 i_c9_3 E_c9_3])) (wrap64 (by omega) (by omega)) (wrap64 (by omega) (by omega)) (wrap64 (by omega) (by omega)) (wrap64 (by omega) (by omega)) (by first | omega | assumption) (by first | assumption | exact all_nil)) fun v126 H126 q126 => ?_
            obtain ⟨a126, n126, v126, D126, x126, E126, hv126, mc126, p126_0, p126_1⟩ := q126
            dsimp only at hv126 mc126
            subst hv126
            have m127 := m125.seqK (Rs := [R.row H.next 26 true [.int .i64 ci, .slice a_cL n_cL c_cL, .slice a_cA n_cA c_cA, .slice a_cB n_cB c_cB, .slice a_cC n_cC c_cC], R.row H55.next 38 true [.int .i64 k, .int .i64 1, .slice a_c9_2 n_c9_2 n_c9_2, .slice a_c9_3 n_c9_3 n_c9_3, .slice a89 (n_c9_4 + 1) (n_c9_4 + 1), .slice none 0 0, .int .i64 1], R.lst 24 1 a_c9_3 n_c9_3 (cells ES l_c9_3) D_c9_3, R.inn (EI .i64) l_c9_3 i_c9_3 E_c9_3]) mc126
            refine KO.nil ?_
            refine KC.seq ?_
            refine KC.seq ?_
            refine KC.region ?_
            refine KO.pv (PV.move rfl) rfl rfl ?_
            refine KO.pv (PV.move rfl) rfl rfl ?_
            refine KO.nil ?_
            refine KC.block ?_
            refine KC.sub (l' := [(4, .pointer (some ⟨H1.next, 0, none⟩)), (8, .pointer (some ⟨b55, 0, none⟩)), (9, .pointer (some ⟨H55.next, 0, none⟩)), (11, .slice a11 n11 n11), (12, .int .i64 (2 * ((((k + 1) * ci) + 1) + (n_cL : Int)))), (14, .int .i64 x14), (15, .slice a15 n15 n15), (142, .int .i64 (n_cL : Int)), (143, .int .i64 0)]) (.cons rfl (.cons rfl (.cons rfl (.cons rfl (.cons rfl (.cons rfl (.cons rfl (.cons rfl (.cons rfl .nil))))))))) ?_
            refine KC.loopN (fun kq lq A => ∃ (x143 : Int) (l11 : List Int) (a_c8_2b : Option Addr) (n_c8_2b : Nat) (l_c8_2b : List (Int × Int)) (D_c8_2b : List Nat), kq = ((n_cL : Int) - x143).toNat ∧ lq = [(4, .pointer (some ⟨H1.next, 0, none⟩)), (8, .pointer (some ⟨b55, 0, none⟩)), (9, .pointer (some ⟨H55.next, 0, none⟩)), (11, .slice a11 n11 n11), (12, .int .i64 (2 * ((((k + 1) * ci) + 1) + (n_cL : Int)))), (14, .int .i64 x14), (15, .slice a15 n15 n15), (142, .int .i64 (n_cL : Int)), (143, .int .i64 x143)] ∧ Mem [] H A [R.row H55.next 38 true [.int .i64 k, .int .i64 1, .slice a_c9_2 n_c9_2 n_c9_2, .slice a126 n126 n126, .slice a89 (n_c9_4 + 1) (n_c9_4 + 1), .slice none 0 0, .int .i64 1], R.lst 24 1 a126 n126 (cells ES v126) D126, R.inn (EI .i64) v126 x126 E126, R.lst 3 1 a15 n15 (cells (EI .i64) l15) D15, R.lst 3 1 a11 n11 (cells (EI .i64) l11) D11, R.row b55 153 true [.int .i64 ((k + 1) * ci), .slice a52 (n47 + 1) (n47 + 1), .slice a_c8_2b n_c8_2b n_c8_2b, .slice none 0 0, .slice none 0 0, .int .i64 ci, .slice a_cL n_cL c_cL, .slice a_cA n_cA c_cA, .slice a_cB n_cB c_cB, .slice a_cC n_cC c_cC, .map (some m55)], R.mp m55 KP (VI fun x => 0 ≤ x ∧ x / 2 ≤ 200000), R.lst 150 2 a52 (n47 + 1) (cells EP (xs47 ++ [(0, 1)])) D53, R.row H1.next 40 true [.int .i64 0, .slice none 0 0, .slice none 0 0, .slice none 0 0, .slice none 0 0, .int .i64 0, .int .i64 0, .slice none 0 0, .slice none 0 0, .slice none 0 0, .slice none 0 0, .int .i64 0], R.lst 3 1 a_c9_2 n_c9_2 (cells (EI .i64) l_c9_2) D_c9_2, R.lst 3 1 a89 (n_c9_4 + 1) (cells (EI .i64) (l_c9_4 ++ [(-1)])) D90, R.lst 187 2 a_c8_2b n_c8_2b (cells EP l_c8_2b) D_c8_2b] ∧ (0 ≤ x143 ∧ x143 ≤ (n_cL : Int)) ∧ ((n_c8_2b : Int) ≤ 1300 * k + 3 * x143) ∧ (l11.length = n11) ∧ (∀ u ∈ l11, (EI .i64).wf u) ∧ (∀ u ∈ l11, 0 ≤ u ∧ u / 2 ≤ 200000) ∧ (l_c8_2b.length = n_c8_2b) ∧ (∀ u ∈ l_c8_2b, (EP).wf u)) ?_ (((n_cL : Int) - 0).toNat) ⟨0, l11, a_c8_2, n_c8_2, l_c8_2, D_c8_2, rfl, rfl, (m127.pick [1, 2, 3, 4, 5, 6, 7, 8, 9, 10, 11, 12] (by decide) rfl), (by first | omega | assumption | (constructor <;> omega)), (by first | omega | (simp only [splice, List.length_append, List.length_set, List.length_replicate, List.length_map, List.length_take, List.length_drop, List.length_cons, List.length_nil] <;> omega)), (by first | omega | (simp only [splice, List.length_append, List.length_set, List.length_replicate, List.length_map, List.length_take, List.length_drop, List.length_cons, List.length_nil] <;> omega)), hw_l11, (by assumption), (by first | omega | (simp only [splice, List.length_append, List.length_set, List.length_replicate, List.length_map, List.length_take, List.length_drop, List.length_cons, List.length_nil] <;> omega)), hw_l_c8_2⟩
            rintro kq lq A128 ⟨x143, l11, a_c8_2b, n_c8_2b, l_c8_2b, D_c8_2b, rfl, rfl, m129, hr33, hnAb, hl_l11, hw_l11, hs2, hl_l_c8_2b, hw_l_c8_2b⟩
            refine KC.seq ?_
            refine KC.region ?_
            refine KO.pv (PV.lssD rfl rfl rfl) rfl rfl ?_
            refine KO.nil ?_
            refine KC.seq ?_
            refine KC.condD rfl (fun h130 => ?_) (fun h130 => ?_)
            · refine KC.skip ?_
              refine KC.seq ?_
              refine KC.block ?_
              refine KC.seq ?_
              refine KC.region ?_
              refine KO.pv (PV.move rfl) rfl rfl ?_
              refine KO.pv (PV.assign rfl) rfl rfl ?_
              refine KO.nil ?_
              refine KC.seq ?_
              refine KC.region ?_
              refine KO.pv (PV.move rfl) rfl rfl ?_
              refine KO.pv (PV.move rfl) rfl rfl ?_
              refine KO.pv (PV.move rfl) rfl rfl ?_
              refine KO.pv (PV.move rfl) rfl rfl ?_
              obtain ⟨b131, o131, p131, r131, e131, ha131, hb131, hr131, hx131, hw131, hc131, ht131⟩ := V.at_ (m129.vlst (i := 4) rfl hw_l11 (by first | omega | (simp only [splice, List.length_append, List.length_set, List.length_replicate, List.length_map, List.length_take, List.length_drop, List.length_cons, List.length_nil] <;> omega))) (z := x143) (by omega) (by omega)
              have hc131_0 : r131.cs[o131 + (x143).toNat * 1 + 0]? = some (.int .i64 e131) := hc131 0 (by decide)
              have hw131 : IntKind.i64.wrap e131 = e131 := hw131
              obtain ⟨lo131, hi131⟩ := rangei64 hw131
              have hs2131 := hs2 _ (List.mem_of_getElem? hx131)
              refine KO.pv (PV.indexAddrZ un24_B17 sz3_B17 rfl ha131 rfl (by omega) (by omega)) rfl rfl ?_
              refine KO.load1 ag3_B17 rfl hr131 hc131_0 rfl rfl ?_
              have m132 : Mem [] H A128 [R.row b55 153 true [.int .i64 ((k + 1) * ci), .slice a52 (n47 + 1) (n47 + 1), .slice a_c8_2b n_c8_2b n_c8_2b, .slice none 0 0, .slice none 0 0, .int .i64 ci, .slice a_cL n_cL c_cL, .slice a_cA n_cA c_cA, .slice a_cB n_cB c_cB, .slice a_cC n_cC c_cC, .map (some m55)], R.lst 187 2 a_c8_2b n_c8_2b (cells EP l_c8_2b) D_c8_2b, R.mp m55 KP (VI fun x => 0 ≤ x ∧ x / 2 ≤ 200000), R.row H55.next 38 true [.int .i64 k, .int .i64 1, .slice a_c9_2 n_c9_2 n_c9_2, .slice a126 n126 n126, .slice a89 (n_c9_4 + 1) (n_c9_4 + 1), .slice none 0 0, .int .i64 1], R.lst 24 1 a126 n126 (cells ES v126) D126, R.inn (EI .i64) v126 x126 E126, R.lst 3 1 a15 n15 (cells (EI .i64) l15) D15, R.lst 3 1 a11 n11 (cells (EI .i64) l11) D11, R.lst 150 2 a52 (n47 + 1) (cells EP (xs47 ++ [(0, 1)])) D53, R.row H1.next 40 true [.int .i64 0, .slice none 0 0, .slice none 0 0, .slice none 0 0, .slice none 0 0, .int .i64 0, .int .i64 0, .slice none 0 0, .slice none 0 0, .slice none 0 0, .slice none 0 0, .int .i64 0], R.lst 3 1 a_c9_2 n_c9_2 (cells (EI .i64) l_c9_2) D_c9_2, R.lst 3 1 a89 (n_c9_4 + 1) (cells (EI .i64) (l_c9_4 ++ [(-1)])) D90] := m129.pick [5, 11, 6, 0, 1, 2, 3, 4, 7, 8, 9, 10] (by decide) rfl
              refine KO.call rfl rfl rfl rfl (pref_and A128 b55 ((k + 1) * ci) a52 (n47 + 1) (n47 + 1) _ _ _ D_c8_2b none 0 0 none 0 0 ci a_cL n_cL c_cL a_cA n_cA c_cA a_cB n_cB c_cB a_cC n_cC c_cC m55 (2 * ((((k + 1) * ci) + 1) + (n_cL : Int))) e131 (m132.ownK (Rs := [R.row b55 153 true [.int .i64 ((k + 1) * ci), .slice a52 (n47 + 1) (n47 + 1), .slice a_c8_2b n_c8_2b n_c8_2b, .slice none 0 0, .slice none 0 0, .int .i64 ci, .slice a_cL n_cL c_cL, .slice a_cA n_cA c_cA, .slice a_cB n_cB c_cB, .slice a_cC n_cC c_cC, .map (some m55)], R.lst 187 2 a_c8_2b n_c8_2b (cells EP l_c8_2b) D_c8_2b, R.mp m55 KP (VI fun x => 0 ≤ x ∧ x / 2 ≤ 200000)])) (wrap64 (by omega) (by omega)) hw_l_c8_2b (wrap64 (by omega) (by omega)) (wrap64 (by omega) (by omega)) (wrap64 (by omega) (by omega)) (by first | omega | assumption) (by first | omega | assumption) (by first | omega | assumption)) fun v133 H133 q133 => ?_
              obtain ⟨z133, a133, n133, xs133, D133, hv133, mc133, p133_0, p133_1, p133_2⟩ := q133
              dsimp only at hv133 mc133
              subst hv133
              have m134 := m132.seqK (Rs := [R.row b55 153 true [.int .i64 ((k + 1) * ci), .slice a52 (n47 + 1) (n47 + 1), .slice a_c8_2b n_c8_2b n_c8_2b, .slice none 0 0, .slice none 0 0, .int .i64 ci, .slice a_cL n_cL c_cL, .slice a_cA n_cA c_cA, .slice a_cB n_cB c_cB, .slice a_cC n_cC c_cC, .map (some m55)], R.lst 187 2 a_c8_2b n_c8_2b (cells EP l_c8_2b) D_c8_2b, R.mp m55 KP (VI fun x => 0 ≤ x ∧ x / 2 ≤ 200000)]) mc133
              have ll133_1 : xs133.length = n133 := m134.lstLen (E := EP) (i := 1) rfl
              refine KO.pv (PV.assign rfl) rfl rfl ?_
              refine KO.nil ?_
              refine KC.seq ?_
              refine KC.region ?_
              refine KO.pv (PV.move rfl) rfl rfl ?_
              refine KO.pv (PV.move rfl) rfl rfl ?_
              obtain ⟨x135, dx135, rx135, zx135, qx135⟩ := xor1 ((2 * ((((k + 1) * ci) + 1) + (n_cL : Int)))) (by omega) (by omega)
              refine KO.pv (PV.xor1 rfl rfl qx135) rfl rfl ?_
              refine KO.pv (PV.fieldAddr fo38_2_B17 rfl) rfl rfl ?_
              refine KO.load1 ag24_B17 rfl (m134.row (i := 3) rfl) rfl rfl rfl ?_
              refine KO.pv (PV.move rfl) rfl rfl ?_
              obtain ⟨b136, o136, p136, r136, e136, ha136, hb136, hr136, hx136, hw136, hc136, ht136⟩ := V.at_ (m134.vlst (i := 10) rfl hw_l_c9_2 (by first | omega | (simp only [splice, List.length_append, List.length_set, List.length_replicate, List.length_map, List.length_take, List.length_drop, List.length_cons, List.length_nil] <;> omega))) (z := x143) (by omega) (by omega)
              have hc136_0 : r136.cs[o136 + (x143).toNat * 1 + 0]? = some (.int .i64 e136) := hc136 0 (by decide)
              have hw136 : IntKind.i64.wrap e136 = e136 := hw136
              obtain ⟨lo136, hi136⟩ := rangei64 hw136
              have hf136 := hf _ (List.mem_of_getElem? hx136)
              refine KO.pv (PV.indexAddrZ un24_B17 sz3_B17 rfl ha136 rfl (by omega) (by omega)) rfl rfl ?_
              refine KO.load1 ag3_B17 rfl hr136 hc136_0 rfl rfl ?_
              have m137 : Mem [] H H133 [R.row b55 153 true [.int .i64 ((k + 1) * ci), .slice a52 (n47 + 1) (n47 + 1), .slice a133 n133 n133, .slice none 0 0, .slice none 0 0, .int .i64 ci, .slice a_cL n_cL c_cL, .slice a_cA n_cA c_cA, .slice a_cB n_cB c_cB, .slice a_cC n_cC c_cC, .map (some m55)], R.lst 187 2 a133 n133 (cells EP xs133) D133, R.mp m55 KP (VI fun x => 0 ≤ x ∧ x / 2 ≤ 200000), R.row H55.next 38 true [.int .i64 k, .int .i64 1, .slice a_c9_2 n_c9_2 n_c9_2, .slice a126 n126 n126, .slice a89 (n_c9_4 + 1) (n_c9_4 + 1), .slice none 0 0, .int .i64 1], R.lst 24 1 a126 n126 (cells ES v126) D126, R.inn (EI .i64) v126 x126 E126, R.lst 3 1 a15 n15 (cells (EI .i64) l15) D15, R.lst 3 1 a11 n11 (cells (EI .i64) l11) D11, R.lst 150 2 a52 (n47 + 1) (cells EP (xs47 ++ [(0, 1)])) D53, R.row H1.next 40 true [.int .i64 0, .slice none 0 0, .slice none 0 0, .slice none 0 0, .slice none 0 0, .int .i64 0, .int .i64 0, .slice none 0 0, .slice none 0 0, .slice none 0 0, .slice none 0 0, .int .i64 0], R.lst 3 1 a_c9_2 n_c9_2 (cells (EI .i64) l_c9_2) D_c9_2, R.lst 3 1 a89 (n_c9_4 + 1) (cells (EI .i64) (l_c9_4 ++ [(-1)])) D90] := m134.pick [0, 1, 2, 3, 4, 5, 6, 7, 8, 9, 10, 11] (by decide) rfl
              refine KO.call rfl rfl rfl rfl (pref_and H133 b55 ((k + 1) * ci) a52 (n47 + 1) (n47 + 1) _ _ _ D133 none 0 0 none 0 0 ci a_cL n_cL c_cL a_cA n_cA c_cA a_cB n_cB c_cB a_cC n_cC c_cC m55 x135 e136 (m137.ownK (Rs := [R.row b55 153 true [.int .i64 ((k + 1) * ci), .slice a52 (n47 + 1) (n47 + 1), .slice a133 n133 n133, .slice none 0 0, .slice none 0 0, .int .i64 ci, .slice a_cL n_cL c_cL, .slice a_cA n_cA c_cA, .slice a_cB n_cB c_cB, .slice a_cC n_cC c_cC, .map (some m55)], R.lst 187 2 a133 n133 (cells EP xs133) D133, R.mp m55 KP (VI fun x => 0 ≤ x ∧ x / 2 ≤ 200000)])) (wrap64 (by omega) (by omega)) (by assumption) (wrap64 (by omega) (by omega)) (wrap64 (by omega) (by omega)) (wrap64 (by omega) (by omega)) (by first | omega | assumption) (by first | omega | assumption) (by first | omega | assumption)) fun v138 H138 q138 => ?_
              obtain ⟨z138, a138, n138, xs138, D138, hv138, mc138, p138_0, p138_1, p138_2⟩ := q138
              dsimp only at hv138 mc138
              subst hv138
              have m139 := m137.seqK (Rs := [R.row b55 153 true [.int .i64 ((k + 1) * ci), .slice a52 (n47 + 1) (n47 + 1), .slice a133 n133 n133, .slice none 0 0, .slice none 0 0, .int .i64 ci, .slice a_cL n_cL c_cL, .slice a_cA n_cA c_cA, .slice a_cB n_cB c_cB, .slice a_cC n_cC c_cC, .map (some m55)], R.lst 187 2 a133 n133 (cells EP xs133) D133, R.mp m55 KP (VI fun x => 0 ≤ x ∧ x / 2 ≤ 200000)]) mc138
              have ll138_1 : xs138.length = n138 := m139.lstLen (E := EP) (i := 1) rfl
              refine KO.pv (PV.assign rfl) rfl rfl ?_
              refine KO.nil ?_
              refine KC.region ?_
              refine KO.pv (PV.move rfl) rfl rfl ?_
              refine KO.pv (PV.move rfl) rfl rfl ?_
              refine KO.pv (PV.move rfl) rfl rfl ?_
              refine KO.pv (PV.move rfl) rfl rfl ?_
              refine KO.pv (PV.move rfl) rfl rfl ?_
              have m140 : Mem [] H H138 [R.row b55 153 true [.int .i64 ((k + 1) * ci), .slice a52 (n47 + 1) (n47 + 1), .slice a138 n138 n138, .slice none 0 0, .slice none 0 0, .int .i64 ci, .slice a_cL n_cL c_cL, .slice a_cA n_cA c_cA, .slice a_cB n_cB c_cB, .slice a_cC n_cC c_cC, .map (some m55)], R.lst 187 2 a138 n138 (cells EP xs138) D138, R.mp m55 KP (VI fun x => 0 ≤ x ∧ x / 2 ≤ 200000), R.row H55.next 38 true [.int .i64 k, .int .i64 1, .slice a_c9_2 n_c9_2 n_c9_2, .slice a126 n126 n126, .slice a89 (n_c9_4 + 1) (n_c9_4 + 1), .slice none 0 0, .int .i64 1], R.lst 24 1 a126 n126 (cells ES v126) D126, R.inn (EI .i64) v126 x126 E126, R.lst 3 1 a15 n15 (cells (EI .i64) l15) D15, R.lst 3 1 a11 n11 (cells (EI .i64) l11) D11, R.lst 150 2 a52 (n47 + 1) (cells EP (xs47 ++ [(0, 1)])) D53, R.row H1.next 40 true [.int .i64 0, .slice none 0 0, .slice none 0 0, .slice none 0 0, .slice none 0 0, .int .i64 0, .int .i64 0, .slice none 0 0, .slice none 0 0, .slice none 0 0, .slice none 0 0, .int .i64 0], R.lst 3 1 a_c9_2 n_c9_2 (cells (EI .i64) l_c9_2) D_c9_2, R.lst 3 1 a89 (n_c9_4 + 1) (cells (EI .i64) (l_c9_4 ++ [(-1)])) D90] := m139.pick [0, 1, 2, 3, 4, 5, 6, 7, 8, 9, 10, 11] (by decide) rfl
              refine KO.call rfl rfl rfl rfl (pref_or H138 b55 ((k + 1) * ci) a52 (n47 + 1) (n47 + 1) _ _ _ D138 none 0 0 none 0 0 ci a_cL n_cL c_cL a_cA n_cA c_cA a_cB n_cB c_cB a_cC n_cC c_cC m55 z133 z138 (m140.ownK (Rs := [R.row b55 153 true [.int .i64 ((k + 1) * ci), .slice a52 (n47 + 1) (n47 + 1), .slice a138 n138 n138, .slice none 0 0, .slice none 0 0, .int .i64 ci, .slice a_cL n_cL c_cL, .slice a_cA n_cA c_cA, .slice a_cB n_cB c_cB, .slice a_cC n_cC c_cC, .map (some m55)], R.lst 187 2 a138 n138 (cells EP xs138) D138, R.mp m55 KP (VI fun x => 0 ≤ x ∧ x / 2 ≤ 200000)])) (wrap64 (by omega) (by omega)) (by assumption) (wrap64 (by omega) (by omega)) (wrap64 (by omega) (by omega)) (wrap64 (by omega) (by omega)) (by first | omega | assumption) (by first | omega | assumption) (by first | omega | assumption)) fun v141 H141 q141 => ?_
              obtain ⟨z141, a141, n141, xs141, D141, hv141, mc141, p141_0, p141_1, p141_2⟩ := q141
              dsimp only at hv141 mc141
              subst hv141
              have m142 := m140.seqK (Rs := [R.row b55 153 true [.int .i64 ((k + 1) * ci), .slice a52 (n47 + 1) (n47 + 1), .slice a138 n138 n138, .slice none 0 0, .slice none 0 0, .int .i64 ci, .slice a_cL n_cL c_cL, .slice a_cA n_cA c_cA, .slice a_cB n_cB c_cB, .slice a_cC n_cC c_cC, .map (some m55)], R.lst 187 2 a138 n138 (cells EP xs138) D138, R.mp m55 KP (VI fun x => 0 ≤ x ∧ x / 2 ≤ 200000)]) mc141
              have ll141_1 : xs141.length = n141 := m142.lstLen (E := EP) (i := 1) rfl
              obtain ⟨b143, o143, p143, r143, e143, ha143, hb143, hr143, hx143, hw143, hc143, ht143⟩ := V.at_ (m142.vlst (i := 7) rfl hw_l11 (by first | omega | (simp only [splice, List.length_append, List.length_set, List.length_replicate, List.length_map, List.length_take, List.length_drop, List.length_cons, List.length_nil] <;> omega))) (z := x143) (by omega) (by omega)
              have hc143_0 : r143.cs[o143 + (x143).toNat * 1 + 0]? = some (.int .i64 e143) := hc143 0 (by decide)
              have hw143 : IntKind.i64.wrap e143 = e143 := hw143
              obtain ⟨lo143, hi143⟩ := rangei64 hw143
              have hs2143 := hs2 _ (List.mem_of_getElem? hx143)
              have hq143 : e143 = e131 := Option.some.inj (hx143.symm.trans hx131)
              refine KO.pv (PV.indexAddrZ un24_B17 sz3_B17 rfl ha143 rfl (by omega) (by omega)) rfl rfl ?_
              refine KO.storeL (C := (EI .i64)) (off := (x143).toNat * 1) m142 (i := 7) rfl ha143 (by omega) sz3_B17 rfl rfl rfl (cells_roomF (C := (EI .i64)) (xs := l11) (i := (x143).toNat) (y := z141) (by first | omega | (simp only [splice, List.length_append, List.length_set, List.length_replicate, List.length_map, List.length_take, List.length_drop, List.length_cons, List.length_nil] <;> omega))) (cells_put (E := (EI .i64)) (xs := l11) (i := (x143).toNat) z141 (by first | omega | (simp only [splice, List.length_append, List.length_set, List.length_replicate, List.length_map, List.length_take, List.length_drop, List.length_cons, List.length_nil] <;> omega))) rfl fun H144 m145 => ?_
              refine KO.nil ?_
              refine KC.region ?_
              refine KO.pv (PV.add rfl rfl (wrap64 (by omega) (by omega))) rfl rfl ?_
              refine KO.pv (PV.move rfl) rfl rfl ?_
              refine KO.nil ?_
              exact ⟨_, _, (by omega), (.cons rfl (.cons rfl (.cons rfl (.cons rfl (.cons rfl (.cons rfl (.cons rfl (.cons rfl (.cons rfl .nil))))))))), (x143 + 1), (l11.set ((x143).toNat) z141), a141, n141, xs141, D141, rfl, rfl, (m145.pick [3, 4, 5, 6, 7, 0, 2, 8, 9, 10, 11, 1] (by decide) rfl), (by first | omega | assumption | (constructor <;> omega)), (by first | omega | (simp only [splice, List.length_append, List.length_set, List.length_replicate, List.length_map, List.length_take, List.length_drop, List.length_cons, List.length_nil] <;> omega)), (by first | omega | (simp only [splice, List.length_append, List.length_set, List.length_replicate, List.length_map, List.length_take, List.length_drop, List.length_cons, List.length_nil] <;> omega)), (all_set hw_l11 (wf64 (by omega) (by omega))), (all_set hs2 (by first | omega | assumption | (constructor <;> omega))), (by first | omega | (simp only [splice, List.length_append, List.length_set, List.length_replicate, List.length_map, List.length_take, List.length_drop, List.length_cons, List.length_nil] <;> omega)), (by assumption)⟩
            · refine KC.exit ?_
              refine KC.seq ?_
              refine KC.region ?_
              refine KO.pv (PV.move rfl) rfl rfl ?_
              refine KO.pv (PV.move rfl) rfl rfl ?_
              have m146 : Mem [] H A128 [R.row b55 153 true [.int .i64 ((k + 1) * ci), .slice a52 (n47 + 1) (n47 + 1), .slice a_c8_2b n_c8_2b n_c8_2b, .slice none 0 0, .slice none 0 0, .int .i64 ci, .slice a_cL n_cL c_cL, .slice a_cA n_cA c_cA, .slice a_cB n_cB c_cB, .slice a_cC n_cC c_cC, .map (some m55)], R.lst 187 2 a_c8_2b n_c8_2b (cells EP l_c8_2b) D_c8_2b, R.mp m55 KP (VI fun x => 0 ≤ x ∧ x / 2 ≤ 200000), R.row H55.next 38 true [.int .i64 k, .int .i64 1, .slice a_c9_2 n_c9_2 n_c9_2, .slice a126 n126 n126, .slice a89 (n_c9_4 + 1) (n_c9_4 + 1), .slice none 0 0, .int .i64 1], R.lst 24 1 a126 n126 (cells ES v126) D126, R.inn (EI .i64) v126 x126 E126, R.lst 3 1 a15 n15 (cells (EI .i64) l15) D15, R.lst 3 1 a11 n11 (cells (EI .i64) l11) D11, R.lst 150 2 a52 (n47 + 1) (cells EP (xs47 ++ [(0, 1)])) D53, R.row H1.next 40 true [.int .i64 0, .slice none 0 0, .slice none 0 0, .slice none 0 0, .slice none 0 0, .int .i64 0, .int .i64 0, .slice none 0 0, .slice none 0 0, .slice none 0 0, .slice none 0 0, .int .i64 0], R.lst 3 1 a_c9_2 n_c9_2 (cells (EI .i64) l_c9_2) D_c9_2, R.lst 3 1 a89 (n_c9_4 + 1) (cells (EI .i64) (l_c9_4 ++ [(-1)])) D90] := m129.pick [5, 11, 6, 0, 1, 2, 3, 4, 7, 8, 9, 10] (by decide) rfl
              refine KO.call rfl rfl rfl rfl (pref_frame A128 b55 ((k + 1) * ci) a52 (n47 + 1) (n47 + 1) _ _ _ D_c8_2b none 0 0 none 0 0 ci a_cL n_cL c_cL a_cA n_cA c_cA a_cB n_cB c_cB a_cC n_cC c_cC m55 1 a11 n11 n11 _ _ _ _ _ (m146.ownK (Rs := [R.row b55 153 true [.int .i64 ((k + 1) * ci), .slice a52 (n47 + 1) (n47 + 1), .slice a_c8_2b n_c8_2b n_c8_2b, .slice none 0 0, .slice none 0 0, .int .i64 ci, .slice a_cL n_cL c_cL, .slice a_cA n_cA c_cA, .slice a_cB n_cB c_cB, .slice a_cC n_cC c_cC, .map (some m55)], R.lst 187 2 a_c8_2b n_c8_2b (cells EP l_c8_2b) D_c8_2b, R.mp m55 KP (VI fun x => 0 ≤ x ∧ x / 2 ≤ 200000)])) (wrap64 (by omega) (by omega)) hw_l_c8_2b (wrap64 (by omega) (by omega)) (wrap64 (by omega) (by omega)) (m146.vlst (i := 7) rfl hw_l11 (by first | omega | (simp only [splice, List.length_append, List.length_set, List.length_replicate, List.length_map, List.length_take, List.length_drop, List.length_cons, List.length_nil] <;> omega))) (sepCons (m146.sepLst (k := 7) (i := 0) rfl rfl (by decide)) (sepCons (m146.sepLst (k := 7) (i := 1) rfl rfl (by decide)) (sepCons (m146.sepLst (k := 7) (i := 2) rfl rfl (by decide)) sepEnd))) (V.mem m146 h_cL) (sepCons (V.sep m146 h_cL (i := 0) rfl) (sepCons (V.sep m146 h_cL (i := 1) rfl) (sepCons (V.sep m146 h_cL (i := 2) rfl) sepEnd))) (V.mem m146 h_cA) (sepCons (V.sep m146 h_cA (i := 0) rfl) (sepCons (V.sep m146 h_cA (i := 1) rfl) (sepCons (V.sep m146 h_cA (i := 2) rfl) sepEnd))) (V.mem m146 h_cB) (sepCons (V.sep m146 h_cB (i := 0) rfl) (sepCons (V.sep m146 h_cB (i := 1) rfl) (sepCons (V.sep m146 h_cB (i := 2) rfl) sepEnd))) (V.mem m146 h_cC) (sepCons (V.sep m146 h_cC (i := 0) rfl) (sepCons (V.sep m146 h_cC (i := 1) rfl) (sepCons (V.sep m146 h_cC (i := 2) rfl) sepEnd))) (by first | omega | assumption) (by first | omega | assumption) (by first | omega | assumption) (by first | omega | assumption) (by assumption)) fun v147 H147 q147 => ?_
              obtain ⟨ra147, rn147, rb147, rr147, rx147, rD147, a147, n147, xs147, D147, hv147, mc147, p147_0, p147_1, p147_2, p147_3, p147_4, p147_5, p147_6⟩ := q147
              dsimp only at hv147 mc147
              subst hv147
              have m148 := m146.seqK (Rs := [R.row b55 153 true [.int .i64 ((k + 1) * ci), .slice a52 (n47 + 1) (n47 + 1), .slice a_c8_2b n_c8_2b n_c8_2b, .slice none 0 0, .slice none 0 0, .int .i64 ci, .slice a_cL n_cL c_cL, .slice a_cA n_cA c_cA, .slice a_cB n_cB c_cB, .slice a_cC n_cC c_cC, .map (some m55)], R.lst 187 2 a_c8_2b n_c8_2b (cells EP l_c8_2b) D_c8_2b, R.mp m55 KP (VI fun x => 0 ≤ x ∧ x / 2 ≤ 200000)]) mc147
              have ll147_1 : xs147.length = n147 := m148.lstLen (E := EP) (i := 1) rfl
              refine KO.allocM m148 zt157_B17 rfl rfl fun H149 m150 => ?_
              refine KO.storeM m150 (i := 0) rfl sz157_B17 rfl rfl rfl (show 0 + 3 ≤ 3 by decide) (show _ = [.slice ra147 rn147 rn147, .int .i64 rb147, .int .i64 rr147] from rfl) rfl fun H151 m152 => ?_
              refine KO.nil ?_
              refine KC.seq ?_
              refine KC.region ?_
              refine KO.pv (PV.move rfl) rfl rfl ?_
              refine KO.pv (PV.move rfl) rfl rfl ?_
              refine KO.pv (PV.move rfl) rfl rfl ?_
              refine KO.pv (PV.move rfl) rfl rfl ?_
              have m153 : Mem [] H H151 [R.row b55 153 true [.int .i64 ((k + 1) * ci), .slice a52 (n47 + 1) (n47 + 1), .slice a147 n147 n147, .slice none 0 0, .slice none 0 0, .int .i64 ci, .slice a_cL n_cL c_cL, .slice a_cA n_cA c_cA, .slice a_cB n_cB c_cB, .slice a_cC n_cC c_cC, .map (some m55)], R.lst 187 2 a147 n147 (cells EP xs147) D147, R.mp m55 KP (VI fun x => 0 ≤ x ∧ x / 2 ≤ 200000), R.row H147.next 157 true [.slice ra147 rn147 rn147, .int .i64 rb147, .int .i64 rr147], R.lst 3 1 ra147 rn147 (cells (EI .i64) rx147) rD147, R.row H55.next 38 true [.int .i64 k, .int .i64 1, .slice a_c9_2 n_c9_2 n_c9_2, .slice a126 n126 n126, .slice a89 (n_c9_4 + 1) (n_c9_4 + 1), .slice none 0 0, .int .i64 1], R.lst 24 1 a126 n126 (cells ES v126) D126, R.inn (EI .i64) v126 x126 E126, R.lst 3 1 a15 n15 (cells (EI .i64) l15) D15, R.lst 3 1 a11 n11 (cells (EI .i64) l11) D11, R.lst 150 2 a52 (n47 + 1) (cells EP (xs47 ++ [(0, 1)])) D53, R.row H1.next 40 true [.int .i64 0, .slice none 0 0, .slice none 0 0, .slice none 0 0, .slice none 0 0, .int .i64 0, .int .i64 0, .slice none 0 0, .slice none 0 0, .slice none 0 0, .slice none 0 0, .int .i64 0], R.lst 3 1 a_c9_2 n_c9_2 (cells (EI .i64) l_c9_2) D_c9_2, R.lst 3 1 a89 (n_c9_4 + 1) (cells (EI .i64) (l_c9_4 ++ [(-1)])) D90] := m152.pick [1, 2, 3, 0, 4, 5, 6, 7, 8, 9, 10, 11, 12, 13] (by decide) rfl
              refine KO.call rfl rfl rfl rfl (pref_any H151 b55 ((k + 1) * ci) a52 (n47 + 1) (n47 + 1) _ _ _ D147 none 0 0 none 0 0 ci a_cL n_cL c_cL a_cA n_cA c_cA a_cB n_cB c_cB a_cC n_cC c_cC m55 a15 n15 n15 _ (m153.ownK (Rs := [R.row b55 153 true [.int .i64 ((k + 1) * ci), .slice a52 (n47 + 1) (n47 + 1), .slice a147 n147 n147, .slice none 0 0, .slice none 0 0, .int .i64 ci, .slice a_cL n_cL c_cL, .slice a_cA n_cA c_cA, .slice a_cB n_cB c_cB, .slice a_cC n_cC c_cC, .map (some m55)], R.lst 187 2 a147 n147 (cells EP xs147) D147, R.mp m55 KP (VI fun x => 0 ≤ x ∧ x / 2 ≤ 200000)])) (wrap64 (by omega) (by omega)) (by assumption) (wrap64 (by omega) (by omega)) (m153.vlst (i := 8) rfl hw_l15 (by first | omega | (simp only [splice, List.length_append, List.length_set, List.length_replicate, List.length_map, List.length_take, List.length_drop, List.length_cons, List.length_nil] <;> omega))) (sepCons (m153.sepLst (k := 8) (i := 0) rfl rfl (by decide)) (sepCons (m153.sepLst (k := 8) (i := 1) rfl rfl (by decide)) (sepCons (m153.sepLst (k := 8) (i := 2) rfl rfl (by decide)) sepEnd))) (by first | omega | assumption) (by first | omega | assumption) (by first | assumption | exact all_nil)) fun v154 H154 q154 => ?_
              obtain ⟨z154, a154, n154, xs154, D154, hv154, mc154, p154_0, p154_1, p154_2⟩ := q154
              dsimp only at hv154 mc154
              subst hv154
              have m155 := m153.seqK (Rs := [R.row b55 153 true [.int .i64 ((k + 1) * ci), .slice a52 (n47 + 1) (n47 + 1), .slice a147 n147 n147, .slice none 0 0, .slice none 0 0, .int .i64 ci, .slice a_cL n_cL c_cL, .slice a_cA n_cA c_cA, .slice a_cB n_cB c_cB, .slice a_cC n_cC c_cC, .map (some m55)], R.lst 187 2 a147 n147 (cells EP xs147) D147, R.mp m55 KP (VI fun x => 0 ≤ x ∧ x / 2 ≤ 200000)]) mc154
              have ll154_1 : xs154.length = n154 := m155.lstLen (E := EP) (i := 1) rfl
              have m156 : Mem [] H H154 [R.row b55 153 true [.int .i64 ((k + 1) * ci), .slice a52 (n47 + 1) (n47 + 1), .slice a154 n154 n154, .slice none 0 0, .slice none 0 0, .int .i64 ci, .slice a_cL n_cL c_cL, .slice a_cA n_cA c_cA, .slice a_cB n_cB c_cB, .slice a_cC n_cC c_cC, .map (some m55)], R.lst 187 2 a154 n154 (cells EP xs154) D154, R.mp m55 KP (VI fun x => 0 ≤ x ∧ x / 2 ≤ 200000), R.row H147.next 157 true [.slice ra147 rn147 rn147, .int .i64 rb147, .int .i64 rr147], R.lst 3 1 ra147 rn147 (cells (EI .i64) rx147) rD147, R.row H55.next 38 true [.int .i64 k, .int .i64 1, .slice a_c9_2 n_c9_2 n_c9_2, .slice a126 n126 n126, .slice a89 (n_c9_4 + 1) (n_c9_4 + 1), .slice none 0 0, .int .i64 1], R.lst 24 1 a126 n126 (cells ES v126) D126, R.inn (EI .i64) v126 x126 E126, R.lst 3 1 a15 n15 (cells (EI .i64) l15) D15, R.lst 3 1 a11 n11 (cells (EI .i64) l11) D11, R.lst 150 2 a52 (n47 + 1) (cells EP (xs47 ++ [(0, 1)])) D53, R.row H1.next 40 true [.int .i64 0, .slice none 0 0, .slice none 0 0, .slice none 0 0, .slice none 0 0, .int .i64 0, .int .i64 0, .slice none 0 0, .slice none 0 0, .slice none 0 0, .slice none 0 0, .int .i64 0], R.lst 3 1 a_c9_2 n_c9_2 (cells (EI .i64) l_c9_2) D_c9_2, R.lst 3 1 a89 (n_c9_4 + 1) (cells (EI .i64) (l_c9_4 ++ [(-1)])) D90] := m155.pick [0, 1, 2, 3, 4, 5, 6, 7, 8, 9, 10, 11, 12, 13] (by decide) rfl
              refine KO.call rfl rfl rfl rfl (pref_and H154 b55 ((k + 1) * ci) a52 (n47 + 1) (n47 + 1) _ _ _ D154 none 0 0 none 0 0 ci a_cL n_cL c_cL a_cA n_cA c_cA a_cB n_cB c_cB a_cC n_cC c_cC m55 (2 * ((((k + 1) * ci) + 1) + (n_cL : Int))) z154 (m156.ownK (Rs := [R.row b55 153 true [.int .i64 ((k + 1) * ci), .slice a52 (n47 + 1) (n47 + 1), .slice a154 n154 n154, .slice none 0 0, .slice none 0 0, .int .i64 ci, .slice a_cL n_cL c_cL, .slice a_cA n_cA c_cA, .slice a_cB n_cB c_cB, .slice a_cC n_cC c_cC, .map (some m55)], R.lst 187 2 a154 n154 (cells EP xs154) D154, R.mp m55 KP (VI fun x => 0 ≤ x ∧ x / 2 ≤ 200000)])) (wrap64 (by omega) (by omega)) (by assumption) (wrap64 (by omega) (by omega)) (wrap64 (by omega) (by omega)) (wrap64 (by omega) (by omega)) (by first | omega | assumption) (by first | omega | assumption) (by first | omega | assumption)) fun v157 H157 q157 => ?_
              obtain ⟨z157, a157, n157, xs157, D157, hv157, mc157, p157_0, p157_1, p157_2⟩ := q157
              dsimp only at hv157 mc157
              subst hv157
              have m158 := m156.seqK (Rs := [R.row b55 153 true [.int .i64 ((k + 1) * ci), .slice a52 (n47 + 1) (n47 + 1), .slice a154 n154 n154, .slice none 0 0, .slice none 0 0, .int .i64 ci, .slice a_cL n_cL c_cL, .slice a_cA n_cA c_cA, .slice a_cB n_cB c_cB, .slice a_cC n_cC c_cC, .map (some m55)], R.lst 187 2 a154 n154 (cells EP xs154) D154, R.mp m55 KP (VI fun x => 0 ≤ x ∧ x / 2 ≤ 200000)]) mc157
              have ll157_1 : xs157.length = n157 := m158.lstLen (E := EP) (i := 1) rfl
              refine KO.pv (PV.assign rfl) rfl rfl ?_
              refine KO.nil ?_
              refine KC.seq ?_
              refine KC.region ?_
              refine KO.pv (PV.move rfl) rfl rfl ?_
              refine KO.pv (PV.move rfl) rfl rfl ?_
              refine KO.pv (PV.fieldAddr fo157_1_B17 rfl) rfl rfl ?_
              refine KO.load1 ag3_B17 rfl (m158.row (i := 3) rfl) rfl rfl rfl ?_
              refine KO.pv (PV.move rfl) rfl rfl ?_
              have m159 : Mem [] H H157 [R.row b55 153 true [.int .i64 ((k + 1) * ci), .slice a52 (n47 + 1) (n47 + 1), .slice a157 n157 n157, .slice none 0 0, .slice none 0 0, .int .i64 ci, .slice a_cL n_cL c_cL, .slice a_cA n_cA c_cA, .slice a_cB n_cB c_cB, .slice a_cC n_cC c_cC, .map (some m55)], R.lst 187 2 a157 n157 (cells EP xs157) D157, R.mp m55 KP (VI fun x => 0 ≤ x ∧ x / 2 ≤ 200000), R.row H147.next 157 true [.slice ra147 rn147 rn147, .int .i64 rb147, .int .i64 rr147], R.lst 3 1 ra147 rn147 (cells (EI .i64) rx147) rD147, R.row H55.next 38 true [.int .i64 k, .int .i64 1, .slice a_c9_2 n_c9_2 n_c9_2, .slice a126 n126 n126, .slice a89 (n_c9_4 + 1) (n_c9_4 + 1), .slice none 0 0, .int .i64 1], R.lst 24 1 a126 n126 (cells ES v126) D126, R.inn (EI .i64) v126 x126 E126, R.lst 3 1 a15 n15 (cells (EI .i64) l15) D15, R.lst 3 1 a11 n11 (cells (EI .i64) l11) D11, R.lst 150 2 a52 (n47 + 1) (cells EP (xs47 ++ [(0, 1)])) D53, R.row H1.next 40 true [.int .i64 0, .slice none 0 0, .slice none 0 0, .slice none 0 0, .slice none 0 0, .int .i64 0, .int .i64 0, .slice none 0 0, .slice none 0 0, .slice none 0 0, .slice none 0 0, .int .i64 0], R.lst 3 1 a_c9_2 n_c9_2 (cells (EI .i64) l_c9_2) D_c9_2, R.lst 3 1 a89 (n_c9_4 + 1) (cells (EI .i64) (l_c9_4 ++ [(-1)])) D90] := m158.pick [0, 1, 2, 3, 4, 5, 6, 7, 8, 9, 10, 11, 12, 13] (by decide) rfl
              refine KO.call rfl rfl rfl rfl (pref_or H157 b55 ((k + 1) * ci) a52 (n47 + 1) (n47 + 1) _ _ _ D157 none 0 0 none 0 0 ci a_cL n_cL c_cL a_cA n_cA c_cA a_cB n_cB c_cB a_cC n_cC c_cC m55 rb147 z157 (m159.ownK (Rs := [R.row b55 153 true [.int .i64 ((k + 1) * ci), .slice a52 (n47 + 1) (n47 + 1), .slice a157 n157 n157, .slice none 0 0, .slice none 0 0, .int .i64 ci, .slice a_cL n_cL c_cL, .slice a_cA n_cA c_cA, .slice a_cB n_cB c_cB, .slice a_cC n_cC c_cC, .map (some m55)], R.lst 187 2 a157 n157 (cells EP xs157) D157, R.mp m55 KP (VI fun x => 0 ≤ x ∧ x / 2 ≤ 200000)])) (wrap64 (by omega) (by omega)) (by assumption) (wrap64 (by omega) (by omega)) (wrap64 (by omega) (by omega)) (wrap64 (by omega) (by omega)) (by first | omega | assumption) (by first | omega | assumption) (by first | omega | assumption)) fun v160 H160 q160 => ?_
              obtain ⟨z160, a160, n160, xs160, D160, hv160, mc160, p160_0, p160_1, p160_2⟩ := q160
              dsimp only at hv160 mc160
              subst hv160
              have m161 := m159.seqK (Rs := [R.row b55 153 true [.int .i64 ((k + 1) * ci), .slice a52 (n47 + 1) (n47 + 1), .slice a157 n157 n157, .slice none 0 0, .slice none 0 0, .int .i64 ci, .slice a_cL n_cL c_cL, .slice a_cA n_cA c_cA, .slice a_cB n_cB c_cB, .slice a_cC n_cC c_cC, .map (some m55)], R.lst 187 2 a157 n157 (cells EP xs157) D157, R.mp m55 KP (VI fun x => 0 ≤ x ∧ x / 2 ≤ 200000)]) mc160
              have ll160_1 : xs160.length = n160 := m161.lstLen (E := EP) (i := 1) rfl
              refine KO.buildSliceM m161 el24_B17 ez3_B17 rfl rfl (show _ = some [.int .i64 z160] from rfl) rfl rfl fun H162 m163 => ?_
              refine KO.pv (PV.nilCheck rfl) rfl rfl ?_
              refine KO.pv (PV.fieldAddr fo153_0_B17 rfl) rfl rfl ?_
              refine KO.pv (PV.fieldAddr fo26_3_B17 rfl) rfl rfl ?_
              refine KO.storeM m163 (i := 1) rfl sz24_B17 rfl rfl rfl (show 3 + 1 ≤ 11 by decide) (show _ = [.int .i64 ((k + 1) * ci), .slice a52 (n47 + 1) (n47 + 1), .slice a160 n160 n160, .slice (some ⟨H160.next, 0, none⟩) 1 1, .slice none 0 0, .int .i64 ci, .slice a_cL n_cL c_cL, .slice a_cA n_cA c_cA, .slice a_cB n_cB c_cB, .slice a_cC n_cC c_cC, .map (some m55)] from rfl) rfl fun H164 m165 => ?_
              refine KO.nil ?_
              refine KC.seq ?_
              refine KC.region ?_
              refine KO.pv (PV.move rfl) rfl rfl ?_
              refine KO.pv (PV.move rfl) rfl rfl ?_
              obtain ⟨x166, dx166, rx166, zx166, qx166⟩ := xor1 ((2 * ((((k + 1) * ci) + 1) + (n_cL : Int)))) (by omega) (by omega)
              refine KO.pv (PV.xor1 rfl rfl qx166) rfl rfl ?_
              refine KO.pv (PV.move rfl) rfl rfl ?_
              have m167 : Mem [] H H164 [R.row b55 153 true [.int .i64 ((k + 1) * ci), .slice a52 (n47 + 1) (n47 + 1), .slice a160 n160 n160, .slice (some ⟨H160.next, 0, none⟩) 1 1, .slice none 0 0, .int .i64 ci, .slice a_cL n_cL c_cL, .slice a_cA n_cA c_cA, .slice a_cB n_cB c_cB, .slice a_cC n_cC c_cC, .map (some m55)], R.lst 187 2 a160 n160 (cells EP xs160) D160, R.mp m55 KP (VI fun x => 0 ≤ x ∧ x / 2 ≤ 200000), R.row H160.next 3 true [.int .i64 z160], R.row H147.next 157 true [.slice ra147 rn147 rn147, .int .i64 rb147, .int .i64 rr147], R.lst 3 1 ra147 rn147 (cells (EI .i64) rx147) rD147, R.row H55.next 38 true [.int .i64 k, .int .i64 1, .slice a_c9_2 n_c9_2 n_c9_2, .slice a126 n126 n126, .slice a89 (n_c9_4 + 1) (n_c9_4 + 1), .slice none 0 0, .int .i64 1], R.lst 24 1 a126 n126 (cells ES v126) D126, R.inn (EI .i64) v126 x126 E126, R.lst 3 1 a15 n15 (cells (EI .i64) l15) D15, R.lst 3 1 a11 n11 (cells (EI .i64) l11) D11, R.lst 150 2 a52 (n47 + 1) (cells EP (xs47 ++ [(0, 1)])) D53, R.row H1.next 40 true [.int .i64 0, .slice none 0 0, .slice none 0 0, .slice none 0 0, .slice none 0 0, .int .i64 0, .int .i64 0, .slice none 0 0, .slice none 0 0, .slice none 0 0, .slice none 0 0, .int .i64 0], R.lst 3 1 a_c9_2 n_c9_2 (cells (EI .i64) l_c9_2) D_c9_2, R.lst 3 1 a89 (n_c9_4 + 1) (cells (EI .i64) (l_c9_4 ++ [(-1)])) D90] := m165.pick [1, 2, 3, 0, 4, 5, 6, 7, 8, 9, 10, 11, 12, 13, 14] (by decide) rfl
              refine KO.call rfl rfl rfl rfl (pref_or H164 b55 ((k + 1) * ci) a52 (n47 + 1) (n47 + 1) _ _ _ D160 (some ⟨H160.next, 0, none⟩) 1 1 none 0 0 ci a_cL n_cL c_cL a_cA n_cA c_cA a_cB n_cB c_cB a_cC n_cC c_cC m55 x166 x14 (m167.ownK (Rs := [R.row b55 153 true [.int .i64 ((k + 1) * ci), .slice a52 (n47 + 1) (n47 + 1), .slice a160 n160 n160, .slice (some ⟨H160.next, 0, none⟩) 1 1, .slice none 0 0, .int .i64 ci, .slice a_cL n_cL c_cL, .slice a_cA n_cA c_cA, .slice a_cB n_cB c_cB, .slice a_cC n_cC c_cC, .map (some m55)], R.lst 187 2 a160 n160 (cells EP xs160) D160, R.mp m55 KP (VI fun x => 0 ≤ x ∧ x / 2 ≤ 200000)])) (wrap64 (by omega) (by omega)) (by assumption) (wrap64 (by omega) (by omega)) (wrap64 (by omega) (by omega)) (wrap64 (by omega) (by omega)) (by first | omega | assumption) (by first | omega | assumption) (by first | omega | assumption)) fun v168 H168 q168 => ?_
              obtain ⟨z168, a168, n168, xs168, D168, hv168, mc168, p168_0, p168_1, p168_2⟩ := q168
              dsimp only at hv168 mc168
              subst hv168
              have m169 := m167.seqK (Rs := [R.row b55 153 true [.int .i64 ((k + 1) * ci), .slice a52 (n47 + 1) (n47 + 1), .slice a160 n160 n160, .slice (some ⟨H160.next, 0, none⟩) 1 1, .slice none 0 0, .int .i64 ci, .slice a_cL n_cL c_cL, .slice a_cA n_cA c_cA, .slice a_cB n_cB c_cB, .slice a_cC n_cC c_cC, .map (some m55)], R.lst 187 2 a160 n160 (cells EP xs160) D160, R.mp m55 KP (VI fun x => 0 ≤ x ∧ x / 2 ≤ 200000)]) mc168
              have ll168_1 : xs168.length = n168 := m169.lstLen (E := EP) (i := 1) rfl
              refine KO.pv (PV.assign rfl) rfl rfl ?_
              refine KO.nil ?_
              refine KC.seq ?_
              refine KC.region ?_
              refine KO.pv (PV.move rfl) rfl rfl ?_
              refine KO.pv (PV.move rfl) rfl rfl ?_
              refine KO.pv (PV.move rfl) rfl rfl ?_
              refine KO.pv (PV.move rfl) rfl rfl ?_
              refine KO.pv (PV.fieldAddr fo157_2_B17 rfl) rfl rfl ?_
              refine KO.load1 ag3_B17 rfl (m169.row (i := 4) rfl) rfl rfl rfl ?_
              refine KO.pv (PV.move rfl) rfl rfl ?_
              have m170 : Mem [] H H168 [R.row b55 153 true [.int .i64 ((k + 1) * ci), .slice a52 (n47 + 1) (n47 + 1), .slice a168 n168 n168, .slice (some ⟨H160.next, 0, none⟩) 1 1, .slice none 0 0, .int .i64 ci, .slice a_cL n_cL c_cL, .slice a_cA n_cA c_cA, .slice a_cB n_cB c_cB, .slice a_cC n_cC c_cC, .map (some m55)], R.lst 187 2 a168 n168 (cells EP xs168) D168, R.mp m55 KP (VI fun x => 0 ≤ x ∧ x / 2 ≤ 200000), R.row H160.next 3 true [.int .i64 z160], R.row H147.next 157 true [.slice ra147 rn147 rn147, .int .i64 rb147, .int .i64 rr147], R.lst 3 1 ra147 rn147 (cells (EI .i64) rx147) rD147, R.row H55.next 38 true [.int .i64 k, .int .i64 1, .slice a_c9_2 n_c9_2 n_c9_2, .slice a126 n126 n126, .slice a89 (n_c9_4 + 1) (n_c9_4 + 1), .slice none 0 0, .int .i64 1], R.lst 24 1 a126 n126 (cells ES v126) D126, R.inn (EI .i64) v126 x126 E126, R.lst 3 1 a15 n15 (cells (EI .i64) l15) D15, R.lst 3 1 a11 n11 (cells (EI .i64) l11) D11, R.lst 150 2 a52 (n47 + 1) (cells EP (xs47 ++ [(0, 1)])) D53, R.row H1.next 40 true [.int .i64 0, .slice none 0 0, .slice none 0 0, .slice none 0 0, .slice none 0 0, .int .i64 0, .int .i64 0, .slice none 0 0, .slice none 0 0, .slice none 0 0, .slice none 0 0, .int .i64 0], R.lst 3 1 a_c9_2 n_c9_2 (cells (EI .i64) l_c9_2) D_c9_2, R.lst 3 1 a89 (n_c9_4 + 1) (cells (EI .i64) (l_c9_4 ++ [(-1)])) D90] := m169.pick [0, 1, 2, 3, 4, 5, 6, 7, 8, 9, 10, 11, 12, 13, 14] (by decide) rfl
              refine KO.call rfl rfl rfl rfl (pref_and H168 b55 ((k + 1) * ci) a52 (n47 + 1) (n47 + 1) _ _ _ D168 (some ⟨H160.next, 0, none⟩) 1 1 none 0 0 ci a_cL n_cL c_cL a_cA n_cA c_cA a_cB n_cB c_cB a_cC n_cC c_cC m55 rr147 z168 (m170.ownK (Rs := [R.row b55 153 true [.int .i64 ((k + 1) * ci), .slice a52 (n47 + 1) (n47 + 1), .slice a168 n168 n168, .slice (some ⟨H160.next, 0, none⟩) 1 1, .slice none 0 0, .int .i64 ci, .slice a_cL n_cL c_cL, .slice a_cA n_cA c_cA, .slice a_cB n_cB c_cB, .slice a_cC n_cC c_cC, .map (some m55)], R.lst 187 2 a168 n168 (cells EP xs168) D168, R.mp m55 KP (VI fun x => 0 ≤ x ∧ x / 2 ≤ 200000)])) (wrap64 (by omega) (by omega)) (by assumption) (wrap64 (by omega) (by omega)) (wrap64 (by omega) (by omega)) (wrap64 (by omega) (by omega)) (by first | omega | assumption) (by first | omega | assumption) (by first | omega | assumption)) fun v171 H171 q171 => ?_
              obtain ⟨z171, a171, n171, xs171, D171, hv171, mc171, p171_0, p171_1, p171_2⟩ := q171
              dsimp only at hv171 mc171
              subst hv171
              have m172 := m170.seqK (Rs := [R.row b55 153 true [.int .i64 ((k + 1) * ci), .slice a52 (n47 + 1) (n47 + 1), .slice a168 n168 n168, .slice (some ⟨H160.next, 0, none⟩) 1 1, .slice none 0 0, .int .i64 ci, .slice a_cL n_cL c_cL, .slice a_cA n_cA c_cA, .slice a_cB n_cB c_cB, .slice a_cC n_cC c_cC, .map (some m55)], R.lst 187 2 a168 n168 (cells EP xs168) D168, R.mp m55 KP (VI fun x => 0 ≤ x ∧ x / 2 ≤ 200000)]) mc171
              have ll171_1 : xs171.length = n171 := m172.lstLen (E := EP) (i := 1) rfl
              have m173 : Mem [] H H171 [R.row b55 153 true [.int .i64 ((k + 1) * ci), .slice a52 (n47 + 1) (n47 + 1), .slice a171 n171 n171, .slice (some ⟨H160.next, 0, none⟩) 1 1, .slice none 0 0, .int .i64 ci, .slice a_cL n_cL c_cL, .slice a_cA n_cA c_cA, .slice a_cB n_cB c_cB, .slice a_cC n_cC c_cC, .map (some m55)], R.lst 187 2 a171 n171 (cells EP xs171) D171, R.mp m55 KP (VI fun x => 0 ≤ x ∧ x / 2 ≤ 200000), R.row H160.next 3 true [.int .i64 z160], R.row H147.next 157 true [.slice ra147 rn147 rn147, .int .i64 rb147, .int .i64 rr147], R.lst 3 1 ra147 rn147 (cells (EI .i64) rx147) rD147, R.row H55.next 38 true [.int .i64 k, .int .i64 1, .slice a_c9_2 n_c9_2 n_c9_2, .slice a126 n126 n126, .slice a89 (n_c9_4 + 1) (n_c9_4 + 1), .slice none 0 0, .int .i64 1], R.lst 24 1 a126 n126 (cells ES v126) D126, R.inn (EI .i64) v126 x126 E126, R.lst 3 1 a15 n15 (cells (EI .i64) l15) D15, R.lst 3 1 a11 n11 (cells (EI .i64) l11) D11, R.lst 150 2 a52 (n47 + 1) (cells EP (xs47 ++ [(0, 1)])) D53, R.row H1.next 40 true [.int .i64 0, .slice none 0 0, .slice none 0 0, .slice none 0 0, .slice none 0 0, .int .i64 0, .int .i64 0, .slice none 0 0, .slice none 0 0, .slice none 0 0, .slice none 0 0, .int .i64 0], R.lst 3 1 a_c9_2 n_c9_2 (cells (EI .i64) l_c9_2) D_c9_2, R.lst 3 1 a89 (n_c9_4 + 1) (cells (EI .i64) (l_c9_4 ++ [(-1)])) D90] := m172.pick [0, 1, 2, 3, 4, 5, 6, 7, 8, 9, 10, 11, 12, 13, 14] (by decide) rfl
              refine KO.call rfl rfl rfl rfl (pref_or H171 b55 ((k + 1) * ci) a52 (n47 + 1) (n47 + 1) _ _ _ D171 (some ⟨H160.next, 0, none⟩) 1 1 none 0 0 ci a_cL n_cL c_cL a_cA n_cA c_cA a_cB n_cB c_cB a_cC n_cC c_cC m55 z157 z171 (m173.ownK (Rs := [R.row b55 153 true [.int .i64 ((k + 1) * ci), .slice a52 (n47 + 1) (n47 + 1), .slice a171 n171 n171, .slice (some ⟨H160.next, 0, none⟩) 1 1, .slice none 0 0, .int .i64 ci, .slice a_cL n_cL c_cL, .slice a_cA n_cA c_cA, .slice a_cB n_cB c_cB, .slice a_cC n_cC c_cC, .map (some m55)], R.lst 187 2 a171 n171 (cells EP xs171) D171, R.mp m55 KP (VI fun x => 0 ≤ x ∧ x / 2 ≤ 200000)])) (wrap64 (by omega) (by omega)) (by assumption) (wrap64 (by omega) (by omega)) (wrap64 (by omega) (by omega)) (wrap64 (by omega) (by omega)) (by first | omega | assumption) (by first | omega | assumption) (by first | omega | assumption)) fun v174 H174 q174 => ?_
              obtain ⟨z174, a174, n174, xs174, D174, hv174, mc174, p174_0, p174_1, p174_2⟩ := q174
              dsimp only at hv174 mc174
              subst hv174
              have m175 := m173.seqK (Rs := [R.row b55 153 true [.int .i64 ((k + 1) * ci), .slice a52 (n47 + 1) (n47 + 1), .slice a171 n171 n171, .slice (some ⟨H160.next, 0, none⟩) 1 1, .slice none 0 0, .int .i64 ci, .slice a_cL n_cL c_cL, .slice a_cA n_cA c_cA, .slice a_cB n_cB c_cB, .slice a_cC n_cC c_cC, .map (some m55)], R.lst 187 2 a171 n171 (cells EP xs171) D171, R.mp m55 KP (VI fun x => 0 ≤ x ∧ x / 2 ≤ 200000)]) mc174
              have ll174_1 : xs174.length = n174 := m175.lstLen (E := EP) (i := 1) rfl
              refine KO.buildSliceM m175 el24_B17 ez3_B17 rfl rfl (show _ = some [.int .i64 z174] from rfl) rfl rfl fun H176 m177 => ?_
              refine KO.pv (PV.nilCheck rfl) rfl rfl ?_
              refine KO.pv (PV.fieldAddr fo153_0_B17 rfl) rfl rfl ?_
              refine KO.pv (PV.fieldAddr fo26_4_B17 rfl) rfl rfl ?_
              refine KO.storeM m177 (i := 1) rfl sz24_B17 rfl rfl rfl (show 4 + 1 ≤ 11 by decide) (show _ = [.int .i64 ((k + 1) * ci), .slice a52 (n47 + 1) (n47 + 1), .slice a174 n174 n174, .slice (some ⟨H160.next, 0, none⟩) 1 1, .slice (some ⟨H174.next, 0, none⟩) 1 1, .int .i64 ci, .slice a_cL n_cL c_cL, .slice a_cA n_cA c_cA, .slice a_cB n_cB c_cB, .slice a_cC n_cC c_cC, .map (some m55)] from rfl) rfl fun H178 m179 => ?_
              refine KO.nil ?_
              refine KC.seq ?_
              refine KC.seq ?_
              refine KC.region ?_
              refine KO.pv (PV.fieldAddr fo157_0_B17 rfl) rfl rfl ?_
              refine KO.load1 ag24_B17 rfl (m179.row (i := 5) rfl) rfl rfl rfl ?_
              refine KO.pv (PV.len un24_B17 rfl) rfl rfl ?_
              refine KO.pv (PV.move rfl) rfl rfl ?_
              refine KO.nil ?_
              refine KC.block ?_
              refine KC.sub (l' := [(4, .pointer (some ⟨H1.next, 0, none⟩)), (8, .pointer (some ⟨b55, 0, none⟩)), (9, .pointer (some ⟨H55.next, 0, none⟩)), (208, .slice ra147 rn147 rn147), (209, .int .i64 (rn147 : Int)), (210, .int .i64 0)]) (.cons rfl (.cons rfl (.cons rfl (.cons rfl (.cons rfl (.cons rfl .nil)))))) ?_
              refine KC.loopN (fun kq lq A => ∃ (x210 : Int) (l8_1 : List (Int × Int)), kq = ((rn147 : Int) - x210).toNat ∧ lq = [(4, .pointer (some ⟨H1.next, 0, none⟩)), (8, .pointer (some ⟨b55, 0, none⟩)), (9, .pointer (some ⟨H55.next, 0, none⟩)), (208, .slice ra147 rn147 rn147), (209, .int .i64 (rn147 : Int)), (210, .int .i64 x210)] ∧ Mem [] H A [R.row H174.next 3 true [.int .i64 z174], R.row b55 153 true [.int .i64 ((k + 1) * ci), .slice a52 (n47 + 1) (n47 + 1), .slice a174 n174 n174, .slice (some ⟨H160.next, 0, none⟩) 1 1, .slice (some ⟨H174.next, 0, none⟩) 1 1, .int .i64 ci, .slice a_cL n_cL c_cL, .slice a_cA n_cA c_cA, .slice a_cB n_cB c_cB, .slice a_cC n_cC c_cC, .map (some m55)], R.lst 187 2 a174 n174 (cells EP xs174) D174, R.mp m55 KP (VI fun x => 0 ≤ x ∧ x / 2 ≤ 200000), R.row H160.next 3 true [.int .i64 z160], R.lst 3 1 ra147 rn147 (cells (EI .i64) rx147) rD147, R.row H55.next 38 true [.int .i64 k, .int .i64 1, .slice a_c9_2 n_c9_2 n_c9_2, .slice a126 n126 n126, .slice a89 (n_c9_4 + 1) (n_c9_4 + 1), .slice none 0 0, .int .i64 1], R.lst 24 1 a126 n126 (cells ES v126) D126, R.inn (EI .i64) v126 x126 E126, R.lst 150 2 a52 (n47 + 1) (cells EP l8_1) D53, R.row H1.next 40 true [.int .i64 0, .slice none 0 0, .slice none 0 0, .slice none 0 0, .slice none 0 0, .int .i64 0, .int .i64 0, .slice none 0 0, .slice none 0 0, .slice none 0 0, .slice none 0 0, .int .i64 0], R.lst 3 1 a_c9_2 n_c9_2 (cells (EI .i64) l_c9_2) D_c9_2, R.lst 3 1 a89 (n_c9_4 + 1) (cells (EI .i64) (l_c9_4 ++ [(-1)])) D90] ∧ (0 ≤ x210 ∧ x210 ≤ (rn147 : Int)) ∧ (l8_1.length = (n47 + 1)) ∧ (∀ u ∈ l8_1, (EP).wf u)) ?_ (((rn147 : Int) - 0).toNat) ⟨0, (xs47 ++ [(0, 1)]), rfl, rfl, (m179.pick [0, 1, 2, 3, 4, 6, 7, 8, 9, 12, 13, 14, 15] (by decide) rfl), (by first | omega | assumption | (constructor <;> omega)), (by first | omega | (simp only [splice, List.length_append, List.length_set, List.length_replicate, List.length_map, List.length_take, List.length_drop, List.length_cons, List.length_nil] <;> omega)), (all_app (by assumption) (all_one (wfP ⟨by omega, by omega⟩ ⟨by omega, by omega⟩)))⟩
              rintro kq lq A180 ⟨x210, l8_1, rfl, rfl, m181, hr45, hl_l8_1, hw_l8_1⟩
              refine KC.seq ?_
              refine KC.region ?_
              refine KO.pv (PV.lssD rfl rfl rfl) rfl rfl ?_
              refine KO.nil ?_
              refine KC.seq ?_
              refine KC.condD rfl (fun h182 => ?_) (fun h182 => ?_)
              · refine KC.skip ?_
                refine KC.seq ?_
                refine KC.block ?_
                refine KC.seq ?_
                refine KC.region ?_
                refine KO.pv (PV.move rfl) rfl rfl ?_
                obtain ⟨b183, o183, p183, r183, e183, ha183, hb183, hr183, hx183, hw183, hc183, ht183⟩ := V.at_ (m181.vlst (i := 5) rfl (by assumption) (by first | omega | (simp only [splice, List.length_append, List.length_set, List.length_replicate, List.length_map, List.length_take, List.length_drop, List.length_cons, List.length_nil] <;> omega))) (z := x210) (by omega) (by omega)
                have hc183_0 : r183.cs[o183 + (x210).toNat * 1 + 0]? = some (.int .i64 e183) := hc183 0 (by decide)
                have hw183 : IntKind.i64.wrap e183 = e183 := hw183
                obtain ⟨lo183, hi183⟩ := rangei64 hw183
                have a147_4_183 := p147_4 _ (List.mem_of_getElem? hx183)
                refine KO.pv (PV.indexAddrZ un24_B17 sz3_B17 rfl ha183 rfl (by omega) (by omega)) rfl rfl ?_
                refine KO.load1 ag3_B17 rfl hr183 hc183_0 rfl rfl ?_
                refine KO.pv (PV.assign rfl) rfl rfl ?_
                refine KO.pv (PV.assign rfl) rfl rfl ?_
                refine KO.nil ?_
                refine KC.region ?_
                refine KO.pv (PV.move rfl) rfl rfl ?_
                refine KO.pv (PV.nilCheck rfl) rfl rfl ?_
                refine KO.pv (PV.fieldAddr fo153_0_B17 rfl) rfl rfl ?_
                refine KO.pv (PV.fieldAddr fo26_1_B17 rfl) rfl rfl ?_
                refine KO.load1 ag22_B17 rfl (m181.row (i := 1) rfl) rfl rfl rfl ?_
                refine KO.pv (PV.move rfl) rfl rfl ?_
                refine KO.pv (PV.move rfl) rfl rfl ?_
                obtain ⟨b184, o184, p184, r184, e184, ha184, hb184, hr184, hx184, hw184, hc184, ht184⟩ := V.at_ (m181.vlst (i := 9) rfl hw_l8_1 (by first | omega | (simp only [splice, List.length_append, List.length_set, List.length_replicate, List.length_map, List.length_take, List.length_drop, List.length_cons, List.length_nil] <;> omega))) (z := x210) (by omega) (by omega)
                have hc184_0 : r184.cs[o184 + (x210).toNat * 2 + 0]? = some (.int .i64 e184.1) := hc184 0 (by decide)
                have hc184_1 : r184.cs[o184 + (x210).toNat * 2 + 1]? = some (.int .i64 e184.2) := hc184 1 (by decide)
                obtain ⟨hwa184, hwb184⟩ := hw184
                obtain ⟨loa184, hia184⟩ := rangei64 hwa184
                obtain ⟨lob184, hib184⟩ := rangei64 hwb184
                refine KO.pv (PV.indexAddrZ un22_B17 sz150_B17 rfl ha184 rfl (by omega) (by omega)) rfl rfl ?_
                refine KO.pv (PV.fieldAddr fo150_0_B17 rfl) rfl rfl ?_
                refine KO.storeL (C := EP) (off := (x210).toNat * 2 + 0) m181 (i := 9) rfl ha184 (by omega) sz3_B17 rfl rfl rfl (cells_roomP (C := EP) (xs := l8_1) (i := (x210).toNat) (d := 0) (by first | omega | (simp only [splice, List.length_append, List.length_set, List.length_replicate, List.length_map, List.length_take, List.length_drop, List.length_cons, List.length_nil] <;> omega)) (by decide)) (cells_putP (C := EP) (x := e184) (y := (e183, e184.2)) (d := 0) (by decide) rfl hx184) rfl fun H185 m186 => ?_
                refine KO.nil ?_
                refine KC.region ?_
                refine KO.pv (PV.add rfl rfl (wrap64 (by omega) (by omega))) rfl rfl ?_
                refine KO.pv (PV.move rfl) rfl rfl ?_
                refine KO.nil ?_
                exact ⟨_, _, (by omega), (.cons rfl (.cons rfl (.cons rfl (.cons rfl (.cons rfl (.cons rfl .nil)))))), (x210 + 1), (l8_1.set ((x210).toNat) (e183, e184.2)), rfl, rfl, (m186.pick [0, 1, 2, 3, 4, 5, 6, 7, 8, 9, 10, 11, 12] (by decide) rfl), (by first | omega | assumption | (constructor <;> omega)), (by first | omega | (simp only [splice, List.length_append, List.length_set, List.length_replicate, List.length_map, List.length_take, List.length_drop, List.length_cons, List.length_nil] <;> omega)), (all_set hw_l8_1 (wfP ⟨by omega, by omega⟩ ⟨by omega, by omega⟩))⟩
              · refine KC.exit ?_
                refine KC.seq ?_
                refine KC.seq ?_
                refine KC.region ?_
                refine KO.pv (PV.move rfl) rfl rfl ?_
                have m187 : Mem [] H A180 [R.row b55 153 true [.int .i64 ((k + 1) * ci), .slice a52 (n47 + 1) (n47 + 1), .slice a174 n174 n174, .slice (some ⟨H160.next, 0, none⟩) 1 1, .slice (some ⟨H174.next, 0, none⟩) 1 1, .int .i64 ci, .slice a_cL n_cL c_cL, .slice a_cA n_cA c_cA, .slice a_cB n_cB c_cB, .slice a_cC n_cC c_cC, .map (some m55)], R.lst 187 2 a174 n174 (cells EP xs174) D174, R.mp m55 KP (VI fun x => 0 ≤ x ∧ x / 2 ≤ 200000), R.row H174.next 3 true [.int .i64 z174], R.row H160.next 3 true [.int .i64 z160], R.lst 3 1 ra147 rn147 (cells (EI .i64) rx147) rD147, R.row H55.next 38 true [.int .i64 k, .int .i64 1, .slice a_c9_2 n_c9_2 n_c9_2, .slice a126 n126 n126, .slice a89 (n_c9_4 + 1) (n_c9_4 + 1), .slice none 0 0, .int .i64 1], R.lst 24 1 a126 n126 (cells ES v126) D126, R.inn (EI .i64) v126 x126 E126, R.lst 150 2 a52 (n47 + 1) (cells EP l8_1) D53, R.row H1.next 40 true [.int .i64 0, .slice none 0 0, .slice none 0 0, .slice none 0 0, .slice none 0 0, .int .i64 0, .int .i64 0, .slice none 0 0, .slice none 0 0, .slice none 0 0, .slice none 0 0, .int .i64 0], R.lst 3 1 a_c9_2 n_c9_2 (cells (EI .i64) l_c9_2) D_c9_2, R.lst 3 1 a89 (n_c9_4 + 1) (cells (EI .i64) (l_c9_4 ++ [(-1)])) D90] := m181.pick [1, 2, 3, 0, 4, 5, 6, 7, 8, 9, 10, 11, 12] (by decide) rfl
                refine KO.call rfl rfl rfl rfl (pref_vars A180 b55 ((k + 1) * ci) a52 (n47 + 1) (n47 + 1) _ _ _ D174 (some ⟨H160.next, 0, none⟩) 1 1 (some ⟨H174.next, 0, none⟩) 1 1 ci a_cL n_cL c_cL a_cA n_cA c_cA a_cB n_cB c_cB a_cC n_cC c_cC m55 (m187.ownK (Rs := [R.row b55 153 true [.int .i64 ((k + 1) * ci), .slice a52 (n47 + 1) (n47 + 1), .slice a174 n174 n174, .slice (some ⟨H160.next, 0, none⟩) 1 1, .slice (some ⟨H174.next, 0, none⟩) 1 1, .int .i64 ci, .slice a_cL n_cL c_cL, .slice a_cA n_cA c_cA, .slice a_cB n_cB c_cB, .slice a_cC n_cC c_cC, .map (some m55)], R.lst 187 2 a174 n174 (cells EP xs174) D174, R.mp m55 KP (VI fun x => 0 ≤ x ∧ x / 2 ≤ 200000)])) (wrap64 (by omega) (by omega)) (by assumption) (wrap64 (by omega) (by omega)) (by first | omega | assumption)) fun v188 H188 q188 => ?_
                obtain ⟨hv188, mc188⟩ := q188
                dsimp only at hv188 mc188
                subst hv188
                have m189 := m187.seqK (Rs := [R.row b55 153 true [.int .i64 ((k + 1) * ci), .slice a52 (n47 + 1) (n47 + 1), .slice a174 n174 n174, .slice (some ⟨H160.next, 0, none⟩) 1 1, .slice (some ⟨H174.next, 0, none⟩) 1 1, .int .i64 ci, .slice a_cL n_cL c_cL, .slice a_cA n_cA c_cA, .slice a_cB n_cB c_cB, .slice a_cC n_cC c_cC, .map (some m55)], R.lst 187 2 a174 n174 (cells EP xs174) D174, R.mp m55 KP (VI fun x => 0 ≤ x ∧ x / 2 ≤ 200000)]) mc188
                refine KO.pv (PV.gtrD rfl rfl rfl) rfl rfl ?_
                refine KO.nil ?_
                refine KC.condD rfl (fun h190 => ?_) (fun h190 => ?_)
                · refine KC.seq ?_
                  refine KC.region ?_
                  refine KO.pv (PV.build rfl bl40__B17) rfl rfl ?_
                  refine KO.storeM m189 (i := 10) rfl sz40_B17 rfl rfl rfl (show 0 + 12 ≤ 12 by decide) (show _ = [.int .i64 0, .slice none 0 0, .slice none 0 0, .slice none 0 0, .slice none 0 0, .int .i64 0, .int .i64 0, .slice none 0 0, .slice none 0 0, .slice none 0 0, .slice none 0 0, .int .i64 0] from rfl) rfl fun H191 m192 => ?_
                  refine KO.pv (PV.assign rfl) rfl rfl ?_
                  refine KO.nil ?_
                  have m193 := m192.ownNil (C := EP)
                  have m194 := m193.ownNil (C := EP)
                  have m195 := m194.ownNil (C := (EI .i64))
                  have m196 := m195.ownNil (C := (EI .i64))
                  have m197 := m196.ownNil (C := (EI .i64))
                  have m198 := m197.ownNil (C := ES)
                  have m199 := m198.ownNil (C := (EI .i64))
                  have m200 := m199.ownNil (C := EP)
                  have m201 := m200.innNil (C := (EI .i64))
                  exact KC.ret ⟨rfl, _, (.cell rfl (ldN (m192.row (i := 10) rfl) ag40_B17 sz40_B17 rfl rfl) (.tmp rfl .nil)), 0, none, 0, 0, [], [], none, 0, 0, [], [], none, 0, 0, [], [], none, 0, 0, [], [], 0, 0, none, 0, 0, [], [], none, 0, 0, [], [], [], [], none, 0, 0, [], [], none, 0, 0, [], [], 0, 4, rfl, m201.pick [8, 7, 6, 5, 4, 3, 0, 2, 1] (by decide) rfl, (by first | omega | (intro h; omega) | (simp only [List.length_nil, true_and, and_true, or_true, true_or] <;> omega)), (by first | omega | (intro h; omega) | (simp only [List.length_nil, true_and, and_true, or_true, true_or] <;> omega)), (by first | omega | (intro h; omega) | (simp only [List.length_nil, true_and, and_true, or_true, true_or] <;> omega) | exact all_nil | assumption), (by first | omega | (intro h; omega) | (simp only [List.length_nil, true_and, and_true, or_true, true_or] <;> omega))⟩
                · refine KC.skip ?_
                  refine KC.seq ?_
                  refine KC.drawG (n := 8) (anc := [0, 1, 3, 7, 0, 31, 63, 127]) (hv := [6]) (ord := [0, 1, 2, 3, 4, 5, 6, 7]) (by kernel_rfl) (by kernel_rfl) (by kernel_rfl) (by kernel_rfl) (by kernel_rfl) fun H202 n203 g204 => ?_
                  have m205 := m189.room n203 g204 [] (by decide) (by decide)
                  refine KD.pv 1 (PV.move rfl) rfl rfl rfl (by kernel_rfl) rfl rfl rfl ?_
                  refine KD.pv 3 (PV.nilCheck rfl) rfl rfl rfl (by kernel_rfl) rfl rfl rfl ?_
                  refine KD.pv 7 (PV.fieldAddr fo153_0_B17 rfl) rfl rfl rfl (by kernel_rfl) rfl rfl rfl ?_
                  refine KD.load 15 rfl (m205.row (i := 0) rfl) (readN ag26_B17 sz26_B17 (takeN_of (p := [.int .i64 ((k + 1) * ci), .slice a52 (n47 + 1) (n47 + 1), .slice a174 n174 n174, .slice (some ⟨H160.next, 0, none⟩) 1 1, .slice (some ⟨H174.next, 0, none⟩) 1 1]) rfl rfl)) (pastGo (k := 1) (l := [H202]) (by kernel_rfl) rfl (pastCons ⟨_, (m205.row (i := 0) rfl), (readN ag26_B17 sz26_B17 (takeN_of (p := [.int .i64 ((k + 1) * ci), .slice a52 (n47 + 1) (n47 + 1), .slice a174 n174 n174, .slice (some ⟨H160.next, 0, none⟩) 1 1, .slice (some ⟨H174.next, 0, none⟩) 1 1]) rfl rfl))⟩ pastNil)) (veq_agg (veqCons veqI (veqCons veqS (veqCons veqS (veqCons veqS (veqCons veqS veqNil)))))) rfl (by kernel_rfl) rfl rfl rfl ?_
                  refine KD.load 31 rfl (m205.row (i := 6) rfl) (readN ag38_B17 sz38_B17 (takeN_of (p := [.int .i64 k, .int .i64 1, .slice a_c9_2 n_c9_2 n_c9_2, .slice a126 n126 n126, .slice a89 (n_c9_4 + 1) (n_c9_4 + 1), .slice none 0 0, .int .i64 1]) rfl  rfl)) (pastGo (k := 1) (l := [H202]) (by kernel_rfl) rfl (pastCons ⟨_, (m205.row (i := 6) rfl), (readN ag38_B17 sz38_B17 (takeN_of (p := [.int .i64 k, .int .i64 1, .slice a_c9_2 n_c9_2 n_c9_2, .slice a126 n126 n126, .slice a89 (n_c9_4 + 1) (n_c9_4 + 1), .slice none 0 0, .int .i64 1]) rfl  rfl))⟩ pastNil)) (veq_agg (veqCons veqI (veqCons veqI (veqCons veqS (veqCons veqS (veqCons veqS (veqCons veqS (veqCons veqI veqNil)))))))) rfl (by kernel_rfl) rfl rfl rfl ?_
                  refine KD.pv 63 (PV.build rfl (bl40_0Ai64ssss_1Ai64i64ssssi64_B17 _ _ _ _ _ _ _ _ _ _ _ _ _ _ _ _ _ _ _ _ _ _ _ _ _ _ _ _)) rfl rfl rfl (by kernel_rfl) rfl rfl rfl ?_
                  refine KD.storeM 127 m205 (j := 10) rfl sz40_B17 rfl rfl rfl (show 0 + 12 ≤ 12 by decide) (show _ = [.int .i64 ((k + 1) * ci), .slice a52 (n47 + 1) (n47 + 1), .slice a174 n174 n174, .slice (some ⟨H160.next, 0, none⟩) 1 1, .slice (some ⟨H174.next, 0, none⟩) 1 1, .int .i64 k, .int .i64 1, .slice a_c9_2 n_c9_2 n_c9_2, .slice a126 n126 n126, .slice a89 (n_c9_4 + 1) (n_c9_4 + 1), .slice none 0 0, .int .i64 1] from rfl) rfl (by kernel_rfl) rfl rfl fun H206 m207 => ?_
                  refine KD.pv 255 (PV.assign rfl) rfl rfl rfl (by kernel_rfl) rfl rfl rfl ?_
                  refine KD.nil ⟨rfl, ?_⟩
                  have m208 := m207.ownLst (C := EP) (i := 9) rfl hw_l8_1 (by first | omega | (simp only [splice, List.length_append, List.length_set, List.length_replicate, List.length_map, List.length_take, List.length_drop, List.length_cons, List.length_nil] <;> omega))
                  have m209 := m208.ownLst (C := EP) (i := 1) rfl (by assumption) (by first | omega | (simp only [splice, List.length_append, List.length_set, List.length_replicate, List.length_map, List.length_take, List.length_drop, List.length_cons, List.length_nil] <;> omega))
                  have m210 := m209.ownRow (C := (EI .i64)) (xs := [z160]) (i := 4) (sp := none) (n := 1) (c := 1) rfl (by simp only [List.mem_cons, List.not_mem_nil, or_false, forall_eq_or_imp, forall_eq]; first | (intro _ h; exact h.elim) | exact wfI (by first | decide | (constructor <;> omega)) | (refine ⟨?_, ?_⟩ <;> exact wfI (by constructor <;> omega)) | (refine ⟨?_, ?_, ?_⟩ <;> exact wfI (by constructor <;> omega))) rfl (by omega) (by omega)
                  have m211 := m210.ownRow (C := (EI .i64)) (xs := [z174]) (i := 3) (sp := none) (n := 1) (c := 1) rfl (by simp only [List.mem_cons, List.not_mem_nil, or_false, forall_eq_or_imp, forall_eq]; first | (intro _ h; exact h.elim) | exact wfI (by first | decide | (constructor <;> omega)) | (refine ⟨?_, ?_⟩ <;> exact wfI (by constructor <;> omega)) | (refine ⟨?_, ?_, ?_⟩ <;> exact wfI (by constructor <;> omega))) rfl (by omega) (by omega)
                  have m212 := m211.ownLst (C := (EI .i64)) (i := 11) rfl hw_l_c9_2 (by first | omega | (simp only [splice, List.length_append, List.length_set, List.length_replicate, List.length_map, List.length_take, List.length_drop, List.length_cons, List.length_nil] <;> omega))
                  have m213 := m212.ownLst (C := ES) (i := 7) rfl (fun _ _ => trivial) (by first | omega | (simp only [splice, List.length_append, List.length_set, List.length_replicate, List.length_map, List.length_take, List.length_drop, List.length_cons, List.length_nil] <;> omega))
                  have m214 := m213.ownLst (C := (EI .i64)) (i := 12) rfl (all_app hw_l_c9_4 (all_one (wf64 (by omega) (by omega)))) (by first | omega | (simp only [splice, List.length_append, List.length_set, List.length_replicate, List.length_map, List.length_take, List.length_drop, List.length_cons, List.length_nil] <;> omega))
                  have m215 := m214.ownNil (C := EP)
                  exact KC.ret ⟨rfl, _, (.cell rfl (ldN (m207.row (i := 10) rfl) ag40_B17 sz40_B17 rfl rfl) (.tmp rfl .nil)), ((k + 1) * ci), a52, (n47 + 1), (n47 + 1), l8_1, D53, a174, n174, n174, xs174, D174, (some ⟨H160.next, 0, none⟩), 1, 1, [z160], [H160.next], (some ⟨H174.next, 0, none⟩), 1, 1, [z174], [H174.next], k, 1, a_c9_2, n_c9_2, n_c9_2, l_c9_2, D_c9_2, a126, n126, n126, v126, D126, x126, E126, a89, (n_c9_4 + 1), (n_c9_4 + 1), (l_c9_4 ++ [(-1)]), D90, none, 0, 0, [], [], 1, 0, rfl, m215.pick [10, 2, 5, 4, 12, 8, 9, 13, 0] (by decide) rfl, (by first | omega | (intro h; omega) | (simp only [List.length_nil, true_and, and_true, or_true, true_or] <;> omega)), (by first | omega | (intro h; omega) | (simp only [List.length_nil, true_and, and_true, or_true, true_or] <;> omega)), (by first | omega | (intro h; omega) | (simp only [List.length_nil, true_and, and_true, or_true, true_or] <;> omega) | exact all_nil | assumption), (by first | omega | (intro h; omega) | (simp only [List.length_nil, true_and, and_true, or_true, true_or] <;> omega))⟩
theorem pref_Pass (H : AHeap) (ci : Int) (a_cL : Option Addr) (n_cL c_cL : Nat) (cL : List (Int × Int)) (a_cA : Option Addr) (n_cA c_cA : Nat) (cA : List (Int × Int)) (a_cB : Option Addr) (n_cB c_cB : Nat) (cB : List Int) (a_cC : Option Addr) (n_cC c_cC : Nat) (cC : List Int) (k : Int) (w_ci : IntKind.i64.wrap ci = ci) (h_cL : V EP H a_cL n_cL c_cL cL) (h_cA : V EP H a_cA n_cA c_cA cA) (h_cB : V (EI .i64) H a_cB n_cB c_cB cB) (h_cC : V (EI .i64) H a_cC n_cC c_cC cC) (w_k : IntKind.i64.wrap k = k) : WF E0 17 [.agg #[.int .i64 ci, .slice a_cL n_cL c_cL, .slice a_cA n_cA c_cA, .slice a_cB n_cB c_cB, .slice a_cC n_cC c_cC], .int .i64 k] H fun q => ∃ (r0 : Int) (r1a : Option Addr) (r1n : Nat) (r1c : Nat) (r1 : List (Int × Int)) (r1D : List Nat) (r2a : Option Addr) (r2n : Nat) (r2c : Nat) (r2 : List (Int × Int)) (r2D : List Nat) (r3a : Option Addr) (r3n : Nat) (r3c : Nat) (r3 : List Int) (r3D : List Nat) (r4a : Option Addr) (r4n : Nat) (r4c : Nat) (r4 : List Int) (r4D : List Nat) (r5 : Int) (r6 : Int) (r7a : Option Addr) (r7n : Nat) (r7c : Nat) (r7 : List Int) (r7D : List Nat) (r8a : Option Addr) (r8n : Nat) (r8c : Nat) (r8v : List (Option Addr × Nat × Nat)) (r8D : List Nat) (r8 : List (List Int)) (r8E : List Nat) (r9a : Option Addr) (r9n : Nat) (r9c : Nat) (r9 : List Int) (r9D : List Nat) (r10a : Option Addr) (r10n : Nat) (r10c : Nat) (r10 : List (Int × Int)) (r10D : List Nat) (r11 : Int) (e : Int), q.1 = .tuple #[.agg #[.int .i64 r0, .slice r1a r1n r1c, .slice r2a r2n r2c, .slice r3a r3n r3c, .slice r4a r4n r4c, .int .i64 r5, .int .i64 r6, .slice r7a r7n r7c, .slice r8a r8n r8c, .slice r9a r9n r9c, .slice r10a r10n r10c, .int .i64 r11], .int .i64 e] ∧ Mem [] H q.2 [R.own EP r1a r1n r1c r1 r1D, R.own EP r2a r2n r2c r2 r2D, R.own (EI .i64) r3a r3n r3c r3 r3D, R.own (EI .i64) r4a r4n r4c r4 r4D, R.own (EI .i64) r7a r7n r7c r7 r7D, R.own ES r8a r8n r8c r8v r8D, R.inn (EI .i64) r8v r8 r8E, R.own (EI .i64) r9a r9n r9c r9 r9D, R.own EP r10a r10n r10c r10 r10D] ∧ (0 ≤ e ∧ e ≤ 100) ∧ (r1n ≤ 1001 ∧ r2n ≤ 1001 ∧ r3n ≤ 100 ∧ r4n ≤ 100 ∧ r7n ≤ 1001 ∧ r8n ≤ 10 ∧ r9n ≤ 1001 ∧ r10n ≤ 1001) ∧ (∀ c ∈ r8, c.length ≤ 1000) ∧ ((0 ≤ r0 ∧ r0 ≤ 1000000) ∧ (0 ≤ r5 ∧ r5 ≤ 1000000) ∧ (0 ≤ r6 ∧ r6 ≤ 1000000) ∧ (0 ≤ r11 ∧ r11 ≤ 1000000)) := by
  obtain ⟨lo_ci, hi_ci⟩ := rangei64 w_ci
  obtain ⟨len_cL, cap_cL, max_cL, wf_cL⟩ := h_cL.len
  obtain ⟨len_cA, cap_cA, max_cA, wf_cA⟩ := h_cA.len
  obtain ⟨len_cB, cap_cB, max_cB, wf_cB⟩ := h_cB.len
  obtain ⟨len_cC, cap_cC, max_cC, wf_cC⟩ := h_cC.len
  obtain ⟨lo_k, hi_k⟩ := rangei64 w_k
  have m0 : Mem [] H H [] := Mem.start
  refine WF.kg Tryz.func17 rfl rfl ?_
  refine KC.seq ?_
  refine KC.region ?_
  refine KO.boxM m0 rfl rfl (show _ = [.int .i64 ci, .slice a_cL n_cL c_cL, .slice a_cA n_cA c_cA, .slice a_cB n_cB c_cB, .slice a_cC n_cC c_cC] from rfl) rfl rfl fun H1 m2 => ?_
  refine KO.allocM m2 zt40_B17 rfl rfl fun H3 m4 => ?_
  refine KO.pv (PV.assign rfl) rfl rfl ?_
  refine KO.nil ?_
  refine KC.seq ?_
  refine KC.seq ?_
  refine KC.region ?_
  refine KO.loadN ag26_B17 sz26_B17 rfl (m4.row (i := 1) rfl) (takeN_of (p := [.int .i64 ci, .slice a_cL n_cL c_cL, .slice a_cA n_cA c_cA, .slice a_cB n_cB c_cB, .slice a_cC n_cC c_cC]) rfl  rfl) rfl rfl ?_
  refine KO.call rfl rfl rfl rfl (gates_Check H3 ci a_cL n_cL c_cL _ a_cA n_cA c_cA _ a_cB n_cB c_cB _ a_cC n_cC c_cC _ (wrap64 (by omega) (by omega)) (V.mem m4 h_cL) (V.mem m4 h_cA) (V.mem m4 h_cB) (V.mem m4 h_cC)) fun v5 H5 q5 => ?_
  obtain ⟨e5, hv5, mc5, p5_0, p5_1, p5_2⟩ := q5
  dsimp only at hv5 mc5
  subst hv5
  have m6 := m4.seq mc5
  refine KO.pv (PV.assign rfl) rfl rfl ?_
  refine KO.nil ?_
  refine KC.seq ?_
  refine KC.region ?_
  refine KO.pv (PV.move rfl) rfl rfl ?_
  refine KO.pv (PV.neqD rfl rfl rfl) rfl rfl ?_
  refine KO.nil ?_
  refine KC.condD rfl (fun h7 => ?_) (fun h7 => ?_)
  · refine KC.seq ?_
    refine KC.region ?_
    refine KO.pv (PV.build rfl bl40__B17) rfl rfl ?_
    refine KO.pv (PV.move rfl) rfl rfl ?_
    refine KO.storeM m6 (i := 0) rfl sz40_B17 rfl rfl rfl (show 0 + 12 ≤ 12 by decide) (show _ = [.int .i64 0, .slice none 0 0, .slice none 0 0, .slice none 0 0, .slice none 0 0, .int .i64 0, .int .i64 0, .slice none 0 0, .slice none 0 0, .slice none 0 0, .slice none 0 0, .int .i64 0] from rfl) rfl fun H8 m9 => ?_
    refine KO.pv (PV.assign rfl) rfl rfl ?_
    refine KO.nil ?_
    have m10 := m9.ownNil (C := EP)
    have m11 := m10.ownNil (C := EP)
    have m12 := m11.ownNil (C := (EI .i64))
    have m13 := m12.ownNil (C := (EI .i64))
    have m14 := m13.ownNil (C := (EI .i64))
    have m15 := m14.ownNil (C := ES)
    have m16 := m15.ownNil (C := (EI .i64))
    have m17 := m16.ownNil (C := EP)
    have m18 := m17.innNil (C := (EI .i64))
    exact KC.ret ⟨rfl, _, (.cell rfl (ldN (m9.row (i := 0) rfl) ag40_B17 sz40_B17 rfl rfl) (.tmp rfl .nil)), 0, none, 0, 0, [], [], none, 0, 0, [], [], none, 0, 0, [], [], none, 0, 0, [], [], 0, 0, none, 0, 0, [], [], none, 0, 0, [], [], [], [], none, 0, 0, [], [], none, 0, 0, [], [], 0, e5, rfl, m18.pick [8, 7, 6, 5, 4, 3, 0, 2, 1] (by decide) rfl, (by first | omega | (intro h; omega) | (simp only [List.length_nil, true_and, and_true, or_true, true_or] <;> omega)), (by first | omega | (intro h; omega) | (simp only [List.length_nil, true_and, and_true, or_true, true_or] <;> omega)), (by first | omega | (intro h; omega) | (simp only [List.length_nil, true_and, and_true, or_true, true_or] <;> omega) | exact all_nil | assumption), (by first | omega | (intro h; omega) | (simp only [List.length_nil, true_and, and_true, or_true, true_or] <;> omega))⟩
  · have p5_0t := p5_0 (by omega)
    obtain ⟨p5_0_i0, p5_0_al, p5_0_b, p5_0_c, p5_0_hb, p5_0_hc, p5_0_hl, p5_0_ha⟩ := id p5_0t
    refine KC.skip ?_
    refine KC.seq ?_
    refine KC.region ?_
    refine KO.loadN ag26_B17 sz26_B17 rfl (m6.row (i := 1) rfl) (takeN_of (p := [.int .i64 ci, .slice a_cL n_cL c_cL, .slice a_cA n_cA c_cA, .slice a_cB n_cB c_cB, .slice a_cC n_cC c_cC]) rfl  rfl) rfl rfl ?_
    refine KO.pv (PV.move rfl) rfl rfl ?_
    refine KO.call rfl rfl rfl rfl (pref_Of H5 ci a_cL n_cL c_cL _ a_cA n_cA c_cA _ a_cB n_cB c_cB _ a_cC n_cC c_cC _ k (wrap64 (by omega) (by omega)) (V.mem m6 h_cL) (V.mem m6 h_cA) (V.mem m6 h_cB) (V.mem m6 h_cC) (wrap64 (by omega) (by omega))) fun v19 H19 q19 => ?_
    obtain ⟨r0_19, r1a19, r1n19, r1c19, r1_19, r1D19, r2a19, r2n19, r2c19, r2_19, r2D19, r3a19, r3n19, r3c19, r3_19, r3D19, r4a19, r4n19, r4c19, r4_19, r4D19, r5_19, r6_19, r7a19, r7n19, r7c19, r7_19, r7D19, r8a19, r8n19, r8c19, r8v19, r8D19, r8_19, r8E19, r9a19, r9n19, r9c19, r9_19, r9D19, r10a19, r10n19, r10c19, r10_19, r10D19, r11_19, e19, hv19, mc19, p19_0, p19_1, p19_2, p19_3⟩ := q19
    dsimp only at hv19 mc19
    subst hv19
    have m20 := m6.seq mc19
    refine KO.pv (PV.move rfl) rfl rfl ?_
    refine KO.pv (PV.extract rfl rfl) rfl rfl ?_
    refine KO.pv (PV.extract rfl rfl) rfl rfl ?_
    refine KO.allocM m20 zt40_B17 rfl rfl fun H21 m22 => ?_
    refine KO.storeM m22 (i := 0) rfl sz40_B17 rfl rfl rfl (show 0 + 12 ≤ 12 by decide) (show _ = [.int .i64 r0_19, .slice r1a19 r1n19 r1c19, .slice r2a19 r2n19 r2c19, .slice r3a19 r3n19 r3c19, .slice r4a19 r4n19 r4c19, .int .i64 r5_19, .int .i64 r6_19, .slice r7a19 r7n19 r7c19, .slice r8a19 r8n19 r8c19, .slice r9a19 r9n19 r9c19, .slice r10a19 r10n19 r10c19, .int .i64 r11_19] from rfl) rfl fun H23 m24 => ?_
    refine KO.pv (PV.assign rfl) rfl rfl ?_
    refine KO.nil ?_
    refine KC.seq ?_
    refine KC.seq ?_
    refine KC.region ?_
    refine KO.pv (PV.move rfl) rfl rfl ?_
    refine KO.pv (PV.eqlD rfl rfl rfl) rfl rfl ?_
    refine KO.nil ?_
    refine KC.condD rfl (fun h25 => ?_) (fun h25 => ?_)
    · refine KC.seq ?_
      refine KC.region ?_
      refine KO.loadN ag26_B17 sz26_B17 rfl (m24.row (i := 11) rfl) (takeN_of (p := [.int .i64 ci, .slice a_cL n_cL c_cL, .slice a_cA n_cA c_cA, .slice a_cB n_cB c_cB, .slice a_cC n_cC c_cC]) rfl  rfl) rfl rfl ?_
      refine KO.call rfl rfl rfl rfl (lift_Identity H23 ci a_cL n_cL c_cL _ a_cA n_cA c_cA _ a_cB n_cB c_cB _ a_cC n_cC c_cC _ (wrap64 (by omega) (by omega)) (V.mem m24 h_cL) (V.mem m24 h_cA) (V.mem m24 h_cB) (V.mem m24 h_cC)) fun v26 H26 q26 => ?_
      obtain ⟨r0_26, r1_26, r2a26, r2n26, r2c26, r2_26, r2D26, r3a26, r3n26, r3c26, r3v26, r3D26, r3_26, r3E26, r4a26, r4n26, r4c26, r4_26, r4D26, r6_26, e26, hv26, mc26, p26_0, p26_1, p26_2, p26_3⟩ := q26
      dsimp only at hv26 mc26
      subst hv26
      have m27 := m24.seq mc26
      refine KO.pv (PV.move rfl) rfl rfl ?_
      refine KO.pv (PV.extract rfl rfl) rfl rfl ?_
      refine KO.pv (PV.extract rfl rfl) rfl rfl ?_
      refine KO.allocM m27 zt38_B17 rfl rfl fun H28 m29 => ?_
      refine KO.storeM m29 (i := 0) rfl sz38_B17 rfl rfl rfl (show 0 + 7 ≤ 7 by decide) (show _ = [.int .i64 r0_26, .int .i64 r1_26, .slice r2a26 r2n26 r2c26, .slice r3a26 r3n26 r3c26, .slice r4a26 r4n26 r4c26, .slice none 0 0, .int .i64 r6_26] from rfl) rfl fun H30 m31 => ?_
      refine KO.pv (PV.assign rfl) rfl rfl ?_
      refine KO.nil ?_
      refine KC.seq ?_
      refine KC.drawG (n := 6) (anc := [0, 1, 0, 7, 15, 31]) (hv := [1, 4]) (ord := [0, 1, 2, 3, 4, 5]) (by kernel_rfl) (by kernel_rfl) (by kernel_rfl) (by kernel_rfl) (by kernel_rfl) fun H32 n33 g34 => ?_
      have m35 := m31.room n33 g34 [] (by decide) (by decide)
      refine KD.load 1 rfl (m35.row (i := 16) rfl) (readN ag26_B17 sz26_B17 (takeN_of (p := [.int .i64 ci, .slice a_cL n_cL c_cL, .slice a_cA n_cA c_cA, .slice a_cB n_cB c_cB, .slice a_cC n_cC c_cC]) rfl  rfl)) (pastGo (k := 1) (l := [H32]) (by kernel_rfl) rfl (pastCons ⟨_, (m35.row (i := 16) rfl), (readN ag26_B17 sz26_B17 (takeN_of (p := [.int .i64 ci, .slice a_cL n_cL c_cL, .slice a_cA n_cA c_cA, .slice a_cB n_cB c_cB, .slice a_cC n_cC c_cC]) rfl  rfl))⟩ pastNil)) (veq_agg (veqCons veqI (veqCons veqS (veqCons veqS (veqCons veqS (veqCons veqS veqNil)))))) rfl (by kernel_rfl) rfl rfl rfl ?_
      refine KD.call 3 rfl rfl rfl (by kernel_rfl) rfl rfl rfl (pref_copied H32 ci a_cL n_cL c_cL _ a_cA n_cA c_cA _ a_cB n_cB c_cB _ a_cC n_cC c_cC _ (wrap64 (by omega) (by omega)) (V.mem m35 h_cL) (V.mem m35 h_cA) (V.mem m35 h_cB) (V.mem m35 h_cC) (by first | omega | assumption)) fun v36 H36 q36 => ?_
      obtain ⟨a1_36, n1_36, l1_36, D1_36, a2_36, n2_36, l2_36, D2_36, a3_36, n3_36, l3_36, D3_36, a4_36, n4_36, l4_36, D4_36, hv36, mc36, p36_0, p36_1, p36_2, p36_3, p36_4⟩ := q36
      dsimp only at hv36 mc36
      subst hv36
      have m37 := m35.seq mc36
      have ll36_0 : l1_36.length = n1_36 := m37.lstLen (E := EP) (i := 0) rfl
      have ll36_1 : l2_36.length = n2_36 := m37.lstLen (E := EP) (i := 1) rfl
      have ll36_2 : l3_36.length = n3_36 := m37.lstLen (E := (EI .i64)) (i := 2) rfl
      have ll36_3 : l4_36.length = n4_36 := m37.lstLen (E := (EI .i64)) (i := 3) rfl
      refine KD.load 7 rfl (m37.row (i := 4) rfl) (readN ag38_B17 sz38_B17 (takeN_of (p := [.int .i64 r0_26, .int .i64 r1_26, .slice r2a26 r2n26 r2c26, .slice r3a26 r3n26 r3c26, .slice r4a26 r4n26 r4c26, .slice none 0 0, .int .i64 r6_26]) rfl  rfl)) (pastGo (k := 2) (l := [H36, H32]) (by kernel_rfl) rfl (pastCons ⟨_, (m37.row (i := 4) rfl), (readN ag38_B17 sz38_B17 (takeN_of (p := [.int .i64 r0_26, .int .i64 r1_26, .slice r2a26 r2n26 r2c26, .slice r3a26 r3n26 r3c26, .slice r4a26 r4n26 r4c26, .slice none 0 0, .int .i64 r6_26]) rfl  rfl))⟩ (pastCons ⟨_, (m35.row (i := 0) rfl), (readN ag38_B17 sz38_B17 (takeN_of (p := [.int .i64 r0_26, .int .i64 r1_26, .slice r2a26 r2n26 r2c26, .slice r3a26 r3n26 r3c26, .slice r4a26 r4n26 r4c26, .slice none 0 0, .int .i64 r6_26]) rfl  rfl))⟩ pastNil))) (veq_agg (veqCons veqI (veqCons veqI (veqCons veqS (veqCons veqS (veqCons veqS (veqCons veqS (veqCons veqI veqNil)))))))) rfl (by kernel_rfl) rfl rfl rfl ?_
      refine KD.pv 15 (PV.build rfl (bl40_0Ai64ssss_1Ai64i64ssssi64_B17 _ _ _ _ _ _ _ _ _ _ _ _ _ _ _ _ _ _ _ _ _ _ _ _ _ _ _ _)) rfl rfl rfl (by kernel_rfl) rfl rfl rfl ?_
      refine KD.storeM 31 m37 (j := 19) rfl sz40_B17 rfl rfl rfl (show 0 + 12 ≤ 12 by decide) (show _ = [.int .i64 ci, .slice a1_36 n1_36 n1_36, .slice a2_36 n2_36 n2_36, .slice a3_36 n3_36 n3_36, .slice a4_36 n4_36 n4_36, .int .i64 r0_26, .int .i64 r1_26, .slice r2a26 r2n26 r2c26, .slice r3a26 r3n26 r3c26, .slice r4a26 r4n26 r4c26, .slice none 0 0, .int .i64 r6_26] from rfl) rfl (by kernel_rfl) rfl rfl fun H38 m39 => ?_
      refine KD.pv 63 (PV.assign rfl) rfl rfl rfl (by kernel_rfl) rfl rfl rfl ?_
      refine KD.nil ⟨rfl, ?_⟩
      have m40 := m39.ownLst (C := EP) (i := 0) rfl (by assumption) (by first | omega | (simp only [splice, List.length_append, List.length_set, List.length_replicate, List.length_map, List.length_take, List.length_drop, List.length_cons, List.length_nil] <;> omega))
      have m41 := m40.ownLst (C := EP) (i := 1) rfl (by assumption) (by first | omega | (simp only [splice, List.length_append, List.length_set, List.length_replicate, List.length_map, List.length_take, List.length_drop, List.length_cons, List.length_nil] <;> omega))
      have m42 := m41.ownLst (C := (EI .i64)) (i := 2) rfl (by assumption) (by first | omega | (simp only [splice, List.length_append, List.length_set, List.length_replicate, List.length_map, List.length_take, List.length_drop, List.length_cons, List.length_nil] <;> omega))
      have m43 := m42.ownLst (C := (EI .i64)) (i := 3) rfl (by assumption) (by first | omega | (simp only [splice, List.length_append, List.length_set, List.length_replicate, List.length_map, List.length_take, List.length_drop, List.length_cons, List.length_nil] <;> omega))
      have m44 := m43.ownNil (C := EP)
      exact KC.ret ⟨rfl, _, (.cell rfl (ldN (m39.row (i := 19) rfl) ag40_B17 sz40_B17 rfl rfl) (.tmp rfl .nil)), ci, a1_36, n1_36, n1_36, l1_36, D1_36, a2_36, n2_36, n2_36, l2_36, D2_36, a3_36, n3_36, n3_36, l3_36, D3_36, a4_36, n4_36, n4_36, l4_36, D4_36, r0_26, r1_26, r2a26, r2n26, r2c26, r2_26, r2D26, r3a26, r3n26, r3c26, r3v26, r3D26, r3_26, r3E26, r4a26, r4n26, r4c26, r4_26, r4D26, none, 0, 0, [], [], r6_26, 0, rfl, m44.pick [1, 2, 3, 4, 6, 7, 8, 9, 0] (by decide) rfl, (by first | omega | (intro h; omega) | (simp only [List.length_nil, true_and, and_true, or_true, true_or] <;> omega)), (by first | omega | (intro h; omega) | (simp only [List.length_nil, true_and, and_true, or_true, true_or] <;> omega)), (by first | omega | (intro h; omega) | (simp only [List.length_nil, true_and, and_true, or_true, true_or] <;> omega) | exact all_nil | assumption), (by first | omega | (intro h; omega) | (simp only [List.length_nil, true_and, and_true, or_true, true_or] <;> omega))⟩
    · refine KC.skip ?_
      refine KC.seq ?_
      refine KC.region ?_
      refine KO.loadN ag40_B17 sz40_B17 rfl (m24.row (i := 0) rfl) (takeN_of (p := [.int .i64 r0_19, .slice r1a19 r1n19 r1c19, .slice r2a19 r2n19 r2c19, .slice r3a19 r3n19 r3c19, .slice r4a19 r4n19 r4c19, .int .i64 r5_19, .int .i64 r6_19, .slice r7a19 r7n19 r7c19, .slice r8a19 r8n19 r8c19, .slice r9a19 r9n19 r9c19, .slice r10a19 r10n19 r10c19, .int .i64 r11_19]) rfl  rfl) rfl rfl ?_
      refine KO.pv (PV.move rfl) rfl rfl ?_
      refine KO.storeM m24 (i := 10) rfl sz40_B17 rfl rfl rfl (show 0 + 12 ≤ 12 by decide) (show _ = [.int .i64 r0_19, .slice r1a19 r1n19 r1c19, .slice r2a19 r2n19 r2c19, .slice r3a19 r3n19 r3c19, .slice r4a19 r4n19 r4c19, .int .i64 r5_19, .int .i64 r6_19, .slice r7a19 r7n19 r7c19, .slice r8a19 r8n19 r8c19, .slice r9a19 r9n19 r9c19, .slice r10a19 r10n19 r10c19, .int .i64 r11_19] from rfl) rfl fun H45 m46 => ?_
      refine KO.pv (PV.assign rfl) rfl rfl ?_
      refine KO.nil ?_
      exact KC.ret ⟨rfl, _, (.cell rfl (ldN (m46.row (i := 10) rfl) ag40_B17 sz40_B17 rfl rfl) (.tmp rfl .nil)), r0_19, r1a19, r1n19, r1c19, r1_19, r1D19, r2a19, r2n19, r2c19, r2_19, r2D19, r3a19, r3n19, r3c19, r3_19, r3D19, r4a19, r4n19, r4c19, r4_19, r4D19, r5_19, r6_19, r7a19, r7n19, r7c19, r7_19, r7D19, r8a19, r8n19, r8c19, r8v19, r8D19, r8_19, r8E19, r9a19, r9n19, r9c19, r9_19, r9D19, r10a19, r10n19, r10c19, r10_19, r10D19, r11_19, e19, rfl, m46.pick [1, 2, 3, 4, 5, 6, 7, 8, 9] (by decide) rfl, (by first | omega | (intro h; omega) | (simp only [List.length_nil, true_and, and_true, or_true, true_or] <;> omega)), (by first | omega | (intro h; omega) | (simp only [List.length_nil, true_and, and_true, or_true, true_or] <;> omega)), (by first | omega | (intro h; omega) | (simp only [List.length_nil, true_and, and_true, or_true, true_or] <;> omega) | exact all_nil | assumption), (by first | omega | (intro h; omega) | (simp only [List.length_nil, true_and, and_true, or_true, true_or] <;> omega))⟩
end Go.Eng
