/- Functions of the program and of the library keep their contracts. Conditions: none beyond each theorem's own. -/
import Derived.Test.YthofopbfjpidhaaGreatDoorConeB5
import Derived.Test.YthofopbfjpidhaaGreatDoorConeB3
import Derived.KernelRfl
set_option linter.all false
namespace Go.Eng
open Go Go.Proofs
theorem ag4_B14 : isAggT E0.P 4 = some false := by kernel_rfl
theorem ag3_B14 : isAggT E0.P 3 = some false := by kernel_rfl
theorem sz3_B14 : sizeT E0.P 3 = some 1 := by kernel_rfl
theorem ag24_B14 : isAggT E0.P 24 = some false := by kernel_rfl
theorem el24_B14 : elemT E0.P 24 = some 3 := by kernel_rfl
theorem ez3_B14 : elemZ E0.P 3 = some (1, [.int .i64 0]) := by kernel_rfl
theorem sb3_B14 : smallBytes E0.P 3 = true := by kernel_rfl
theorem un24_B14 : E0.P.underlying 24 = some (.slice 3) := by kernel_rfl
theorem sz24_B14 : sizeT E0.P 24 = some 1 := by kernel_rfl
theorem sz4_B14 : sizeT E0.P 4 = some 1 := by kernel_rfl
theorem el89_B14 : elemT E0.P 89 = some 4 := by kernel_rfl
theorem ez4_B14 : elemZ E0.P 4 = some (1, [.bool false]) := by kernel_rfl
theorem sb4_B14 : smallBytes E0.P 4 = true := by kernel_rfl
theorem un89_B14 : E0.P.underlying 89 = some (.slice 4) := by kernel_rfl
theorem un42_B14 : E0.P.underlying 42 = some (.slice 24) := by kernel_rfl
theorem fo26_0_B14 : foff E0.P 26 0 = some 0 := by kernel_rfl
theorem fo26_1_B14 : foff E0.P 26 1 = some 1 := by kernel_rfl
theorem ag22_B14 : isAggT E0.P 22 = some false := by kernel_rfl
theorem un22_B14 : E0.P.underlying 22 = some (.slice 147) := by kernel_rfl
theorem fo26_2_B14 : foff E0.P 26 2 = some 2 := by kernel_rfl
theorem ag23_B14 : isAggT E0.P 23 = some false := by kernel_rfl
theorem un23_B14 : E0.P.underlying 23 = some (.slice 145) := by kernel_rfl
theorem sz147_B14 : sizeT E0.P 147 = some 2 := by kernel_rfl
theorem ag147_B14 : isAggT E0.P 147 = some true := by kernel_rfl
theorem fo147_0_B14 : foff E0.P 147 0 = some 0 := by kernel_rfl
theorem fo147_1_B14 : foff E0.P 147 1 = some 1 := by kernel_rfl
theorem ag26_B14 : isAggT E0.P 26 = some true := by kernel_rfl
theorem sz26_B14 : sizeT E0.P 26 = some 5 := by kernel_rfl
theorem fo26_3_B14 : foff E0.P 26 3 = some 3 := by kernel_rfl
theorem fo26_4_B14 : foff E0.P 26 4 = some 4 := by kernel_rfl
theorem sz145_B14 : sizeT E0.P 145 = some 2 := by kernel_rfl
theorem ag145_B14 : isAggT E0.P 145 = some true := by kernel_rfl
theorem zt145_B14 : zeroT E0.P 145 = some [.int .i64 0, .int .i64 0] := by kernel_rfl
theorem fo145_1_B14 : foff E0.P 145 1 = some 1 := by kernel_rfl
theorem fo145_0_B14 : foff E0.P 145 0 = some 0 := by kernel_rfl
theorem zt147_B14 : zeroT E0.P 147 = some [.int .i64 0, .int .i64 0] := by kernel_rfl
theorem sz89_B14 : sizeT E0.P 89 = some 1 := by kernel_rfl
theorem ag89_B14 : isAggT E0.P 89 = some false := by kernel_rfl
theorem el23_B14 : elemT E0.P 23 = some 145 := by kernel_rfl
theorem ez145_B14 : elemZ E0.P 145 = some (2, [.int .i64 0, .int .i64 0]) := by kernel_rfl
theorem sb145_B14 : smallBytes E0.P 145 = true := by kernel_rfl
theorem el22_B14 : elemT E0.P 22 = some 147 := by kernel_rfl
theorem ez147_B14 : elemZ E0.P 147 = some (2, [.int .i64 0, .int .i64 0]) := by kernel_rfl
theorem sb147_B14 : smallBytes E0.P 147 = true := by kernel_rfl
theorem zt89_B14 : zeroT E0.P 89 = some [.slice none 0 0] := by kernel_rfl
theorem bl145_0i64_1i64_B14 (v0 : Int) (v1 : Int) : buildA E0.P 145 [(0, .int .i64 v0), (1, .int .i64 v1)] = some (.agg #[.int .i64 v0, .int .i64 v1]) := by kernel_rfl
theorem sz23_B14 : sizeT E0.P 23 = some 1 := by kernel_rfl
theorem zt24_B14 : zeroT E0.P 24 = some [.slice none 0 0] := by kernel_rfl
theorem zt26_B14 : zeroT E0.P 26 = some [.int .i64 0, .slice none 0 0, .slice none 0 0, .slice none 0 0, .slice none 0 0] := by kernel_rfl
theorem zt46_B14 : zeroT E0.P 46 = some [.int .i64 0, .int .i64 0, .slice none 0 0, .slice none 0 0, .slice none 0 0, .slice none 0 0, .int .i64 0] := by kernel_rfl
theorem sz46_B14 : sizeT E0.P 46 = some 7 := by kernel_rfl
theorem ag46_B14 : isAggT E0.P 46 = some true := by kernel_rfl
theorem el42_B14 : elemT E0.P 42 = some 24 := by kernel_rfl
theorem ez24_B14 : elemZ E0.P 24 = some (1, [.slice none 0 0]) := by kernel_rfl
theorem sb24_B14 : smallBytes E0.P 24 = true := by kernel_rfl
theorem bl44_1i64_B14 (v0 : Int) : buildA E0.P 44 [(1, .int .i64 v0)] = some (.agg #[.slice none 0 0, .int .i64 v0]) := by kernel_rfl
theorem bl46_1i64_3s_5Asi64_B14 (v0 : Int) (v1a : Option Addr) (v1n v1c : Nat) (v2_0a : Option Addr) (v2_0n v2_0c : Nat) (v2_1 : Int) : buildA E0.P 46 [(1, .int .i64 v0), (3, .slice v1a v1n v1c), (5, .agg #[.slice v2_0a v2_0n v2_0c, .int .i64 v2_1])] = some (.agg #[.int .i64 0, .int .i64 v0, .slice none 0 0, .slice v1a v1n v1c, .slice none 0 0, .slice v2_0a v2_0n v2_0c, .int .i64 v2_1]) := by kernel_rfl
theorem fo46_3_B14 : foff E0.P 46 3 = some 3 := by kernel_rfl
theorem ag42_B14 : isAggT E0.P 42 = some false := by kernel_rfl
theorem fo46_2_B14 : foff E0.P 46 2 = some 2 := by kernel_rfl
theorem fo46_4_B14 : foff E0.P 46 4 = some 4 := by kernel_rfl
theorem ag150_B14 : isAggT E0.P 150 = some false := by kernel_rfl
theorem mt150_B14 : mapT E0.P 150 = some (3, 3) := by kernel_rfl
theorem kk150_B14 (a : Int) : keyKind E0.P 3 (.int .i64 a) = true := by kernel_rfl
theorem zv150_B14 : zeroV E0.P 3 = some (.int .i64 0) := by kernel_rfl
theorem zt48_B14 : zeroT E0.P 48 = some [.int .i64 0, .slice none 0 0, .slice none 0 0, .slice none 0 0, .slice none 0 0, .int .i64 0, .int .i64 0, .slice none 0 0, .slice none 0 0, .slice none 0 0, .slice none 0 0, .int .i64 0] := by kernel_rfl
theorem bl48__B14  : buildA E0.P 48 [] = some (.agg #[.int .i64 0, .slice none 0 0, .slice none 0 0, .slice none 0 0, .slice none 0 0, .int .i64 0, .int .i64 0, .slice none 0 0, .slice none 0 0, .slice none 0 0, .slice none 0 0, .int .i64 0]) := by kernel_rfl
theorem sz48_B14 : sizeT E0.P 48 = some 12 := by kernel_rfl
theorem ag48_B14 : isAggT E0.P 48 = some true := by kernel_rfl
theorem zt150_B14 : zeroT E0.P 150 = some [.map none] := by kernel_rfl
theorem sz150_B14 : sizeT E0.P 150 = some 1 := by kernel_rfl
theorem bl147_0i64_1i64_B14 (v0 : Int) (v1 : Int) : buildA E0.P 147 [(0, .int .i64 v0), (1, .int .i64 v1)] = some (.agg #[.int .i64 v0, .int .i64 v1]) := by kernel_rfl
theorem sz22_B14 : sizeT E0.P 22 = some 1 := by kernel_rfl
theorem bl48_0Ai64ssss_1Ai64i64ssssi64_B14 (v0_0 : Int) (v0_1a : Option Addr) (v0_1n v0_1c : Nat) (v0_2a : Option Addr) (v0_2n v0_2c : Nat) (v0_3a : Option Addr) (v0_3n v0_3c : Nat) (v0_4a : Option Addr) (v0_4n v0_4c : Nat) (v1_0 : Int) (v1_1 : Int) (v1_2a : Option Addr) (v1_2n v1_2c : Nat) (v1_3a : Option Addr) (v1_3n v1_3c : Nat) (v1_4a : Option Addr) (v1_4n v1_4c : Nat) (v1_5a : Option Addr) (v1_5n v1_5c : Nat) (v1_6 : Int) : buildA E0.P 48 [(0, .agg #[.int .i64 v0_0, .slice v0_1a v0_1n v0_1c, .slice v0_2a v0_2n v0_2c, .slice v0_3a v0_3n v0_3c, .slice v0_4a v0_4n v0_4c]), (1, .agg #[.int .i64 v1_0, .int .i64 v1_1, .slice v1_2a v1_2n v1_2c, .slice v1_3a v1_3n v1_3c, .slice v1_4a v1_4n v1_4c, .slice v1_5a v1_5n v1_5c, .int .i64 v1_6])] = some (.agg #[.int .i64 v0_0, .slice v0_1a v0_1n v0_1c, .slice v0_2a v0_2n v0_2c, .slice v0_3a v0_3n v0_3c, .slice v0_4a v0_4n v0_4c, .int .i64 v1_0, .int .i64 v1_1, .slice v1_2a v1_2n v1_2c, .slice v1_3a v1_3n v1_3c, .slice v1_4a v1_4n v1_4c, .slice v1_5a v1_5n v1_5c, .int .i64 v1_6]) := by kernel_rfl
theorem count_tf : ∀ l : List Bool, l.count true + l.count false = l.length
  | [] => rfl
  | b :: l => by have := count_tf l; cases b <;> simp [List.count_cons] <;> omega
theorem count_markF {has : List Bool} {i : Nat} (hb : has[i]? = some false) : (has.set i true).count false + 1 = has.count false := by
  have h1 := count_mark hb
  have h2 := count_tf has
  have h3 := count_tf (has.set i true)
  rw [List.length_set] at h3
  omega
theorem cone_visit (H : AHeap) (l : Int) (b_s : Nat) (r_seen n_seen : Nat) (seen : List Bool) (b_t : Nat) (a_todo : Option Addr) (n_todo c_todo : Nat) (todo : List Int) (D_todo : List Nat)  (w_l : IntKind.i64.wrap l = l) (h_g : Mem ([b_s] ++ ([r_seen] ++ ([b_t] ++ (D_todo ++ [])))) H H [R.row b_s 89 true [.slice (some ⟨r_seen, 0, none⟩) n_seen n_seen], R.row r_seen 4 true (cells EB seen), R.row b_t 24 true [.slice a_todo n_todo c_todo], R.stk (EI .i64) 3 a_todo n_todo c_todo todo D_todo]) (len_seen : seen.length = n_seen) (max_seen : n_seen ≤ 330000000) (wf_todo : ∀ u ∈ todo, (EI .i64).wf u) (h0 : 0 ≤ l ∧ l / 2 < n_seen) (hk : n_todo + seen.count false ≤ 1001) (ht : ∀ u ∈ todo, 1 ≤ u ∧ u < n_seen) : WF E0 101 [.int .i64 l, .pointer (some ⟨b_s, 0, none⟩), .pointer (some ⟨b_t, 0, none⟩)] H fun q => ∃ (ys : List Bool) (a : Option Addr) (n : Nat) (c : Nat) (xs : List Int) (D : List Nat), q.1 = .tuple #[] ∧ Mem ([b_s] ++ ([r_seen] ++ ([b_t] ++ (D_todo ++ [])))) H q.2 [R.row b_s 89 true [.slice (some ⟨r_seen, 0, none⟩) n_seen n_seen], R.row r_seen 4 true (cells EB ys), R.row b_t 24 true [.slice a n c], R.stk (EI .i64) 3 a n c xs D] ∧ (n + ys.count false = n_todo + seen.count false ∧ ys.count false ≤ seen.count false ∧ ys.length = n_seen ∧ n ≤ c ∧ xs.length = n) ∧ (∀ u ∈ xs, 1 ≤ u ∧ u < n_seen) ∧ (∀ u ∈ xs, (EI .i64).wf u) := by
  obtain ⟨lo_l, hi_l⟩ := rangei64 w_l
  obtain ⟨len_todo, cap_todo⟩ := h_g.stkLen (i := 3) rfl
  have m0 := h_g
  refine WF.kg Tryz.func101 rfl rfl ?_
  refine KC.seq ?_
  refine KC.region ?_
  refine KO.pv (PV.move rfl) rfl rfl ?_
  refine KO.pv (PV.quo rfl rfl (by omega) (quoN (by omega) (by omega))) rfl rfl ?_
  refine KO.pv (PV.assign rfl) rfl rfl ?_
  refine KO.nil ?_
  refine KC.seq ?_
  refine KC.region ?_
  refine KO.pv (PV.move rfl) rfl rfl ?_
  by_cases h1 : 0 < (l / 2)
  · refine KO.pv (PV.gtrD rfl rfl (decide_eq_true h1)) rfl rfl ?_
    refine KO.pv (PV.move rfl) rfl rfl ?_
    refine KO.load1 ag89_B14 rfl (m0.row (i := 0) rfl) rfl rfl rfl ?_
    refine KO.pv (PV.move rfl) rfl rfl ?_
    refine KO.pv (PV.indexAddrZ un89_B14 sz4_B14 rfl rfl rfl (by omega) (by omega)) rfl rfl ?_
    obtain ⟨e3, hx3⟩ : ∃ x, (seen)[((l / 2)).toNat]? = some x := ⟨_, List.getElem?_eq_getElem (by first | omega | (simp only [splice, List.length_append, List.length_set, List.length_replicate, List.length_map, List.length_take, List.length_drop, List.length_cons, List.length_nil] <;> omega))⟩
    refine KO.load1 ag4_B14 rfl (m0.row (i := 1) rfl) (cells_at1 hx3 rfl) rfl rfl ?_
    rcases Bool.eq_false_or_eq_true e3 with h4 | h4
    · subst h4
      refine KO.pv (PV.notB rfl rfl) rfl rfl ?_
      refine KO.pv (PV.pickT rfl rfl rfl) rfl rfl ?_
      refine KO.nil ?_
      refine KC.condF rfl ?_
      refine KC.skip ?_
      exact ⟨rfl, _, .nil, seen, a_todo, n_todo, c_todo, todo, D_todo, rfl, m0.pick [0, 1, 2, 3] (by decide) rfl, (by first | omega | (intro h; omega) | (simp only [List.length_nil, true_and, and_true, or_true, true_or] <;> omega) | (exact ⟨by omega, by omega, by omega, by omega, by omega⟩) | (exact ⟨by have := count_markF (has := seen) (i := (l / 2).toNat) (by assumption); omega, by have := count_markF (has := seen) (i := (l / 2).toNat) (by assumption); omega, by rw [List.length_set]; omega, by omega, by rw [List.length_append, len_todo]; rfl⟩)), (by first | omega | (intro h; omega) | (simp only [List.length_nil, true_and, and_true, or_true, true_or] <;> omega) | exact ht | (exact all_app ht (all_one (by omega)))), (by first | omega | (intro h; omega) | (simp only [List.length_nil, true_and, and_true, or_true, true_or] <;> omega) | exact wf_todo | (exact all_app wf_todo (all_one (wf64 (by omega) (by omega)))))⟩
    · subst h4
      refine KO.pv (PV.notB rfl rfl) rfl rfl ?_
      refine KO.pv (PV.pickT rfl rfl rfl) rfl rfl ?_
      refine KO.nil ?_
      refine KC.condT rfl ?_
      refine KC.seq ?_
      refine KC.region ?_
      refine KO.load1 ag89_B14 rfl (m0.row (i := 0) rfl) rfl rfl rfl ?_
      refine KO.pv (PV.move rfl) rfl rfl ?_
      refine KO.pv (PV.indexAddrZ un89_B14 sz4_B14 rfl rfl rfl (by omega) (by omega)) rfl rfl ?_
      refine KO.storeM m0 (i := 1) rfl sz4_B14 rfl rfl rfl (cells_room (C := EB) (xs := seen) (i := ((l / 2)).toNat) (by first | omega | (simp only [splice, List.length_append, List.length_set, List.length_replicate, List.length_map, List.length_take, List.length_drop, List.length_cons, List.length_nil] <;> omega)) rfl) (cells_put0 (C := EB) (xs := seen) (i := ((l / 2)).toNat) true (by first | omega | (simp only [splice, List.length_append, List.length_set, List.length_replicate, List.length_map, List.length_take, List.length_drop, List.length_cons, List.length_nil] <;> omega))) rfl fun H6 m7 => ?_
      refine KO.nil ?_
      refine KC.region ?_
      refine KO.load1 ag24_B14 rfl (m7.row (i := 2) rfl) rfl rfl rfl ?_
      refine KO.pv (PV.move rfl) rfl rfl ?_
      refine KO.buildSliceM m7 el24_B14 ez3_B14 rfl rfl (show _ = some [.int .i64 (l / 2)] from rfl) rfl rfl fun H8 m9 => ?_
      refine KO.push (C := (EI .i64)) m9 (i := 4) rfl el24_B14 ez3_B14 sb3_B14 un24_B14 rfl rfl (newElems_row1 (C := (EI .i64)) (y := (l / 2)) (m9.row (i := 0) rfl) rfl) (by omega) rfl rfl fun a11 c12 D13 H10 hcc12 m14 => ?_
      refine KO.storeM m14 (i := 3) rfl sz24_B14 rfl rfl rfl (show 0 + 1 ≤ 1 by decide) (show _ = [.slice a11 (n_todo + 1) c12] from rfl) rfl fun H15 m16 => ?_
      refine KO.nil ?_
      exact ⟨rfl, _, .nil, (seen.set (((l / 2)).toNat) true), a11, (n_todo + 1), c12, (todo ++ [(l / 2)]), D13, rfl, m16.pick [1, 2, 3, 4] (by decide) rfl, (by first | omega | (intro h; omega) | (simp only [List.length_nil, true_and, and_true, or_true, true_or] <;> omega) | (exact ⟨by omega, by omega, by omega, by omega, by omega⟩) | (exact ⟨by have := count_markF (has := seen) (i := (l / 2).toNat) (by assumption); omega, by have := count_markF (has := seen) (i := (l / 2).toNat) (by assumption); omega, by rw [List.length_set]; omega, by omega, by rw [List.length_append, len_todo]; rfl⟩)), (by first | omega | (intro h; omega) | (simp only [List.length_nil, true_and, and_true, or_true, true_or] <;> omega) | exact ht | (exact all_app ht (all_one (by omega)))), (by first | omega | (intro h; omega) | (simp only [List.length_nil, true_and, and_true, or_true, true_or] <;> omega) | exact wf_todo | (exact all_app wf_todo (all_one (wf64 (by omega) (by omega)))))⟩
  · refine KO.pv (PV.gtrD rfl rfl (decide_eq_false h1)) rfl rfl ?_
    refine KO.pv (PV.move rfl) rfl rfl ?_
    refine KO.no rfl rfl rfl ?_
    refine KO.no rfl rfl rfl ?_
    refine KO.no rfl rfl rfl ?_
    refine KO.no rfl rfl rfl ?_
    refine KO.no rfl rfl rfl ?_
    refine KO.pv (PV.pickF rfl rfl rfl) rfl rfl ?_
    refine KO.nil ?_
    refine KC.condF rfl ?_
    refine KC.skip ?_
    exact ⟨rfl, _, .nil, seen, a_todo, n_todo, c_todo, todo, D_todo, rfl, m0.pick [0, 1, 2, 3] (by decide) rfl, (by first | omega | (intro h; omega) | (simp only [List.length_nil, true_and, and_true, or_true, true_or] <;> omega) | (exact ⟨by omega, by omega, by omega, by omega, by omega⟩) | (exact ⟨by have := count_markF (has := seen) (i := (l / 2).toNat) (by assumption); omega, by have := count_markF (has := seen) (i := (l / 2).toNat) (by assumption); omega, by rw [List.length_set]; omega, by omega, by rw [List.length_append, len_todo]; rfl⟩)), (by first | omega | (intro h; omega) | (simp only [List.length_nil, true_and, and_true, or_true, true_or] <;> omega) | exact ht | (exact all_app ht (all_one (by omega)))), (by first | omega | (intro h; omega) | (simp only [List.length_nil, true_and, and_true, or_true, true_or] <;> omega) | exact wf_todo | (exact all_app wf_todo (all_one (wf64 (by omega) (by omega)))))⟩
theorem cone_Of (H : AHeap) (ci : Int) (a_cL : Option Addr) (n_cL c_cL : Nat) (cL : List (Int × Int)) (a_cA : Option Addr) (n_cA c_cA : Nat) (cA : List (Int × Int)) (a_cB : Option Addr) (n_cB c_cB : Nat) (cB : List Int) (a_cC : Option Addr) (n_cC c_cC : Nat) (cC : List Int) (w_ci : IntKind.i64.wrap ci = ci) (h_cL : V EP H a_cL n_cL c_cL cL) (h_cA : V EP H a_cA n_cA c_cA cA) (h_cB : V (EI .i64) H a_cB n_cB c_cB cB) (h_cC : V (EI .i64) H a_cC n_cC c_cC cC) : WF E0 13 [.agg #[.int .i64 ci, .slice a_cL n_cL c_cL, .slice a_cA n_cA c_cA, .slice a_cB n_cB c_cB, .slice a_cC n_cC c_cC]] H fun q => ∃ (a : Option Addr) (n : Nat) (c : Nat) (ys : List Int) (D : List Nat) (e : Int), q.1 = .tuple #[.slice a n c, .int .i64 e] ∧ Mem [] H q.2 [R.own (EI .i64) a n c ys D] ∧ (e = 0 → CirOK ci cL cA cB cC) ∧ (n ≤ 1001 ∧ 0 ≤ e ∧ e ≤ 100) ∧ (∀ u ∈ ys, 0 ≤ u ∧ u ≤ 1001) := by
  obtain ⟨lo_ci, hi_ci⟩ := rangei64 w_ci
  obtain ⟨len_cL, cap_cL, max_cL, wf_cL⟩ := h_cL.len
  obtain ⟨len_cA, cap_cA, max_cA, wf_cA⟩ := h_cA.len
  obtain ⟨len_cB, cap_cB, max_cB, wf_cB⟩ := h_cB.len
  obtain ⟨len_cC, cap_cC, max_cC, wf_cC⟩ := h_cC.len
  have m0 : Mem [] H H [] := Mem.start
  refine WF.kg Tryz.func13 rfl rfl ?_
  refine KC.seq ?_
  refine KC.region ?_
  refine KO.boxM m0 rfl rfl (show _ = [.int .i64 ci, .slice a_cL n_cL c_cL, .slice a_cA n_cA c_cA, .slice a_cB n_cB c_cB, .slice a_cC n_cC c_cC] from rfl) rfl rfl fun H1 m2 => ?_
  refine KO.pv (PV.assign rfl) rfl rfl ?_
  refine KO.pv (PV.assign rfl) rfl rfl ?_
  refine KO.nil ?_
  refine KC.seq ?_
  refine KC.region ?_
  refine KO.loadN ag26_B14 sz26_B14 rfl (m2.row (i := 0) rfl) (takeN_of (p := [.int .i64 ci, .slice a_cL n_cL c_cL, .slice a_cA n_cA c_cA, .slice a_cB n_cB c_cB, .slice a_cC n_cC c_cC]) rfl rfl) rfl rfl ?_
  refine KO.call rfl rfl rfl rfl (gates_Vars H1 ci a_cL n_cL c_cL _ a_cA n_cA c_cA _ a_cB n_cB c_cB _ a_cC n_cC c_cC _ (wrap64 (by omega) (by omega)) (V.mem m2 h_cL) (V.mem m2 h_cA) (V.mem m2 h_cB) (V.mem m2 h_cC)) fun v3 H3 q3 => ?_
  obtain ⟨n3, e3, hv3, mc3, p3_0, p3_1⟩ := q3
  dsimp only at hv3 mc3
  subst hv3
  have m4 := m2.seq mc3
  refine KO.pv (PV.move rfl) rfl rfl ?_
  refine KO.pv (PV.extract rfl rfl) rfl rfl ?_
  refine KO.pv (PV.extract rfl rfl) rfl rfl ?_
  refine KO.pv (PV.assign rfl) rfl rfl ?_
  refine KO.pv (PV.assign rfl) rfl rfl ?_
  refine KO.nil ?_
  refine KC.seq ?_
  refine KC.seq ?_
  refine KC.region ?_
  refine KO.pv (PV.move rfl) rfl rfl ?_
  refine KO.pv (PV.neqD rfl rfl rfl) rfl rfl ?_
  refine KO.nil ?_
  refine KC.condD rfl (fun h5 => ?_) (fun h5 => ?_)
  · refine KC.seq ?_
    refine KC.region ?_
    refine KO.pv (PV.move rfl) rfl rfl ?_
    refine KO.pv (PV.assign rfl) rfl rfl ?_
    refine KO.pv (PV.assign rfl) rfl rfl ?_
    refine KO.nil ?_
    have m6 := m4.ownNil (C := (EI .i64))
    exact KC.ret ⟨rfl, _, (.tmp rfl (.tmp rfl .nil)), none, 0, 0, [], [], e3, rfl, m6.pick [0] (by decide) rfl, (by first | omega | (intro h; omega) | (simp only [List.length_nil, true_and, and_true, or_true, true_or] <;> omega) | (exact fun h => absurd h (by omega)) | (exact fun _ => (p3_0 (by omega)).1)), (by first | omega | (intro h; omega) | (simp only [List.length_nil, true_and, and_true, or_true, true_or] <;> omega)), (by first | omega | (intro h; omega) | (simp only [List.length_nil, true_and, and_true, or_true, true_or] <;> omega) | exact all_nil | assumption)⟩
  · have p3_0t := p3_0 (by omega)
    obtain ⟨p3_0s, p3_0u⟩ := id p3_0t
    obtain ⟨p3_0_i0, p3_0_al, p3_0_b, p3_0_c, p3_0_hb, p3_0_hc, p3_0_hl, p3_0_ha⟩ := id p3_0s
    refine KC.skip ?_
    refine KC.seq ?_
    refine KC.region ?_
    refine KO.pv (PV.move rfl) rfl rfl ?_
    refine KO.pv (PV.add rfl rfl (wrap64 (by omega) (by omega))) rfl rfl ?_
    refine KO.makeSliceM (C := EB) false m4 el89_B14 ez4_B14 sb4_B14 rfl rfl (by omega) (by omega) (by omega) rfl rfl fun H7 m8 => ?_
    refine KO.allocM m8 zt89_B14 rfl rfl fun H9 m10 => ?_
    refine KO.storeM m10 (i := 0) rfl sz89_B14 rfl rfl rfl (show 0 + 1 ≤ 1 by decide) (show _ = [.slice (some ⟨H3.next, 0, none⟩) (((n3 + 1)).toNat) (((n3 + 1)).toNat)] from rfl) rfl fun H11 m12 => ?_
    refine KO.nil ?_
    refine KC.seq ?_
    refine KC.drawG (n := 12) (anc := [0, 1, 3, 0, 8, 0, 32, 96, 248, 504, 7, 2047]) (hv := []) (ord := [0, 1, 2, 3, 4, 5, 6, 7, 8, 9, 10, 11]) (by kernel_rfl) (by kernel_rfl) (by kernel_rfl) (by kernel_rfl) (by kernel_rfl) fun H13 n14 g15 => ?_
    have m16 := m12.room n14 g15 [] (by decide) (by decide)
    refine KD.pv 1 (PV.fieldAddr fo26_0_B14 rfl) rfl rfl rfl (by kernel_rfl) rfl rfl rfl ?_
    refine KD.load 3 rfl (m16.row (i := 2) rfl) (by rw [read1 ag3_B14]; exact rfl) (pastGo (k := 1) (l := [H13]) (by kernel_rfl) rfl (pastCons ⟨_, (m16.row (i := 2) rfl), (by rw [read1 ag3_B14]; exact rfl)⟩ pastNil)) veq_int rfl (by kernel_rfl) rfl rfl rfl ?_
    refine KD.pv 7 (PV.add rfl rfl (wrap64 (by omega) (by omega))) rfl rfl rfl (by kernel_rfl) rfl rfl rfl ?_
    refine KD.pv 15 (PV.fieldAddr fo26_0_B14 rfl) rfl rfl rfl (by kernel_rfl) rfl rfl rfl ?_
    refine KD.load 31 rfl (m16.row (i := 2) rfl) (by rw [read1 ag3_B14]; exact rfl) (pastGo (k := 1) (l := [H13]) (by kernel_rfl) rfl (pastCons ⟨_, (m16.row (i := 2) rfl), (by rw [read1 ag3_B14]; exact rfl)⟩ pastNil)) veq_int rfl (by kernel_rfl) rfl rfl rfl ?_
    refine KD.pv 63 (PV.fieldAddr fo26_1_B14 rfl) rfl rfl rfl (by kernel_rfl) rfl rfl rfl ?_
    refine KD.load 127 rfl (m16.row (i := 2) rfl) (by rw [read1 ag22_B14]; exact rfl) (pastGo (k := 1) (l := [H13]) (by kernel_rfl) rfl (pastCons ⟨_, (m16.row (i := 2) rfl), (by rw [read1 ag22_B14]; exact rfl)⟩ pastNil)) veq_sl rfl (by kernel_rfl) rfl rfl rfl ?_
    refine KD.pv 255 (PV.len un22_B14 rfl) rfl rfl (rd_int _) (by kernel_rfl) rfl rfl rfl ?_
    refine KD.pv 511 (PV.add rfl rfl (wrap64 (by omega) (by omega))) rfl rfl rfl (by kernel_rfl) rfl rfl rfl ?_
    refine KD.pv 1023 (PV.add rfl rfl (wrap64 (by omega) (by omega))) rfl rfl rfl (by kernel_rfl) rfl rfl rfl ?_
    refine KD.pv 2047 (PV.assign rfl) rfl rfl rfl (by kernel_rfl) rfl rfl rfl ?_
    refine KD.pv 4095 (PV.assign rfl) rfl rfl rfl (by kernel_rfl) rfl rfl rfl ?_
    refine KD.nil ⟨rfl, ?_⟩
    refine KC.seq ?_
    refine KC.region ?_
    refine KO.allocM m16 zt24_B14 rfl rfl fun H17 m18 => ?_
    refine KO.nil ?_
    refine KC.seq ?_
    refine KC.region ?_
    refine KO.pv (PV.makeFunc rfl rfl) rfl rfl ?_
    refine KO.pv (PV.assign rfl) rfl rfl ?_
    refine KO.nil ?_
    refine KC.seq ?_
    refine KC.seq ?_
    refine KC.region ?_
    refine KO.pv (PV.fieldAddr fo26_3_B14 rfl) rfl rfl ?_
    refine KO.load1 ag24_B14 rfl (m18.row (i := 3) rfl) rfl rfl rfl ?_
    refine KO.pv (PV.fieldAddr fo26_4_B14 rfl) rfl rfl ?_
    refine KO.load1 ag24_B14 rfl (m18.row (i := 3) rfl) rfl rfl rfl ?_
    refine KO.buildSliceM m18 el42_B14 ez24_B14 rfl rfl (show _ = some [.slice a_cB n_cB c_cB, .slice a_cC n_cC c_cC] from rfl) rfl rfl fun H19 m20 => ?_
    refine KO.call rfl rfl rfl rfl (Concat_int H19 (some ⟨H17.next, 0, none⟩) 2 2 _ _ (m20.vrow (E := ES) (xs := [(a_cB, n_cB, c_cB), (a_cC, n_cC, c_cC)]) (i := 0) rfl (fun _ _ => trivial) rfl (by decide) (by decide)) (VV.cons (V.mem m20 h_cB) (VV.cons (V.mem m20 h_cC) VV.nil)) (by simp only [List.flatten_cons, List.flatten_nil, List.length_append, List.length_nil]; omega)) fun v21 H21 q21 => ?_
    obtain ⟨a21, n21, xs21, D21, hv21, mc21, p21_0⟩ := q21
    dsimp only at hv21 mc21
    subst hv21
    have m22 := m20.seq mc21
    have hab : ∀ u ∈ xs21, 0 ≤ u ∧ u / 2 < 1 + ci + cL.length + cA.length := by rw [p21_0]; simp only [List.flatten_cons, List.flatten_nil, List.append_nil]; exact all_app p3_0_hb p3_0_hc
    have wf_all : ∀ u ∈ xs21, (EI .i64).wf u := by rw [p21_0]; simp only [List.flatten_cons, List.flatten_nil, List.append_nil]; exact all_app wf_cB wf_cC
    have hn : xs21.length = n21 := m22.lstLen (E := EI .i64) (i := 0) rfl
    have hn2 : xs21.length = n_cB + n_cC := by rw [p21_0]; simp only [List.flatten_cons, List.flatten_nil, List.length_append, List.length_nil]; omega
    refine KO.pv (PV.len un24_B14 rfl) rfl rfl ?_
    refine KO.pv (PV.move rfl) rfl rfl ?_
    refine KO.nil ?_
    refine KC.block ?_
    refine KC.sub (l' := [(1, .pointer (some ⟨H.next, 0, none⟩)), (6, .pointer (some ⟨H7.next, 0, none⟩)), (7, .int .i64 (ci + 1)), (8, .int .i64 ((ci + (n_cL : Int)) + 1)), (9, .pointer (some ⟨H13.next, 0, none⟩)), (10, .func (.func 101) #[] #[.pointer (some ⟨H7.next, 0, none⟩), .pointer (some ⟨H13.next, 0, none⟩)]), (44, .slice a21 n21 n21), (45, .int .i64 (n21 : Int)), (46, .int .i64 0)]) (.cons rfl (.cons rfl (.cons rfl (.cons rfl (.cons rfl (.cons rfl (.cons rfl (.cons rfl (.cons rfl .nil))))))))) ?_
    have m23 := m22.lnilC (EI .i64) (e := 3) none rfl
    have m24 := m23.lstStk (C := (EI .i64)) (i := 0) rfl (by omega)
    refine KC.loopN (fun kq lq A => ∃ (x46 : Int) (a_c9_0 : Option Addr) (n_c9_0 : Nat) (l_c9_0 : List Int) (D_c9_0 : List Nat) (k_c9_0 : Nat) (l27 : List Bool), kq = ((n21 : Int) - x46).toNat ∧ lq = [(1, .pointer (some ⟨H.next, 0, none⟩)), (6, .pointer (some ⟨H7.next, 0, none⟩)), (7, .int .i64 (ci + 1)), (8, .int .i64 ((ci + (n_cL : Int)) + 1)), (9, .pointer (some ⟨H13.next, 0, none⟩)), (10, .func (.func 101) #[] #[.pointer (some ⟨H7.next, 0, none⟩), .pointer (some ⟨H13.next, 0, none⟩)]), (44, .slice a21 n21 n21), (45, .int .i64 (n21 : Int)), (46, .int .i64 x46)] ∧ Mem [] H A [R.lst 3 1 a21 n21 (cells (EI .i64) xs21) D21, R.row H13.next 24 true [.slice a_c9_0 n_c9_0 k_c9_0], R.row H7.next 89 true [.slice (some ⟨H3.next, 0, none⟩) (((n3 + 1)).toNat) (((n3 + 1)).toNat)], R.row H3.next 4 true (cells EB l27), R.row H.next 26 true [.int .i64 ci, .slice a_cL n_cL c_cL, .slice a_cA n_cA c_cA, .slice a_cB n_cB c_cB, .slice a_cC n_cC c_cC], R.stk (EI .i64) 3 a_c9_0 n_c9_0 k_c9_0 l_c9_0 D_c9_0] ∧ (0 ≤ x46 ∧ x46 ≤ (n21 : Int)) ∧ (n_c9_0 + l27.count false ≤ 1001) ∧ (n_c9_0 ≤ k_c9_0) ∧ (l_c9_0.length = n_c9_0) ∧ (∀ u ∈ l_c9_0, (EI .i64).wf u) ∧ (∀ u ∈ l_c9_0, 1 ≤ u ∧ u < (((n3 + 1)).toNat : Int)) ∧ (l27.length = ((n3 + 1)).toNat)) ?_ (((n21 : Int) - 0).toNat) ⟨0, none, 0, [], [], 0, (List.replicate (((n3 + 1)).toNat) false), rfl, rfl, (m24.pick [1, 3, 4, 5, 6, 0] (by decide) rfl), (by first | omega | assumption | (constructor <;> omega)), (by rw [List.count_replicate_self]; omega), (by first | omega | (simp only [splice, List.length_append, List.length_set, List.length_replicate, List.length_map, List.length_take, List.length_drop, List.length_cons, List.length_nil] <;> omega)), (by first | omega | (simp only [splice, List.length_append, List.length_set, List.length_replicate, List.length_map, List.length_take, List.length_drop, List.length_cons, List.length_nil] <;> omega)), (fun _ h => absurd h List.not_mem_nil), all_nil, (by first | omega | (simp only [splice, List.length_append, List.length_set, List.length_replicate, List.length_map, List.length_take, List.length_drop, List.length_cons, List.length_nil] <;> omega))⟩
    rintro kq lq A25 ⟨x46, a_c9_0, n_c9_0, l_c9_0, D_c9_0, k_c9_0, l27, rfl, rfl, m26, hr9, hk, hcap, hl_l_c9_0, hw_l_c9_0, ht, hl_l27⟩
    refine KC.seq ?_
    refine KC.region ?_
    refine KO.pv (PV.lssD rfl rfl rfl) rfl rfl ?_
    refine KO.nil ?_
    refine KC.seq ?_
    refine KC.condD rfl (fun h27 => ?_) (fun h27 => ?_)
    · refine KC.skip ?_
      refine KC.seq ?_
      refine KC.block ?_
      refine KC.seq ?_
      refine KC.region ?_
      obtain ⟨b28, o28, p28, r28, e28, ha28, hb28, hr28, hx28, hw28, hc28, ht28⟩ := V.at_ (m26.vlst (i := 0) rfl wf_all (by first | omega | (simp only [splice, List.length_append, List.length_set, List.length_replicate, List.length_map, List.length_take, List.length_drop, List.length_cons, List.length_nil] <;> omega))) (z := x46) (by omega) (by omega)
      have hc28_0 : r28.cs[o28 + (x46).toNat * 1 + 0]? = some (.int .i64 e28) := hc28 0 (by decide)
      have hw28 : IntKind.i64.wrap e28 = e28 := hw28
      obtain ⟨lo28, hi28⟩ := rangei64 hw28
      have hab28 := hab _ (List.mem_of_getElem? hx28)
      refine KO.pv (PV.indexAddrZ un24_B14 sz3_B14 rfl ha28 rfl (by omega) (by omega)) rfl rfl ?_
      refine KO.load1 ag3_B14 rfl hr28 hc28_0 rfl rfl ?_
      refine KO.pv (PV.assign rfl) rfl rfl ?_
      refine KO.nil ?_
      refine KC.region ?_
      refine KO.pv (PV.move rfl) rfl rfl ?_
      refine KO.pv (PV.move rfl) rfl rfl ?_
      have m29 : Mem [] H A25 [R.row H7.next 89 true [.slice (some ⟨H3.next, 0, none⟩) (((n3 + 1)).toNat) (((n3 + 1)).toNat)], R.row H3.next 4 true (cells EB l27), R.row H13.next 24 true [.slice a_c9_0 n_c9_0 k_c9_0], R.stk (EI .i64) 3 a_c9_0 n_c9_0 k_c9_0 l_c9_0 D_c9_0, R.lst 3 1 a21 n21 (cells (EI .i64) xs21) D21, R.row H.next 26 true [.int .i64 ci, .slice a_cL n_cL c_cL, .slice a_cA n_cA c_cA, .slice a_cB n_cB c_cB, .slice a_cC n_cC c_cC]] := m26.pick [2, 3, 1, 5, 0, 4] (by decide) rfl
      refine KO.callV rfl rfl rfl rfl rfl (cone_visit A25 e28 H7.next H3.next (((n3 + 1)).toNat) _ H13.next a_c9_0 n_c9_0 k_c9_0 _ D_c9_0 (wrap64 (by omega) (by omega)) (m29.ownK (Rs := [R.row H7.next 89 true [.slice (some ⟨H3.next, 0, none⟩) (((n3 + 1)).toNat) (((n3 + 1)).toNat)], R.row H3.next 4 true (cells EB l27), R.row H13.next 24 true [.slice a_c9_0 n_c9_0 k_c9_0], R.stk (EI .i64) 3 a_c9_0 n_c9_0 k_c9_0 l_c9_0 D_c9_0])) (by first | omega | (simp only [splice, List.length_append, List.length_set, List.length_replicate, List.length_map, List.length_take, List.length_drop, List.length_cons, List.length_nil] <;> omega)) (by omega) hw_l_c9_0 (by first | omega | assumption) (by first | omega | assumption) (by first | assumption | exact all_nil | exact all_take (by assumption))) fun v30 H30 q30 => ?_
      obtain ⟨ys30, a30, n30, c30, xs30, D30, hv30, mc30, p30_0, p30_1, p30_2⟩ := q30
      dsimp only at hv30 mc30
      subst hv30
      have m31 := m29.seqK (Rs := [R.row H7.next 89 true [.slice (some ⟨H3.next, 0, none⟩) (((n3 + 1)).toNat) (((n3 + 1)).toNat)], R.row H3.next 4 true (cells EB l27), R.row H13.next 24 true [.slice a_c9_0 n_c9_0 k_c9_0], R.stk (EI .i64) 3 a_c9_0 n_c9_0 k_c9_0 l_c9_0 D_c9_0]) mc30
      refine KO.nil ?_
      refine KC.region ?_
      refine KO.pv (PV.add rfl rfl (wrap64 (by omega) (by omega))) rfl rfl ?_
      refine KO.pv (PV.move rfl) rfl rfl ?_
      refine KO.nil ?_
      exact ⟨_, _, (by omega), (.cons rfl (.cons rfl (.cons rfl (.cons rfl (.cons rfl (.cons rfl (.cons rfl (.cons rfl (.cons rfl .nil))))))))), (x46 + 1), a30, n30, xs30, D30, c30, ys30, rfl, rfl, (m31.pick [4, 2, 0, 1, 5, 3] (by decide) rfl), (by first | omega | assumption | (constructor <;> omega)), (by first | omega | (simp only [splice, List.length_append, List.length_set, List.length_replicate, List.length_map, List.length_take, List.length_drop, List.length_cons, List.length_nil] <;> omega)), (by first | omega | (simp only [splice, List.length_append, List.length_set, List.length_replicate, List.length_map, List.length_take, List.length_drop, List.length_cons, List.length_nil] <;> omega)), (by first | omega | (simp only [splice, List.length_append, List.length_set, List.length_replicate, List.length_map, List.length_take, List.length_drop, List.length_cons, List.length_nil] <;> omega)), (by assumption), (by assumption), (by first | omega | (simp only [splice, List.length_append, List.length_set, List.length_replicate, List.length_map, List.length_take, List.length_drop, List.length_cons, List.length_nil] <;> omega))⟩
    · refine KC.exit ?_
      refine KC.seq ?_
      refine KC.block ?_
      refine KC.sub (l' := [(1, .pointer (some ⟨H.next, 0, none⟩)), (6, .pointer (some ⟨H7.next, 0, none⟩)), (7, .int .i64 (ci + 1)), (8, .int .i64 ((ci + (n_cL : Int)) + 1)), (9, .pointer (some ⟨H13.next, 0, none⟩)), (10, .func (.func 101) #[] #[.pointer (some ⟨H7.next, 0, none⟩), .pointer (some ⟨H13.next, 0, none⟩)])]) (.cons rfl (.cons rfl (.cons rfl (.cons rfl (.cons rfl (.cons rfl .nil)))))) ?_
      refine KC.loopN (fun kq lq A => ∃ (a_c9_0b : Option Addr) (n_c9_0b : Nat) (l_c9_0b : List Int) (D_c9_0b : List Nat) (k_c9_0b : Nat) (l6_0 : List Bool), kq = n_c9_0b + 2 * l6_0.count false ∧ lq = [(1, .pointer (some ⟨H.next, 0, none⟩)), (6, .pointer (some ⟨H7.next, 0, none⟩)), (7, .int .i64 (ci + 1)), (8, .int .i64 ((ci + (n_cL : Int)) + 1)), (9, .pointer (some ⟨H13.next, 0, none⟩)), (10, .func (.func 101) #[] #[.pointer (some ⟨H7.next, 0, none⟩), .pointer (some ⟨H13.next, 0, none⟩)])] ∧ Mem [] H A [R.row H13.next 24 true [.slice a_c9_0b n_c9_0b k_c9_0b], R.row H7.next 89 true [.slice (some ⟨H3.next, 0, none⟩) (((n3 + 1)).toNat) (((n3 + 1)).toNat)], R.row H3.next 4 true (cells EB l6_0), R.row H.next 26 true [.int .i64 ci, .slice a_cL n_cL c_cL, .slice a_cA n_cA c_cA, .slice a_cB n_cB c_cB, .slice a_cC n_cC c_cC], R.stk (EI .i64) 3 a_c9_0b n_c9_0b k_c9_0b l_c9_0b D_c9_0b] ∧ (n_c9_0b + l6_0.count false ≤ 1001) ∧ (n_c9_0b ≤ k_c9_0b) ∧ (l_c9_0b.length = n_c9_0b) ∧ (∀ u ∈ l_c9_0b, (EI .i64).wf u) ∧ (∀ u ∈ l_c9_0b, 1 ≤ u ∧ u < (((n3 + 1)).toNat : Int)) ∧ (l6_0.length = ((n3 + 1)).toNat)) ?_ (n_c9_0 + 2 * l27.count false) ⟨a_c9_0, n_c9_0, l_c9_0, D_c9_0, k_c9_0, l27, rfl, rfl, (m26.pick [1, 2, 3, 4, 5] (by decide) rfl), (by first | omega | (simp only [splice, List.length_append, List.length_set, List.length_replicate, List.length_map, List.length_take, List.length_drop, List.length_cons, List.length_nil] <;> omega)), (by first | omega | (simp only [splice, List.length_append, List.length_set, List.length_replicate, List.length_map, List.length_take, List.length_drop, List.length_cons, List.length_nil] <;> omega)), (by first | omega | (simp only [splice, List.length_append, List.length_set, List.length_replicate, List.length_map, List.length_take, List.length_drop, List.length_cons, List.length_nil] <;> omega)), hw_l_c9_0, (by assumption), (by first | omega | (simp only [splice, List.length_append, List.length_set, List.length_replicate, List.length_map, List.length_take, List.length_drop, List.length_cons, List.length_nil] <;> omega))⟩
      rintro kq lq A32 ⟨a_c9_0b, n_c9_0b, l_c9_0b, D_c9_0b, k_c9_0b, l6_0, rfl, rfl, m33, hk2, hcap2, hl_l_c9_0b, hw_l_c9_0b, ht2, hl_l6_0⟩
      refine KC.seq ?_
      refine KC.seq ?_
      refine KC.region ?_
      refine KO.load1 ag24_B14 rfl (m33.row (i := 0) rfl) rfl rfl rfl ?_
      refine KO.pv (PV.len un24_B14 rfl) rfl rfl ?_
      refine KO.pv (PV.gtrD rfl rfl rfl) rfl rfl ?_
      refine KO.nil ?_
      refine KC.condD rfl (fun h34 => ?_) (fun h34 => ?_)
      · refine KC.skip ?_
        refine KC.block ?_
        refine KC.seq ?_
        refine KC.region ?_
        refine KO.load1 ag24_B14 rfl (m33.row (i := 0) rfl) rfl rfl rfl ?_
        refine KO.load1 ag24_B14 rfl (m33.row (i := 0) rfl) rfl rfl rfl ?_
        refine KO.pv (PV.len un24_B14 rfl) rfl rfl ?_
        refine KO.pv (PV.sub rfl rfl (wrap64 (by omega) (by omega))) rfl rfl ?_
        obtain ⟨b35, o35, p35, r35, e35, ha35, hb35, hr35, hx35, hw35, hc35, ht35⟩ := V.at_ (m33.stkV (i := 4) rfl hw_l_c9_0b (by omega)) (z := ((n_c9_0b : Int) - 1)) (by omega) (by omega)
        have hc35_0 : r35.cs[o35 + (((n_c9_0b : Int) - 1)).toNat * 1 + 0]? = some (.int .i64 e35) := hc35 0 (by decide)
        have hw35 : IntKind.i64.wrap e35 = e35 := hw35
        obtain ⟨lo35, hi35⟩ := rangei64 hw35
        have ht235 := ht2 _ (List.mem_of_getElem? hx35)
        refine KO.pv (PV.indexAddrZ un24_B14 sz3_B14 rfl ha35 rfl (by omega) (by omega)) rfl rfl ?_
        refine KO.load1 ag3_B14 rfl hr35 hc35_0 rfl rfl ?_
        refine KO.pv (PV.assign rfl) rfl rfl ?_
        refine KO.nil ?_
        refine KC.seq ?_
        refine KC.region ?_
        refine KO.load1 ag24_B14 rfl (m33.row (i := 0) rfl) rfl rfl rfl ?_
        refine KO.load1 ag24_B14 rfl (m33.row (i := 0) rfl) rfl rfl rfl ?_
        refine KO.pv (PV.len un24_B14 rfl) rfl rfl ?_
        refine KO.pv (PV.sub rfl rfl (wrap64 (by omega) (by omega))) rfl rfl ?_
        refine KO.pv (PV.slice rfl (fun _ h => by cases h) (fun _ => rfl) (fun _ h => by cases h; exact ⟨_, rfl, rfl⟩) (fun h => by cases h) (fun _ h => by cases h) (fun _ => rfl) (sliceTo un24_B14 sz3_B14 (m33.stkV (i := 4) rfl hw_l_c9_0b (by omega)) (by omega) (by omega))) rfl rfl ?_
        have m36 := m33.stkTake (i := 4) (j := (((n_c9_0b : Int) - 1)).toNat) rfl (by omega)
        refine KO.storeM m36 (i := 0) rfl sz24_B14 rfl rfl rfl (show 0 + 1 ≤ 1 by decide) (show _ = [.slice a_c9_0b ((((n_c9_0b : Int) - 1)).toNat) k_c9_0b] from rfl) rfl fun H37 m38 => ?_
        refine KO.nil ?_
        refine KC.block ?_
        refine KC.seq ?_
        refine KC.region ?_
        refine KO.pv (PV.move rfl) rfl rfl ?_
        refine KO.pv (PV.move rfl) rfl rfl ?_
        refine KO.pv (PV.geqD rfl rfl rfl) rfl rfl ?_
        refine KO.pv (PV.assign rfl) rfl rfl ?_
        refine KO.nil ?_
        refine KC.condD rfl (fun h39 => ?_) (fun h39 => ?_)
        · refine KC.seq ?_
          refine KC.region ?_
          refine KO.pv (PV.move rfl) rfl rfl ?_
          refine KO.pv (PV.fieldAddr fo26_2_B14 rfl) rfl rfl ?_
          refine KO.load1 ag23_B14 rfl (m38.row (i := 3) rfl) rfl rfl rfl ?_
          refine KO.pv (PV.move rfl) rfl rfl ?_
          refine KO.pv (PV.move rfl) rfl rfl ?_
          refine KO.pv (PV.sub rfl rfl (wrap64 (by omega) (by omega))) rfl rfl ?_
          obtain ⟨b40, o40, p40, r40, e40, ha40, hb40, hr40, hx40, hw40, hc40, ht40⟩ := V.at_ h_cA (z := (e35 - ((ci + (n_cL : Int)) + 1))) (by omega) (by omega)
          have hc40_0 : r40.cs[o40 + ((e35 - ((ci + (n_cL : Int)) + 1))).toNat * 2 + 0]? = some (.int .i64 e40.1) := hc40 0 (by decide)
          have hc40_1 : r40.cs[o40 + ((e35 - ((ci + (n_cL : Int)) + 1))).toNat * 2 + 1]? = some (.int .i64 e40.2) := hc40 1 (by decide)
          obtain ⟨hwa40, hwb40⟩ := hw40
          obtain ⟨loa40, hia40⟩ := rangei64 hwa40
          obtain ⟨lob40, hib40⟩ := rangei64 hwb40
          have gp3_0_ha_40 := p3_0_ha _ _ hx40
          refine KO.pv (PV.indexAddrZ un23_B14 sz145_B14 rfl ha40 rfl (by omega) (by omega)) rfl rfl ?_
          refine KO.pv (PV.fieldAddr fo145_0_B14 rfl) rfl rfl ?_
          refine KO.load1 ag3_B14 rfl (m38.row0 hb40 hr40) hc40_0 rfl rfl ?_
          have m41 : Mem [] H H37 [R.row H7.next 89 true [.slice (some ⟨H3.next, 0, none⟩) (((n3 + 1)).toNat) (((n3 + 1)).toNat)], R.row H3.next 4 true (cells EB l6_0), R.row H13.next 24 true [.slice a_c9_0b ((((n_c9_0b : Int) - 1)).toNat) k_c9_0b], R.stk (EI .i64) 3 a_c9_0b ((((n_c9_0b : Int) - 1)).toNat) k_c9_0b (l_c9_0b.take ((((n_c9_0b : Int) - 1)).toNat)) D_c9_0b, R.row H.next 26 true [.int .i64 ci, .slice a_cL n_cL c_cL, .slice a_cA n_cA c_cA, .slice a_cB n_cB c_cB, .slice a_cC n_cC c_cC]] := m38.pick [1, 2, 0, 4, 3] (by decide) rfl
          refine KO.callV rfl rfl rfl rfl rfl (cone_visit H37 e40.1 H7.next H3.next (((n3 + 1)).toNat) _ H13.next a_c9_0b ((((n_c9_0b : Int) - 1)).toNat) k_c9_0b _ D_c9_0b (wrap64 (by omega) (by omega)) (m41.ownK (Rs := [R.row H7.next 89 true [.slice (some ⟨H3.next, 0, none⟩) (((n3 + 1)).toNat) (((n3 + 1)).toNat)], R.row H3.next 4 true (cells EB l6_0), R.row H13.next 24 true [.slice a_c9_0b ((((n_c9_0b : Int) - 1)).toNat) k_c9_0b], R.stk (EI .i64) 3 a_c9_0b ((((n_c9_0b : Int) - 1)).toNat) k_c9_0b (l_c9_0b.take ((((n_c9_0b : Int) - 1)).toNat)) D_c9_0b])) (by first | omega | (simp only [splice, List.length_append, List.length_set, List.length_replicate, List.length_map, List.length_take, List.length_drop, List.length_cons, List.length_nil] <;> omega)) (by omega) (all_take hw_l_c9_0b) (by first | omega | assumption) (by first | omega | assumption) (by first | assumption | exact all_nil | exact all_take (by assumption))) fun v42 H42 q42 => ?_
          obtain ⟨ys42, a42, n42, c42, xs42, D42, hv42, mc42, p42_0, p42_1, p42_2⟩ := q42
          dsimp only at hv42 mc42
          subst hv42
          have m43 := m41.seqK (Rs := [R.row H7.next 89 true [.slice (some ⟨H3.next, 0, none⟩) (((n3 + 1)).toNat) (((n3 + 1)).toNat)], R.row H3.next 4 true (cells EB l6_0), R.row H13.next 24 true [.slice a_c9_0b ((((n_c9_0b : Int) - 1)).toNat) k_c9_0b], R.stk (EI .i64) 3 a_c9_0b ((((n_c9_0b : Int) - 1)).toNat) k_c9_0b (l_c9_0b.take ((((n_c9_0b : Int) - 1)).toNat)) D_c9_0b]) mc42
          refine KO.nil ?_
          refine KC.region ?_
          refine KO.pv (PV.move rfl) rfl rfl ?_
          refine KO.pv (PV.fieldAddr fo26_2_B14 rfl) rfl rfl ?_
          refine KO.load1 ag23_B14 rfl (m43.row (i := 4) rfl) rfl rfl rfl ?_
          refine KO.pv (PV.move rfl) rfl rfl ?_
          refine KO.pv (PV.move rfl) rfl rfl ?_
          refine KO.pv (PV.sub rfl rfl (wrap64 (by omega) (by omega))) rfl rfl ?_
          obtain ⟨b44, o44, p44, r44, e44, ha44, hb44, hr44, hx44, hw44, hc44, ht44⟩ := V.at_ h_cA (z := (e35 - ((ci + (n_cL : Int)) + 1))) (by omega) (by omega)
          have hc44_0 : r44.cs[o44 + ((e35 - ((ci + (n_cL : Int)) + 1))).toNat * 2 + 0]? = some (.int .i64 e44.1) := hc44 0 (by decide)
          have hc44_1 : r44.cs[o44 + ((e35 - ((ci + (n_cL : Int)) + 1))).toNat * 2 + 1]? = some (.int .i64 e44.2) := hc44 1 (by decide)
          obtain ⟨hwa44, hwb44⟩ := hw44
          obtain ⟨loa44, hia44⟩ := rangei64 hwa44
          obtain ⟨lob44, hib44⟩ := rangei64 hwb44
          have gp3_0_ha_44 := p3_0_ha _ _ hx44
          have hq44 : e44 = e40 := Option.some.inj (hx44.symm.trans hx40)
          refine KO.pv (PV.indexAddrZ un23_B14 sz145_B14 rfl ha44 rfl (by omega) (by omega)) rfl rfl ?_
          refine KO.pv (PV.fieldAddr fo145_1_B14 rfl) rfl rfl ?_
          refine KO.load1 ag3_B14 rfl (m43.row0 hb44 hr44) hc44_1 rfl rfl ?_
          have m45 : Mem [] H H42 [R.row H7.next 89 true [.slice (some ⟨H3.next, 0, none⟩) (((n3 + 1)).toNat) (((n3 + 1)).toNat)], R.row H3.next 4 true (cells EB ys42), R.row H13.next 24 true [.slice a42 n42 c42], R.stk (EI .i64) 3 a42 n42 c42 xs42 D42, R.row H.next 26 true [.int .i64 ci, .slice a_cL n_cL c_cL, .slice a_cA n_cA c_cA, .slice a_cB n_cB c_cB, .slice a_cC n_cC c_cC]] := m43.pick [0, 1, 2, 3, 4] (by decide) rfl
          refine KO.callV rfl rfl rfl rfl rfl (cone_visit H42 e44.2 H7.next H3.next (((n3 + 1)).toNat) _ H13.next a42 n42 c42 _ D42 (wrap64 (by omega) (by omega)) (m45.ownK (Rs := [R.row H7.next 89 true [.slice (some ⟨H3.next, 0, none⟩) (((n3 + 1)).toNat) (((n3 + 1)).toNat)], R.row H3.next 4 true (cells EB ys42), R.row H13.next 24 true [.slice a42 n42 c42], R.stk (EI .i64) 3 a42 n42 c42 xs42 D42])) (by first | omega | (simp only [splice, List.length_append, List.length_set, List.length_replicate, List.length_map, List.length_take, List.length_drop, List.length_cons, List.length_nil] <;> omega)) (by omega) (by assumption) (by first | omega | assumption) (by first | omega | assumption) (by first | assumption | exact all_nil | exact all_take (by assumption))) fun v46 H46 q46 => ?_
          obtain ⟨ys46, a46, n46, c46, xs46, D46, hv46, mc46, p46_0, p46_1, p46_2⟩ := q46
          dsimp only at hv46 mc46
          subst hv46
          have m47 := m45.seqK (Rs := [R.row H7.next 89 true [.slice (some ⟨H3.next, 0, none⟩) (((n3 + 1)).toNat) (((n3 + 1)).toNat)], R.row H3.next 4 true (cells EB ys42), R.row H13.next 24 true [.slice a42 n42 c42], R.stk (EI .i64) 3 a42 n42 c42 xs42 D42]) mc46
          refine KO.nil ?_
          exact ⟨_, _, (by omega), (.cons rfl (.cons rfl (.cons rfl (.cons rfl (.cons rfl (.cons rfl .nil)))))), a46, n46, xs46, D46, c46, ys46, rfl, rfl, (m47.pick [2, 0, 1, 4, 3] (by decide) rfl), (by first | omega | (simp only [splice, List.length_append, List.length_set, List.length_replicate, List.length_map, List.length_take, List.length_drop, List.length_cons, List.length_nil] <;> omega)), (by first | omega | (simp only [splice, List.length_append, List.length_set, List.length_replicate, List.length_map, List.length_take, List.length_drop, List.length_cons, List.length_nil] <;> omega)), (by first | omega | (simp only [splice, List.length_append, List.length_set, List.length_replicate, List.length_map, List.length_take, List.length_drop, List.length_cons, List.length_nil] <;> omega)), (by assumption), (by assumption), (by first | omega | (simp only [splice, List.length_append, List.length_set, List.length_replicate, List.length_map, List.length_take, List.length_drop, List.length_cons, List.length_nil] <;> omega))⟩
        · refine KC.seq ?_
          refine KC.region ?_
          refine KO.pv (PV.move rfl) rfl rfl ?_
          refine KO.pv (PV.move rfl) rfl rfl ?_
          refine KO.pv (PV.geqD rfl rfl rfl) rfl rfl ?_
          refine KO.pv (PV.assign rfl) rfl rfl ?_
          refine KO.nil ?_
          refine KC.condD rfl (fun h48 => ?_) (fun h48 => ?_)
          · refine KC.region ?_
            refine KO.pv (PV.move rfl) rfl rfl ?_
            refine KO.pv (PV.fieldAddr fo26_1_B14 rfl) rfl rfl ?_
            refine KO.load1 ag22_B14 rfl (m38.row (i := 3) rfl) rfl rfl rfl ?_
            refine KO.pv (PV.move rfl) rfl rfl ?_
            refine KO.pv (PV.move rfl) rfl rfl ?_
            refine KO.pv (PV.sub rfl rfl (wrap64 (by omega) (by omega))) rfl rfl ?_
            obtain ⟨b49, o49, p49, r49, e49, ha49, hb49, hr49, hx49, hw49, hc49, ht49⟩ := V.at_ h_cL (z := (e35 - (ci + 1))) (by omega) (by omega)
            have hc49_0 : r49.cs[o49 + ((e35 - (ci + 1))).toNat * 2 + 0]? = some (.int .i64 e49.1) := hc49 0 (by decide)
            have hc49_1 : r49.cs[o49 + ((e35 - (ci + 1))).toNat * 2 + 1]? = some (.int .i64 e49.2) := hc49 1 (by decide)
            obtain ⟨hwa49, hwb49⟩ := hw49
            obtain ⟨loa49, hia49⟩ := rangei64 hwa49
            obtain ⟨lob49, hib49⟩ := rangei64 hwb49
            have gp3_0_hl_49 := p3_0_hl _ (List.mem_of_getElem? hx49)
            refine KO.pv (PV.indexAddrZ un22_B14 sz147_B14 rfl ha49 rfl (by omega) (by omega)) rfl rfl ?_
            refine KO.pv (PV.fieldAddr fo147_0_B14 rfl) rfl rfl ?_
            refine KO.load1 ag3_B14 rfl (m38.row0 hb49 hr49) hc49_0 rfl rfl ?_
            have m50 : Mem [] H H37 [R.row H7.next 89 true [.slice (some ⟨H3.next, 0, none⟩) (((n3 + 1)).toNat) (((n3 + 1)).toNat)], R.row H3.next 4 true (cells EB l6_0), R.row H13.next 24 true [.slice a_c9_0b ((((n_c9_0b : Int) - 1)).toNat) k_c9_0b], R.stk (EI .i64) 3 a_c9_0b ((((n_c9_0b : Int) - 1)).toNat) k_c9_0b (l_c9_0b.take ((((n_c9_0b : Int) - 1)).toNat)) D_c9_0b, R.row H.next 26 true [.int .i64 ci, .slice a_cL n_cL c_cL, .slice a_cA n_cA c_cA, .slice a_cB n_cB c_cB, .slice a_cC n_cC c_cC]] := m38.pick [1, 2, 0, 4, 3] (by decide) rfl
            refine KO.callV rfl rfl rfl rfl rfl (cone_visit H37 e49.1 H7.next H3.next (((n3 + 1)).toNat) _ H13.next a_c9_0b ((((n_c9_0b : Int) - 1)).toNat) k_c9_0b _ D_c9_0b (wrap64 (by omega) (by omega)) (m50.ownK (Rs := [R.row H7.next 89 true [.slice (some ⟨H3.next, 0, none⟩) (((n3 + 1)).toNat) (((n3 + 1)).toNat)], R.row H3.next 4 true (cells EB l6_0), R.row H13.next 24 true [.slice a_c9_0b ((((n_c9_0b : Int) - 1)).toNat) k_c9_0b], R.stk (EI .i64) 3 a_c9_0b ((((n_c9_0b : Int) - 1)).toNat) k_c9_0b (l_c9_0b.take ((((n_c9_0b : Int) - 1)).toNat)) D_c9_0b])) (by first | omega | (simp only [splice, List.length_append, List.length_set, List.length_replicate, List.length_map, List.length_take, List.length_drop, List.length_cons, List.length_nil] <;> omega)) (by omega) (all_take hw_l_c9_0b) (by first | omega | assumption) (by first | omega | assumption) (by first | assumption | exact all_nil | exact all_take (by assumption))) fun v51 H51 q51 => ?_
            obtain ⟨ys51, a51, n51, c51, xs51, D51, hv51, mc51, p51_0, p51_1, p51_2⟩ := q51
            dsimp only at hv51 mc51
            subst hv51
            have m52 := m50.seqK (Rs := [R.row H7.next 89 true [.slice (some ⟨H3.next, 0, none⟩) (((n3 + 1)).toNat) (((n3 + 1)).toNat)], R.row H3.next 4 true (cells EB l6_0), R.row H13.next 24 true [.slice a_c9_0b ((((n_c9_0b : Int) - 1)).toNat) k_c9_0b], R.stk (EI .i64) 3 a_c9_0b ((((n_c9_0b : Int) - 1)).toNat) k_c9_0b (l_c9_0b.take ((((n_c9_0b : Int) - 1)).toNat)) D_c9_0b]) mc51
            refine KO.nil ?_
            exact ⟨_, _, (by omega), (.cons rfl (.cons rfl (.cons rfl (.cons rfl (.cons rfl (.cons rfl .nil)))))), a51, n51, xs51, D51, c51, ys51, rfl, rfl, (m52.pick [2, 0, 1, 4, 3] (by decide) rfl), (by first | omega | (simp only [splice, List.length_append, List.length_set, List.length_replicate, List.length_map, List.length_take, List.length_drop, List.length_cons, List.length_nil] <;> omega)), (by first | omega | (simp only [splice, List.length_append, List.length_set, List.length_replicate, List.length_map, List.length_take, List.length_drop, List.length_cons, List.length_nil] <;> omega)), (by first | omega | (simp only [splice, List.length_append, List.length_set, List.length_replicate, List.length_map, List.length_take, List.length_drop, List.length_cons, List.length_nil] <;> omega)), (by assumption), (by assumption), (by first | omega | (simp only [splice, List.length_append, List.length_set, List.length_replicate, List.length_map, List.length_take, List.length_drop, List.length_cons, List.length_nil] <;> omega))⟩
          · refine KC.skip ?_
            exact ⟨_, _, (by omega), (.cons rfl (.cons rfl (.cons rfl (.cons rfl (.cons rfl (.cons rfl .nil)))))), a_c9_0b, ((((n_c9_0b : Int) - 1)).toNat), (l_c9_0b.take ((((n_c9_0b : Int) - 1)).toNat)), D_c9_0b, k_c9_0b, l6_0, rfl, rfl, (m38.pick [0, 1, 2, 3, 4] (by decide) rfl), (by first | omega | (simp only [splice, List.length_append, List.length_set, List.length_replicate, List.length_map, List.length_take, List.length_drop, List.length_cons, List.length_nil] <;> omega)), (by first | omega | (simp only [splice, List.length_append, List.length_set, List.length_replicate, List.length_map, List.length_take, List.length_drop, List.length_cons, List.length_nil] <;> omega)), (by first | omega | (simp only [splice, List.length_append, List.length_set, List.length_replicate, List.length_map, List.length_take, List.length_drop, List.length_cons, List.length_nil] <;> omega)), (all_take hw_l_c9_0b), (all_take ht2), (by first | omega | (simp only [splice, List.length_append, List.length_set, List.length_replicate, List.length_map, List.length_take, List.length_drop, List.length_cons, List.length_nil] <;> omega))⟩
      · refine KC.exit ?_
        refine KC.seq ?_
        refine KC.region ?_
        refine KO.pv (PV.assign rfl) rfl rfl ?_
        refine KO.nil ?_
        refine KC.seq ?_
        refine KC.seq ?_
        refine KC.region ?_
        refine KO.load1 ag89_B14 rfl (m33.row (i := 1) rfl) rfl rfl rfl ?_
        refine KO.pv (PV.len un89_B14 rfl) rfl rfl ?_
        refine KO.pv (PV.move rfl) rfl rfl ?_
        refine KO.nil ?_
        refine KC.block ?_
        refine KC.sub (l' := [(14, .slice none 0 0), (106, .slice (some ⟨H3.next, 0, none⟩) (((n3 + 1)).toNat) (((n3 + 1)).toNat)), (107, .int .i64 (((n3 + 1)).toNat : Int)), (108, .int .i64 0)]) (.cons rfl (.cons rfl (.cons rfl (.cons rfl .nil)))) ?_
        have m53 := m33.lnilC (EI .i64) (e := 3) none rfl
        refine KC.loopN (fun kq lq A => ∃ (a14 : Option Addr) (n14 : Nat) (l14 : List Int) (D14 : List Nat) (x108 : Int), kq = ((((n3 + 1)).toNat : Int) - x108).toNat ∧ lq = [(14, .slice a14 n14 n14), (106, .slice (some ⟨H3.next, 0, none⟩) (((n3 + 1)).toNat) (((n3 + 1)).toNat)), (107, .int .i64 (((n3 + 1)).toNat : Int)), (108, .int .i64 x108)] ∧ Mem [] H A [R.lst 3 1 a14 n14 (cells (EI .i64) l14) D14, R.row H3.next 4 true (cells EB l6_0)] ∧ (0 ≤ x108 ∧ x108 ≤ (((n3 + 1)).toNat : Int)) ∧ (l14.length = n14) ∧ (∀ u ∈ l14, (EI .i64).wf u) ∧ (∀ u ∈ l14, 0 ≤ u ∧ u ≤ 1001) ∧ ((n14 : Int) ≤ x108)) ?_ (((((n3 + 1)).toNat : Int) - 0).toNat) ⟨none, 0, [], [], 0, rfl, rfl, (m53.pick [0, 3] (by decide) rfl), (by first | omega | assumption | (constructor <;> omega)), (by first | omega | (simp only [splice, List.length_append, List.length_set, List.length_replicate, List.length_map, List.length_take, List.length_drop, List.length_cons, List.length_nil] <;> omega)), (fun _ h => absurd h List.not_mem_nil), all_nil, (by first | omega | (simp only [splice, List.length_append, List.length_set, List.length_replicate, List.length_map, List.length_take, List.length_drop, List.length_cons, List.length_nil] <;> omega))⟩
        rintro kq lq A54 ⟨a14, n14, l14, D14, x108, rfl, rfl, m55, hr23, hl_l14, hw_l14, hb, hn14⟩
        refine KC.seq ?_
        refine KC.region ?_
        refine KO.pv (PV.lssD rfl rfl rfl) rfl rfl ?_
        refine KO.nil ?_
        refine KC.seq ?_
        refine KC.condD rfl (fun h56 => ?_) (fun h56 => ?_)
        · refine KC.skip ?_
          refine KC.seq ?_
          refine KC.block ?_
          refine KC.seq ?_
          refine KC.region ?_
          refine KO.pv (PV.move rfl) rfl rfl ?_
          refine KO.pv (PV.indexAddrZ un89_B14 sz4_B14 rfl rfl rfl (by omega) (by omega)) rfl rfl ?_
          obtain ⟨e58, hx58⟩ : ∃ x, (l6_0)[(x108).toNat]? = some x := ⟨_, List.getElem?_eq_getElem (by first | omega | (simp only [splice, List.length_append, List.length_set, List.length_replicate, List.length_map, List.length_take, List.length_drop, List.length_cons, List.length_nil] <;> omega))⟩
          refine KO.load1 ag4_B14 rfl (m55.row (i := 1) rfl) (cells_at1 hx58 rfl) rfl rfl ?_
          refine KO.pv (PV.assign rfl) rfl rfl ?_
          refine KO.pv (PV.assign rfl) rfl rfl ?_
          refine KO.nil ?_
          refine KC.seq ?_
          refine KC.region ?_
          refine KO.pv (PV.move rfl) rfl rfl ?_
          refine KO.nil ?_
          refine KC.cond rfl (fun h59 => ?_) (fun h59 => ?_)
          · subst h59
            refine KC.region ?_
            refine KO.pv (PV.move rfl) rfl rfl ?_
            refine KO.pv (PV.move rfl) rfl rfl ?_
            refine KO.buildSliceM m55 el24_B14 ez3_B14 rfl rfl (show _ = some [.int .i64 x108] from rfl) rfl rfl fun H60 m61 => ?_
            refine KO.appendC (C := (EI .i64)) m61 (i := 1) rfl el24_B14 ez3_B14 sb3_B14 un24_B14 rfl rfl (newElems_row1 (C := (EI .i64)) (y := x108) (m61.row (i := 0) rfl) rfl) rfl (by first | omega | (simp only [splice, List.length_append, List.length_set, List.length_replicate, List.length_map, List.length_take, List.length_drop, List.length_cons, List.length_nil] <;> omega)) rfl rfl fun a63 D64 H62 m65 => ?_
            refine KO.pv (PV.assign rfl) rfl rfl ?_
            refine KO.nil ?_
            refine KC.region ?_
            refine KO.pv (PV.add rfl rfl (wrap64 (by omega) (by omega))) rfl rfl ?_
            refine KO.pv (PV.move rfl) rfl rfl ?_
            refine KO.nil ?_
            exact ⟨_, _, (by omega), (.cons rfl (.cons rfl (.cons rfl (.cons rfl .nil)))), a63, (n14 + 1), (l14 ++ [x108]), D64, (x108 + 1), rfl, rfl, (m65.pick [1, 2] (by decide) rfl), (by first | omega | assumption | (constructor <;> omega)), (by first | omega | (simp only [splice, List.length_append, List.length_set, List.length_replicate, List.length_map, List.length_take, List.length_drop, List.length_cons, List.length_nil] <;> omega)), (all_app hw_l14 (all_one (wf64 (by omega) (by omega)))), (all_app hb (all_one (by first | omega | assumption | (constructor <;> omega)))), (by first | omega | (simp only [splice, List.length_append, List.length_set, List.length_replicate, List.length_map, List.length_take, List.length_drop, List.length_cons, List.length_nil] <;> omega))⟩
          · subst h59
            refine KC.skip ?_
            refine KC.region ?_
            refine KO.pv (PV.add rfl rfl (wrap64 (by omega) (by omega))) rfl rfl ?_
            refine KO.pv (PV.move rfl) rfl rfl ?_
            refine KO.nil ?_
            exact ⟨_, _, (by omega), (.cons rfl (.cons rfl (.cons rfl (.cons rfl .nil)))), a14, n14, l14, D14, (x108 + 1), rfl, rfl, (m55.pick [0, 1] (by decide) rfl), (by first | omega | assumption | (constructor <;> omega)), (by first | omega | (simp only [splice, List.length_append, List.length_set, List.length_replicate, List.length_map, List.length_take, List.length_drop, List.length_cons, List.length_nil] <;> omega)), hw_l14, hb, (by first | omega | (simp only [splice, List.length_append, List.length_set, List.length_replicate, List.length_map, List.length_take, List.length_drop, List.length_cons, List.length_nil] <;> omega))⟩
        · refine KC.exit ?_
          refine KC.seq ?_
          refine KC.region ?_
          refine KO.pv (PV.move rfl) rfl rfl ?_
          refine KO.pv (PV.assign rfl) rfl rfl ?_
          refine KO.pv (PV.assign rfl) rfl rfl ?_
          refine KO.nil ?_
          have m66 := m55.ownLst (C := (EI .i64)) (i := 0) rfl hw_l14 (by first | omega | (simp only [splice, List.length_append, List.length_set, List.length_replicate, List.length_map, List.length_take, List.length_drop, List.length_cons, List.length_nil] <;> omega))
          exact KC.ret ⟨rfl, _, (.tmp rfl (.tmp rfl .nil)), a14, n14, n14, l14, D14, 0, rfl, m66.pick [0] (by decide) rfl, (by first | omega | (intro h; omega) | (simp only [List.length_nil, true_and, and_true, or_true, true_or] <;> omega) | (exact fun h => absurd h (by omega)) | (exact fun _ => (p3_0 (by omega)).1)), (by first | omega | (intro h; omega) | (simp only [List.length_nil, true_and, and_true, or_true, true_or] <;> omega)), (by first | omega | (intro h; omega) | (simp only [List.length_nil, true_and, and_true, or_true, true_or] <;> omega) | exact all_nil | assumption)⟩
theorem cone_of (H : AHeap) (x : Int) (b_n : Nat) (m_kn : Nat) (w_x : IntKind.i64.wrap x = x) (h_g : Mem ([b_n] ++ ([m_kn] ++ [])) H H [R.row b_n 150 true [.map (some m_kn)], R.mp m_kn (KI .i64) (VI fun x => 0 ≤ x ∧ x ≤ 1002)]) (h0 : 0 ≤ x) : WF E0 105 [.int .i64 x, .pointer (some ⟨b_n, 0, none⟩)] H fun q => ∃ (z : Int), q.1 = .int .i64 z ∧ Mem ([b_n] ++ ([m_kn] ++ [])) H q.2 [R.row b_n 150 true [.map (some m_kn)], R.mp m_kn (KI .i64) (VI fun x => 0 ≤ x ∧ x ≤ 1002)] ∧ (0 ≤ z ∧ z ≤ 2005) := by
  obtain ⟨lo_x, hi_x⟩ := rangei64 w_x
  have m0 := h_g
  refine WF.kg Tryz.func105 rfl rfl ?_
  refine KC.seq ?_
  refine KC.region ?_
  refine KO.pv (PV.assign rfl) rfl rfl ?_
  refine KO.nil ?_
  refine KC.seq ?_
  refine KC.region ?_
  refine KO.load1 ag150_B14 rfl (m0.row (i := 0) rfl) rfl rfl rfl ?_
  refine KO.pv (PV.move rfl) rfl rfl ?_
  refine KO.pv (PV.quo rfl rfl (by omega) (quoN (by omega) (by omega))) rfl rfl ?_
  refine KO.lookup1 m0 (i := 1) rfl KI.keys mt150_B14 (kk150_B14 _) zv150_B14 rfl rfl ⟨_, rfl⟩ ⟨_, rfl, by first | omega | (constructor <;> omega)⟩ rfl rfl fun v1 hv1 => ?_
  obtain ⟨x1, rfl, hx1⟩ : ∃ x : Int, v1 = .int .i64 x ∧ (0 ≤ x ∧ x ≤ 1002) := hv1
  refine KO.pv (PV.mul rfl rfl (wrap64 (by omega) (by omega))) rfl rfl ?_
  refine KO.pv (PV.move rfl) rfl rfl ?_
  refine KO.pv (PV.rem rfl rfl (by omega) (remN (by omega) (by omega))) rfl rfl ?_
  refine KO.pv (PV.add rfl rfl (wrap64 (by omega) (by omega))) rfl rfl ?_
  refine KO.pv (PV.assign rfl) rfl rfl ?_
  refine KO.nil ?_
  exact KC.ret ⟨rfl, _, (.tmp rfl .nil), ((2 * x1) + (x % 2)), rfl, m0.pick [0, 1] (by decide) rfl, (by first | omega | (intro h; omega) | (simp only [List.length_nil, true_and, and_true, or_true, true_or] <;> omega))⟩
set_option maxHeartbeats 4000000 in
theorem cone_Pass (H : AHeap) (ci : Int) (a_cL : Option Addr) (n_cL c_cL : Nat) (cL : List (Int × Int)) (a_cA : Option Addr) (n_cA c_cA : Nat) (cA : List (Int × Int)) (a_cB : Option Addr) (n_cB c_cB : Nat) (cB : List Int) (a_cC : Option Addr) (n_cC c_cC : Nat) (cC : List Int) (w_ci : IntKind.i64.wrap ci = ci) (h_cL : V EP H a_cL n_cL c_cL cL) (h_cA : V EP H a_cA n_cA c_cA cA) (h_cB : V (EI .i64) H a_cB n_cB c_cB cB) (h_cC : V (EI .i64) H a_cC n_cC c_cC cC) : WF E0 17 [.agg #[.int .i64 ci, .slice a_cL n_cL c_cL, .slice a_cA n_cA c_cA, .slice a_cB n_cB c_cB, .slice a_cC n_cC c_cC]] H fun q => ∃ (r0 : Int) (r1a : Option Addr) (r1n : Nat) (r1c : Nat) (r1 : List (Int × Int)) (r1D : List Nat) (r2a : Option Addr) (r2n : Nat) (r2c : Nat) (r2 : List (Int × Int)) (r2D : List Nat) (r3a : Option Addr) (r3n : Nat) (r3c : Nat) (r3 : List Int) (r3D : List Nat) (r4a : Option Addr) (r4n : Nat) (r4c : Nat) (r4 : List Int) (r4D : List Nat) (r5 : Int) (r6 : Int) (r7a : Option Addr) (r7n : Nat) (r7c : Nat) (r7 : List Int) (r7D : List Nat) (r8a : Option Addr) (r8n : Nat) (r8c : Nat) (r8v : List (Option Addr × Nat × Nat)) (r8D : List Nat) (r8 : List (List Int)) (r8E : List Nat) (r9a : Option Addr) (r9n : Nat) (r9c : Nat) (r9 : List Int) (r9D : List Nat) (r10a : Option Addr) (r10n : Nat) (r10c : Nat) (r10 : List (Int × Int)) (r10D : List Nat) (r11 : Int) (e : Int), q.1 = .tuple #[.agg #[.int .i64 r0, .slice r1a r1n r1c, .slice r2a r2n r2c, .slice r3a r3n r3c, .slice r4a r4n r4c, .int .i64 r5, .int .i64 r6, .slice r7a r7n r7c, .slice r8a r8n r8c, .slice r9a r9n r9c, .slice r10a r10n r10c, .int .i64 r11], .int .i64 e] ∧ Mem [] H q.2 [R.own EP r1a r1n r1c r1 r1D, R.own EP r2a r2n r2c r2 r2D, R.own (EI .i64) r3a r3n r3c r3 r3D, R.own (EI .i64) r4a r4n r4c r4 r4D, R.own (EI .i64) r7a r7n r7c r7 r7D, R.own ES r8a r8n r8c r8v r8D, R.inn (EI .i64) r8v r8 r8E, R.own (EI .i64) r9a r9n r9c r9 r9D, R.own EP r10a r10n r10c r10 r10D] ∧ (0 ≤ e ∧ e ≤ 100) ∧ (r1n ≤ 1001 ∧ r2n ≤ 1001 ∧ r3n ≤ 1001 ∧ r4n ≤ 1001 ∧ r7n ≤ 1001 ∧ r8n ≤ 1001 ∧ r9n ≤ 1001 ∧ r10n ≤ 1001) ∧ (∀ c ∈ r8, c.length ≤ 1000) ∧ ((0 ≤ r0 ∧ r0 ≤ 1000000) ∧ (0 ≤ r5 ∧ r5 ≤ 1000000) ∧ (0 ≤ r6 ∧ r6 ≤ 1000000) ∧ (0 ≤ r11 ∧ r11 ≤ 1000000)) := by
  obtain ⟨lo_ci, hi_ci⟩ := rangei64 w_ci
  obtain ⟨len_cL, cap_cL, max_cL, wf_cL⟩ := h_cL.len
  obtain ⟨len_cA, cap_cA, max_cA, wf_cA⟩ := h_cA.len
  obtain ⟨len_cB, cap_cB, max_cB, wf_cB⟩ := h_cB.len
  obtain ⟨len_cC, cap_cC, max_cC, wf_cC⟩ := h_cC.len
  have m0 : Mem [] H H [] := Mem.start
  refine WF.kg Tryz.func17 rfl rfl ?_
  refine KC.seq ?_
  refine KC.region ?_
  refine KO.boxM m0 rfl rfl (show _ = [.int .i64 ci, .slice a_cL n_cL c_cL, .slice a_cA n_cA c_cA, .slice a_cB n_cB c_cB, .slice a_cC n_cC c_cC] from rfl) rfl rfl fun H1 m2 => ?_
  refine KO.allocM m2 zt48_B14 rfl rfl fun H3 m4 => ?_
  refine KO.pv (PV.assign rfl) rfl rfl ?_
  refine KO.nil ?_
  refine KC.seq ?_
  refine KC.region ?_
  refine KO.loadN ag26_B14 sz26_B14 rfl (m4.row (i := 1) rfl) (takeN_of (p := [.int .i64 ci, .slice a_cL n_cL c_cL, .slice a_cA n_cA c_cA, .slice a_cB n_cB c_cB, .slice a_cC n_cC c_cC]) rfl rfl) rfl rfl ?_
  refine KO.call rfl rfl rfl rfl (cone_Of H3 ci a_cL n_cL c_cL _ a_cA n_cA c_cA _ a_cB n_cB c_cB _ a_cC n_cC c_cC _ (wrap64 (by omega) (by omega)) (V.mem m4 h_cL) (V.mem m4 h_cA) (V.mem m4 h_cB) (V.mem m4 h_cC)) fun v5 H5 q5 => ?_
  obtain ⟨a5, n5, c5, ys5, D5, e5, hv5, mc5, p5_0, p5_1, p5_2⟩ := q5
  dsimp only at hv5 mc5
  subst hv5
  have m6 := m4.seq mc5
  refine KO.pv (PV.move rfl) rfl rfl ?_
  refine KO.pv (PV.extract rfl rfl) rfl rfl ?_
  refine KO.pv (PV.extract rfl rfl) rfl rfl ?_
  refine KO.pv (PV.assign rfl) rfl rfl ?_
  refine KO.pv (PV.assign rfl) rfl rfl ?_
  refine KO.nil ?_
  refine KC.seq ?_
  refine KC.seq ?_
  refine KC.region ?_
  refine KO.pv (PV.move rfl) rfl rfl ?_
  refine KO.pv (PV.neqD rfl rfl rfl) rfl rfl ?_
  refine KO.nil ?_
  refine KC.condD rfl (fun h7 => ?_) (fun h7 => ?_)
  · refine KC.seq ?_
    refine KC.region ?_
    refine KO.pv (PV.build rfl bl48__B14) rfl rfl ?_
    refine KO.pv (PV.move rfl) rfl rfl ?_
    refine KO.storeM m6 (i := 1) rfl sz48_B14 rfl rfl rfl (show 0 + 12 ≤ 12 by decide) (show _ = [.int .i64 0, .slice none 0 0, .slice none 0 0, .slice none 0 0, .slice none 0 0, .int .i64 0, .int .i64 0, .slice none 0 0, .slice none 0 0, .slice none 0 0, .slice none 0 0, .int .i64 0] from rfl) rfl fun H8 m9 => ?_
    refine KO.pv (PV.assign rfl) rfl rfl ?_
    refine KO.nil ?_
    have m10 := m9.ownNil (C := EP)
    have m11 := m10.ownNil (C := EP)
    have m12 := m11.ownNil (C := (EI .i64))
    have m13 := m12.ownNil (C := (EI .i64))
    have m14 := m13.ownNil (C := (EI .i64))
    have m15 := m14.ownNil (C := ES)
    have m16 := m15.ownNil (C := (EI .i64))
    have m17 := m16.ownNil (C := EP)
    have m18 := m17.innNil (C := (EI .i64))
    exact KC.ret ⟨rfl, _, (.cell rfl (ldN (m9.row (i := 1) rfl) ag48_B14 sz48_B14 rfl rfl) (.tmp rfl .nil)), 0, none, 0, 0, [], [], none, 0, 0, [], [], none, 0, 0, [], [], none, 0, 0, [], [], 0, 0, none, 0, 0, [], [], none, 0, 0, [], [], [], [], none, 0, 0, [], [], none, 0, 0, [], [], 0, e5, rfl, m18.pick [8, 7, 6, 5, 4, 3, 0, 2, 1] (by decide) rfl, (by first | omega | (intro h; omega) | (simp only [List.length_nil, true_and, and_true, or_true, true_or] <;> omega)), (by first | omega | (intro h; omega) | (simp only [List.length_nil, true_and, and_true, or_true, true_or] <;> omega)), (by first | omega | (intro h; omega) | (simp only [List.length_nil, true_and, and_true, or_true, true_or] <;> omega) | exact all_nil | (exact all_one (by omega))), (by first | omega | (intro h; omega) | (simp only [List.length_nil, true_and, and_true, or_true, true_or] <;> omega))⟩
  · have p5_0t := p5_0 (by omega)
    obtain ⟨p5_0_i0, p5_0_al, p5_0_b, p5_0_c, p5_0_hb, p5_0_hc, p5_0_hl, p5_0_ha⟩ := id p5_0t
    refine KC.skip ?_
    refine KC.seq ?_
    refine KC.region ?_
    refine KO.makeMap (KI .i64) (VI fun x => 0 ≤ x ∧ x ≤ 1002) m6 rfl rfl fun H19 m20 => ?_
    refine KO.mapPut m20 (i := 0) rfl (.inr rfl) KI.keys mt150_B14 (kk150_B14 _) rfl rfl rfl ⟨_, rfl⟩ ⟨_, rfl, by first | omega | (constructor <;> omega)⟩ rfl fun H21 m22 => ?_
    refine KO.pv (PV.move rfl) rfl rfl ?_
    refine KO.allocM m22 zt150_B14 rfl rfl fun H23 m24 => ?_
    refine KO.storeM m24 (i := 0) rfl sz150_B14 rfl rfl rfl (show 0 + 1 ≤ 1 by decide) (show _ = [.map (some H5.next)] from rfl) rfl fun H25 m26 => ?_
    refine KO.nil ?_
    refine KC.seq ?_
    refine KC.seq ?_
    refine KC.region ?_
    refine KO.pv (PV.move rfl) rfl rfl ?_
    refine KO.pv (PV.len un24_B14 rfl) rfl rfl ?_
    refine KO.pv (PV.move rfl) rfl rfl ?_
    refine KO.nil ?_
    refine KC.block ?_
    refine KC.sub (l' := [(1, .pointer (some ⟨H.next, 0, none⟩)), (2, .pointer (some ⟨H1.next, 0, none⟩)), (6, .pointer (some ⟨H21.next, 0, none⟩)), (38, .slice a5 n5 c5), (39, .int .i64 (n5 : Int)), (40, .int .i64 0)]) (.cons rfl (.cons rfl (.cons rfl (.cons rfl (.cons rfl (.cons rfl .nil)))))) ?_
    refine KC.loopN (fun kq lq A => ∃ (x40 : Int), kq = ((n5 : Int) - x40).toNat ∧ lq = [(1, .pointer (some ⟨H.next, 0, none⟩)), (2, .pointer (some ⟨H1.next, 0, none⟩)), (6, .pointer (some ⟨H21.next, 0, none⟩)), (38, .slice a5 n5 c5), (39, .int .i64 (n5 : Int)), (40, .int .i64 x40)] ∧ Mem [] H A [R.row H21.next 150 true [.map (some H5.next)], R.mp H5.next (KI .i64) (VI fun x => 0 ≤ x ∧ x ≤ 1002), R.own (EI .i64) a5 n5 c5 ys5 D5, R.row H1.next 48 true [.int .i64 0, .slice none 0 0, .slice none 0 0, .slice none 0 0, .slice none 0 0, .int .i64 0, .int .i64 0, .slice none 0 0, .slice none 0 0, .slice none 0 0, .slice none 0 0, .int .i64 0], R.row H.next 26 true [.int .i64 ci, .slice a_cL n_cL c_cL, .slice a_cA n_cA c_cA, .slice a_cB n_cB c_cB, .slice a_cC n_cC c_cC]] ∧ (0 ≤ x40 ∧ x40 ≤ (n5 : Int))) ?_ (((n5 : Int) - 0).toNat) ⟨0, rfl, rfl, (m26.pick [0, 1, 2, 3, 4] (by decide) rfl), (by first | omega | assumption | (constructor <;> omega))⟩
    rintro kq lq A27 ⟨x40, rfl, rfl, m28, hr6⟩
    refine KC.seq ?_
    refine KC.region ?_
    refine KO.pv (PV.lssD rfl rfl rfl) rfl rfl ?_
    refine KO.nil ?_
    refine KC.seq ?_
    refine KC.condD rfl (fun h29 => ?_) (fun h29 => ?_)
    · refine KC.skip ?_
      refine KC.seq ?_
      refine KC.block ?_
      refine KC.seq ?_
      refine KC.region ?_
      refine KO.pv (PV.move rfl) rfl rfl ?_
      obtain ⟨b30, o30, p30, r30, e30, ha30, hb30, hr30, hx30, hw30, hc30, ht30⟩ := V.at_ (m28.vown (i := 2) rfl) (z := x40) (by omega) (by omega)
      have hc30_0 : r30.cs[o30 + (x40).toNat * 1 + 0]? = some (.int .i64 e30) := hc30 0 (by decide)
      have hw30 : IntKind.i64.wrap e30 = e30 := hw30
      obtain ⟨lo30, hi30⟩ := rangei64 hw30
      have a5_2_30 := p5_2 _ (List.mem_of_getElem? hx30)
      refine KO.pv (PV.indexAddrZ un24_B14 sz3_B14 rfl ha30 rfl (by omega) (by omega)) rfl rfl ?_
      refine KO.load1 ag3_B14 rfl hr30 hc30_0 rfl rfl ?_
      refine KO.pv (PV.assign rfl) rfl rfl ?_
      refine KO.pv (PV.assign rfl) rfl rfl ?_
      refine KO.nil ?_
      refine KC.region ?_
      refine KO.load1 ag150_B14 rfl (m28.row (i := 0) rfl) rfl rfl rfl ?_
      refine KO.pv (PV.move rfl) rfl rfl ?_
      refine KO.pv (PV.move rfl) rfl rfl ?_
      refine KO.pv (PV.add rfl rfl (wrap64 (by omega) (by omega))) rfl rfl ?_
      refine KO.mapPut m28 (i := 1) rfl (.inl rfl) KI.keys mt150_B14 (kk150_B14 _) rfl rfl rfl ⟨_, rfl⟩ ⟨_, rfl, by first | omega | (constructor <;> omega)⟩ rfl fun H31 m32 => ?_
      refine KO.nil ?_
      refine KC.region ?_
      refine KO.pv (PV.add rfl rfl (wrap64 (by omega) (by omega))) rfl rfl ?_
      refine KO.pv (PV.move rfl) rfl rfl ?_
      refine KO.nil ?_
      exact ⟨_, _, (by omega), (.cons rfl (.cons rfl (.cons rfl (.cons rfl (.cons rfl (.cons rfl .nil)))))), (x40 + 1), rfl, rfl, (m32.pick [0, 1, 2, 3, 4] (by decide) rfl), (by first | omega | assumption | (constructor <;> omega))⟩
    · refine KC.exit ?_
      refine KC.seq ?_
      refine KC.region ?_
      refine KO.pv (PV.makeFunc rfl rfl) rfl rfl ?_
      refine KO.pv (PV.assign rfl) rfl rfl ?_
      refine KO.nil ?_
      refine KC.seq ?_
      refine KC.region ?_
      refine KO.allocM m28 zt26_B14 rfl rfl fun H33 m34 => ?_
      refine KO.nil ?_
      refine KC.seq ?_
      refine KC.region ?_
      refine KO.makeSliceM (C := ES) (none, 0, 0) m34 el42_B14 ez24_B14 sb24_B14 rfl rfl (by omega) (by omega) (by omega) rfl rfl fun H35 m36 => ?_
      have m37 : Mem [] H H35 [R.row H33.next 24 true [.slice none 0 0], R.row A27.next 26 true [.int .i64 0, .slice none 0 0, .slice none 0 0, .slice none 0 0, .slice none 0 0], R.row H21.next 150 true [.map (some H5.next)], R.mp H5.next (KI .i64) (VI fun x => 0 ≤ x ∧ x ≤ 1002), R.own (EI .i64) a5 n5 c5 ys5 D5, R.row H1.next 48 true [.int .i64 0, .slice none 0 0, .slice none 0 0, .slice none 0 0, .slice none 0 0, .int .i64 0, .int .i64 0, .slice none 0 0, .slice none 0 0, .slice none 0 0, .slice none 0 0, .int .i64 0], R.row H.next 26 true [.int .i64 ci, .slice a_cL n_cL c_cL, .slice a_cA n_cA c_cA, .slice a_cB n_cB c_cB, .slice a_cC n_cC c_cC]] := m36
      refine KO.pv (PV.build rfl (bl44_1i64_B14 _)) rfl rfl ?_
      refine KO.pv (PV.build rfl (bl46_1i64_3s_5Asi64_B14 _ _ _ _ _ _ _ _)) rfl rfl ?_
      refine KO.allocM m37 zt46_B14 rfl rfl fun H38 m39 => ?_
      refine KO.storeM m39 (i := 0) rfl sz46_B14 rfl rfl rfl (show 0 + 7 ≤ 7 by decide) (show _ = [.int .i64 0, .int .i64 1, .slice none 0 0, .slice (some ⟨H33.next, 0, none⟩) 1 1, .slice none 0 0, .slice none 0 0, .int .i64 1] from rfl) rfl fun H40 m41 => ?_
      refine KO.nil ?_
      refine KC.seq ?_
      refine KC.drawG (n := 12) (anc := [0, 1, 3, 0, 8, 0, 32, 96, 248, 504, 7, 2047]) (hv := []) (ord := [0, 1, 2, 3, 4, 5, 6, 7, 8, 9, 10, 11]) (by kernel_rfl) (by kernel_rfl) (by kernel_rfl) (by kernel_rfl) (by kernel_rfl) fun H42 n43 g44 => ?_
      have m45 := m41.room n43 g44 [] (by decide) (by decide)
      refine KD.pv 1 (PV.fieldAddr fo26_0_B14 rfl) rfl rfl rfl (by kernel_rfl) rfl rfl rfl ?_
      refine KD.load 3 rfl (m45.row (i := 7) rfl) (by rw [read1 ag3_B14]; exact rfl) (pastGo (k := 1) (l := [H42]) (by kernel_rfl) rfl (pastCons ⟨_, (m45.row (i := 7) rfl), (by rw [read1 ag3_B14]; exact rfl)⟩ pastNil)) veq_int rfl (by kernel_rfl) rfl rfl rfl ?_
      refine KD.pv 7 (PV.add rfl rfl (wrap64 (by omega) (by omega))) rfl rfl rfl (by kernel_rfl) rfl rfl rfl ?_
      refine KD.pv 15 (PV.fieldAddr fo26_0_B14 rfl) rfl rfl rfl (by kernel_rfl) rfl rfl rfl ?_
      refine KD.load 31 rfl (m45.row (i := 7) rfl) (by rw [read1 ag3_B14]; exact rfl) (pastGo (k := 1) (l := [H42]) (by kernel_rfl) rfl (pastCons ⟨_, (m45.row (i := 7) rfl), (by rw [read1 ag3_B14]; exact rfl)⟩ pastNil)) veq_int rfl (by kernel_rfl) rfl rfl rfl ?_
      refine KD.pv 63 (PV.fieldAddr fo26_1_B14 rfl) rfl rfl rfl (by kernel_rfl) rfl rfl rfl ?_
      refine KD.load 127 rfl (m45.row (i := 7) rfl) (by rw [read1 ag22_B14]; exact rfl) (pastGo (k := 1) (l := [H42]) (by kernel_rfl) rfl (pastCons ⟨_, (m45.row (i := 7) rfl), (by rw [read1 ag22_B14]; exact rfl)⟩ pastNil)) veq_sl rfl (by kernel_rfl) rfl rfl rfl ?_
      refine KD.pv 255 (PV.len un22_B14 rfl) rfl rfl (rd_int _) (by kernel_rfl) rfl rfl rfl ?_
      refine KD.pv 511 (PV.add rfl rfl (wrap64 (by omega) (by omega))) rfl rfl rfl (by kernel_rfl) rfl rfl rfl ?_
      refine KD.pv 1023 (PV.add rfl rfl (wrap64 (by omega) (by omega))) rfl rfl rfl (by kernel_rfl) rfl rfl rfl ?_
      refine KD.pv 2047 (PV.assign rfl) rfl rfl rfl (by kernel_rfl) rfl rfl rfl ?_
      refine KD.pv 4095 (PV.assign rfl) rfl rfl rfl (by kernel_rfl) rfl rfl rfl ?_
      refine KD.nil ⟨rfl, ?_⟩
      refine KC.seq ?_
      refine KC.seq ?_
      refine KC.region ?_
      refine KO.pv (PV.assign rfl) rfl rfl ?_
      refine KO.nil ?_
      refine KC.block ?_
      refine KC.sub (l' := [(1, .pointer (some ⟨H.next, 0, none⟩)), (2, .pointer (some ⟨H1.next, 0, none⟩)), (6, .pointer (some ⟨H21.next, 0, none⟩)), (9, .func (.func 105) #[] #[.pointer (some ⟨H21.next, 0, none⟩)]), (10, .pointer (some ⟨A27.next, 0, none⟩)), (11, .pointer (some ⟨H35.next, 0, none⟩)), (12, .int .i64 (ci + 1)), (13, .int .i64 ((ci + (n_cL : Int)) + 1)), (14, .int .i64 1)]) (.cons rfl (.cons rfl (.cons rfl (.cons rfl (.cons rfl (.cons rfl (.cons rfl (.cons rfl (.cons rfl .nil))))))))) ?_
      have m46 := m45.lnilC (EI .i64) (e := 3) none rfl
      have m47 := m46.lnilC (EI .i64) (e := 3) none rfl
      have m48 := m47.lnilC (EI .i64) (e := 3) none rfl
      have m49 := m48.lnilC EP (e := 147) none rfl
      refine KC.loopN (fun kq lq A => ∃ (x14 : Int) (a_c11_2 : Option Addr) (n_c11_2 : Nat) (l_c11_2 : List Int) (D_c11_2 : List Nat) (a_c11_4 : Option Addr) (n_c11_4 : Nat) (l_c11_4 : List Int) (D_c11_4 : List Nat) (a_c51_0 : Option Addr) (n_c51_0 : Nat) (l_c51_0 : List Int) (D_c51_0 : List Nat) (c10_0 : Int) (a_c10_1 : Option Addr) (n_c10_1 : Nat) (l_c10_1 : List (Int × Int)) (D_c10_1 : List Nat), kq = (ci + n_cL + 1 - x14).toNat ∧ lq = [(1, .pointer (some ⟨H.next, 0, none⟩)), (2, .pointer (some ⟨H1.next, 0, none⟩)), (6, .pointer (some ⟨H21.next, 0, none⟩)), (9, .func (.func 105) #[] #[.pointer (some ⟨H21.next, 0, none⟩)]), (10, .pointer (some ⟨A27.next, 0, none⟩)), (11, .pointer (some ⟨H35.next, 0, none⟩)), (12, .int .i64 (ci + 1)), (13, .int .i64 ((ci + (n_cL : Int)) + 1)), (14, .int .i64 x14)] ∧ Mem [] H A [R.row H35.next 46 true [.int .i64 0, .int .i64 1, .slice a_c11_2 n_c11_2 n_c11_2, .slice (some ⟨H33.next, 0, none⟩) 1 1, .slice a_c11_4 n_c11_4 n_c11_4, .slice none 0 0, .int .i64 1], R.row H33.next 24 true [.slice a_c51_0 n_c51_0 n_c51_0], R.row A27.next 26 true [.int .i64 c10_0, .slice a_c10_1 n_c10_1 n_c10_1, .slice none 0 0, .slice none 0 0, .slice none 0 0], R.row H21.next 150 true [.map (some H5.next)], R.mp H5.next (KI .i64) (VI fun x => 0 ≤ x ∧ x ≤ 1002), R.row H1.next 48 true [.int .i64 0, .slice none 0 0, .slice none 0 0, .slice none 0 0, .slice none 0 0, .int .i64 0, .int .i64 0, .slice none 0 0, .slice none 0 0, .slice none 0 0, .slice none 0 0, .int .i64 0], R.row H.next 26 true [.int .i64 ci, .slice a_cL n_cL c_cL, .slice a_cA n_cA c_cA, .slice a_cB n_cB c_cB, .slice a_cC n_cC c_cC], R.lst 3 1 a_c11_2 n_c11_2 (cells (EI .i64) l_c11_2) D_c11_2, R.lst 3 1 a_c11_4 n_c11_4 (cells (EI .i64) l_c11_4) D_c11_4, R.lst 3 1 a_c51_0 n_c51_0 (cells (EI .i64) l_c51_0) D_c51_0, R.lst 147 2 a_c10_1 n_c10_1 (cells EP l_c10_1) D_c10_1] ∧ (1 ≤ x14 ∧ x14 ≤ ((ci + (n_cL : Int)) + 1)) ∧ (0 ≤ c10_0 ∧ c10_0 < x14) ∧ ((n_c10_1 : Int) < x14 ∧ (n_c11_2 : Int) < x14 ∧ (n_c11_4 : Int) < x14 ∧ (n_c51_0 : Int) < x14) ∧ (l_c11_2.length = n_c11_2) ∧ (∀ u ∈ l_c11_2, (EI .i64).wf u) ∧ (l_c11_4.length = n_c11_4) ∧ (∀ u ∈ l_c11_4, (EI .i64).wf u) ∧ (l_c51_0.length = n_c51_0) ∧ (∀ u ∈ l_c51_0, (EI .i64).wf u) ∧ (l_c10_1.length = n_c10_1) ∧ (∀ u ∈ l_c10_1, (EP).wf u)) ?_ ((ci + n_cL + 1 - 1).toNat) ⟨1, none, 0, [], [], none, 0, [], [], none, 0, [], [], 0, none, 0, [], [], rfl, rfl, (m49.pick [4, 5, 6, 7, 8, 10, 11, 3, 2, 1, 0] (by decide) rfl), (by first | omega | assumption | (constructor <;> omega)), (by first | omega | (simp only [splice, List.length_append, List.length_set, List.length_replicate, List.length_map, List.length_take, List.length_drop, List.length_cons, List.length_nil] <;> omega)), (by first | omega | (simp only [splice, List.length_append, List.length_set, List.length_replicate, List.length_map, List.length_take, List.length_drop, List.length_cons, List.length_nil] <;> omega)), (by first | omega | (simp only [splice, List.length_append, List.length_set, List.length_replicate, List.length_map, List.length_take, List.length_drop, List.length_cons, List.length_nil] <;> omega)), (fun _ h => absurd h List.not_mem_nil), (by first | omega | (simp only [splice, List.length_append, List.length_set, List.length_replicate, List.length_map, List.length_take, List.length_drop, List.length_cons, List.length_nil] <;> omega)), (fun _ h => absurd h List.not_mem_nil), (by first | omega | (simp only [splice, List.length_append, List.length_set, List.length_replicate, List.length_map, List.length_take, List.length_drop, List.length_cons, List.length_nil] <;> omega)), (fun _ h => absurd h List.not_mem_nil), (by first | omega | (simp only [splice, List.length_append, List.length_set, List.length_replicate, List.length_map, List.length_take, List.length_drop, List.length_cons, List.length_nil] <;> omega)), (fun _ h => absurd h List.not_mem_nil)⟩
      rintro kq lq A50 ⟨x14, a_c11_2, n_c11_2, l_c11_2, D_c11_2, a_c11_4, n_c11_4, l_c11_4, D_c11_4, a_c51_0, n_c51_0, l_c51_0, D_c51_0, c10_0, a_c10_1, n_c10_1, l_c10_1, D_c10_1, rfl, rfl, m51, hr15, hc0, hb1, hl_l_c11_2, hw_l_c11_2, hl_l_c11_4, hw_l_c11_4, hl_l_c51_0, hw_l_c51_0, hl_l_c10_1, hw_l_c10_1⟩
      refine KC.seq ?_
      refine KC.seq ?_
      refine KC.region ?_
      refine KO.pv (PV.move rfl) rfl rfl ?_
      refine KO.pv (PV.move rfl) rfl rfl ?_
      refine KO.pv (PV.lssD rfl rfl rfl) rfl rfl ?_
      refine KO.nil ?_
      refine KC.condD rfl (fun h52 => ?_) (fun h52 => ?_)
      · refine KC.skip ?_
        refine KC.seq ?_
        refine KC.block ?_
        refine KC.seq ?_
        refine KC.region ?_
        refine KO.load1 ag150_B14 rfl (m51.row (i := 3) rfl) rfl rfl rfl ?_
        refine KO.pv (PV.move rfl) rfl rfl ?_
        refine KO.lookup2 m51 (i := 4) rfl KI.keys mt150_B14 (kk150_B14 _) zv150_B14 rfl rfl ⟨_, rfl⟩ rfl rfl fun v53 y53 hv53 hz53 => ?_
        obtain ⟨x53, rfl, hx53⟩ : ∃ x : Int, v53 = .int .i64 x ∧ (0 ≤ x ∧ x ≤ 1002) := VI.got hv53 hz53 (by first | omega | (constructor <;> omega))
        refine KO.pv (PV.move rfl) rfl rfl ?_
        refine KO.pv (PV.extract rfl rfl) rfl rfl ?_
        refine KO.pv (PV.extract rfl rfl) rfl rfl ?_
        refine KO.pv (PV.assign rfl) rfl rfl ?_
        refine KO.pv (PV.assign rfl) rfl rfl ?_
        refine KO.nil ?_
        refine KC.block ?_
        refine KC.seq ?_
        refine KC.region ?_
        refine KO.pv (PV.move rfl) rfl rfl ?_
        refine KO.pv (PV.move rfl) rfl rfl ?_
        by_cases h54 : x14 < (ci + 1)
        · refine KO.pv (PV.lssD rfl rfl (decide_eq_true h54)) rfl rfl ?_
          refine KO.pv (PV.move rfl) rfl rfl ?_
          refine KO.pv (PV.move rfl) rfl rfl ?_
          refine KO.pv (PV.pickT rfl rfl rfl) rfl rfl ?_
          refine KO.pv (PV.assign rfl) rfl rfl ?_
          refine KO.nil ?_
          refine KC.cond rfl (fun h55 => ?_) (fun h55 => ?_)
          · subst h55
            refine KC.seq ?_
            refine KC.region ?_
            refine KO.pv (PV.fieldAddr fo26_0_B14 rfl) rfl rfl ?_
            refine KO.load1 ag3_B14 rfl (m51.row (i := 2) rfl) rfl rfl rfl ?_
            refine KO.pv (PV.add rfl rfl (wrap64 (by omega) (by omega))) rfl rfl ?_
            refine KO.pv (PV.fieldAddr fo26_0_B14 rfl) rfl rfl ?_
            refine KO.storeM m51 (i := 2) rfl sz3_B14 rfl rfl rfl (show 0 + 1 ≤ 5 by decide) (show _ = [.int .i64 (c10_0 + 1), .slice a_c10_1 n_c10_1 n_c10_1, .slice none 0 0, .slice none 0 0, .slice none 0 0] from rfl) rfl fun H56 m57 => ?_
            refine KO.nil ?_
            refine KC.drawG (n := 12) (anc := [0, 1, 0, 4, 12, 28, 0, 64, 192, 508, 1023, 2047]) (hv := [9, 11]) (ord := [2, 3, 4, 5, 6, 7, 8, 9, 0, 1, 10, 11]) (by kernel_rfl) (by kernel_rfl) (by kernel_rfl) (by kernel_rfl) (by kernel_rfl) fun H58 n59 g60 => ?_
            have m61 := m57.room n59 g60 [8] (by decide) (by decide)
            refine KD.pv 4 (PV.fieldAddr fo46_3_B14 rfl) rfl rfl rfl (by kernel_rfl) rfl rfl rfl ?_
            refine KD.load 12 rfl (m61.row (i := 1) rfl) (by rw [read1 ag42_B14]; exact rfl) (pastGo (k := 1) (l := [H58]) (by kernel_rfl) rfl (pastCons ⟨_, (m61.row (i := 1) rfl), (by rw [read1 ag42_B14]; exact rfl)⟩ pastNil)) veq_sl rfl (by kernel_rfl) rfl rfl rfl ?_
            have hia62 : (0 : Nat) + (0 : Int).toNat * 1 = 0 := by decide
            refine KD.pv 28 (hia62 ▸ PV.indexAddrZ un42_B14 sz24_B14 rfl rfl rfl (by decide) (by decide)) rfl rfl rfl (by kernel_rfl) rfl rfl rfl ?_
            refine KD.load 60 rfl (m61.row (i := 2) rfl) (by rw [read1 ag24_B14]; exact rfl) (pastGo (k := 1) (l := [H58]) (by kernel_rfl) rfl (pastCons ⟨_, (m61.row (i := 2) rfl), (by rw [read1 ag24_B14]; exact rfl)⟩ pastNil)) veq_sl rfl (by kernel_rfl) rfl rfl rfl ?_
            refine KD.pv 124 (PV.move rfl) rfl rfl rfl (by kernel_rfl) rfl rfl rfl ?_
            refine KD.pv 252 (PV.mul rfl rfl (wrap64 (by omega) (by omega))) rfl rfl rfl (by kernel_rfl) rfl rfl rfl ?_
            refine KD.buildSliceM 508 m61 (j := 0) rfl el24_B14 ez3_B14 rfl rfl (show _ = some [.int .i64 (2 * x53)] from rfl) rfl (by kernel_rfl) rfl rfl rfl fun H63 m64 => ?_
            refine KD.appendC 1020 (C := (EI .i64)) m64 (j := 10) rfl el24_B14 ez3_B14 sb3_B14 un24_B14 rfl rfl (newElems_row1 (C := (EI .i64)) (y := (2 * x53)) (m64.row (i := 0) rfl) rfl) rfl (by first | omega | (simp only [splice, List.length_append, List.length_set, List.length_replicate, List.length_map, List.length_take, List.length_drop, List.length_cons, List.length_nil] <;> omega)) rfl (by kernel_rfl) rfl rfl rfl fun a66 D67 H65 m68 => ?_
            refine KD.pv 1021 (PV.fieldAddr fo46_3_B14 rfl) rfl rfl rfl (by kernel_rfl) rfl rfl rfl ?_
            refine KD.load 1023 rfl (m68.row (i := 1) rfl) (by rw [read1 ag42_B14]; exact rfl) (pastGo (k := 2) (l := [H65, H58]) (by kernel_rfl) rfl (pastCons ⟨_, (m68.row (i := 1) rfl), (by rw [read1 ag42_B14]; exact rfl)⟩ (pastCons ⟨_, (m61.row (i := 1) rfl), (by rw [read1 ag42_B14]; exact rfl)⟩ pastNil))) veq_sl rfl (by kernel_rfl) rfl rfl rfl ?_
            have hia69 : (0 : Nat) + (0 : Int).toNat * 1 = 0 := by decide
            refine KD.pv 2047 (hia69 ▸ PV.indexAddrZ un42_B14 sz24_B14 rfl rfl rfl (by decide) (by decide)) rfl rfl rfl (by kernel_rfl) rfl rfl rfl ?_
            refine KD.storeM 4095 m68 (j := 2) rfl sz24_B14 rfl rfl rfl (show 0 + 1 ≤ 1 by decide) (show _ = [.slice a66 (n_c51_0 + 1) (n_c51_0 + 1)] from rfl) rfl (by kernel_rfl) rfl rfl fun H70 m71 => ?_
            refine KD.nil ⟨rfl, ?_⟩
            refine KC.region ?_
            refine KO.pv (PV.move rfl) rfl rfl ?_
            refine KO.pv (PV.add rfl rfl (wrap64 (by omega) (by omega))) rfl rfl ?_
            refine KO.pv (PV.assign rfl) rfl rfl ?_
            refine KO.nil ?_
            exact ⟨_, _, (by omega), (.cons rfl (.cons rfl (.cons rfl (.cons rfl (.cons rfl (.cons rfl (.cons rfl (.cons rfl (.cons rfl .nil))))))))), (x14 + 1), a_c11_2, n_c11_2, l_c11_2, D_c11_2, a_c11_4, n_c11_4, l_c11_4, D_c11_4, a66, (n_c51_0 + 1), (l_c51_0 ++ [(2 * x53)]), D67, (c10_0 + 1), a_c10_1, n_c10_1, l_c10_1, D_c10_1, rfl, rfl, (m71.pick [1, 2, 3, 4, 5, 6, 7, 8, 9, 10, 11] (by decide) rfl), (by first | omega | assumption | (constructor <;> omega)), (by first | omega | (simp only [splice, List.length_append, List.length_set, List.length_replicate, List.length_map, List.length_take, List.length_drop, List.length_cons, List.length_nil] <;> omega)), (by first | omega | (simp only [splice, List.length_append, List.length_set, List.length_replicate, List.length_map, List.length_take, List.length_drop, List.length_cons, List.length_nil] <;> omega)), (by first | omega | (simp only [splice, List.length_append, List.length_set, List.length_replicate, List.length_map, List.length_take, List.length_drop, List.length_cons, List.length_nil] <;> omega)), hw_l_c11_2, (by first | omega | (simp only [splice, List.length_append, List.length_set, List.length_replicate, List.length_map, List.length_take, List.length_drop, List.length_cons, List.length_nil] <;> omega)), hw_l_c11_4, (by first | omega | (simp only [splice, List.length_append, List.length_set, List.length_replicate, List.length_map, List.length_take, List.length_drop, List.length_cons, List.length_nil] <;> omega)), (all_app hw_l_c51_0 (all_one (wf64 (by omega) (by omega)))), (by first | omega | (simp only [splice, List.length_append, List.length_set, List.length_replicate, List.length_map, List.length_take, List.length_drop, List.length_cons, List.length_nil] <;> omega)), hw_l_c10_1⟩
          · subst h55
            refine KC.seq ?_
            refine KC.region ?_
            refine KO.pv (PV.move rfl) rfl rfl ?_
            refine KO.pv (PV.move rfl) rfl rfl ?_
            refine KO.pv (PV.lssD rfl rfl rfl) rfl rfl ?_
            refine KO.pv (PV.assign rfl) rfl rfl ?_
            refine KO.nil ?_
            refine KC.condD rfl (fun h72 => ?_) (fun h72 => ?_)
            · refine KC.drawG (n := 10) (anc := [0, 1, 0, 4, 12, 28, 0, 124, 255, 511]) (hv := [7, 9]) (ord := [2, 3, 4, 5, 6, 7, 0, 1, 8, 9]) (by kernel_rfl) (by kernel_rfl) (by kernel_rfl) (by kernel_rfl) (by kernel_rfl) fun H73 n74 g75 => ?_
              have m76 := m51.room n74 g75 [6] (by decide) (by decide)
              refine KD.pv 4 (PV.fieldAddr fo46_3_B14 rfl) rfl rfl rfl (by kernel_rfl) rfl rfl rfl ?_
              refine KD.load 12 rfl (m76.row (i := 1) rfl) (by rw [read1 ag42_B14]; exact rfl) (pastGo (k := 1) (l := [H73]) (by kernel_rfl) rfl (pastCons ⟨_, (m76.row (i := 1) rfl), (by rw [read1 ag42_B14]; exact rfl)⟩ pastNil)) veq_sl rfl (by kernel_rfl) rfl rfl rfl ?_
              have hia77 : (0 : Nat) + (0 : Int).toNat * 1 = 0 := by decide
              refine KD.pv 28 (hia77 ▸ PV.indexAddrZ un42_B14 sz24_B14 rfl rfl rfl (by decide) (by decide)) rfl rfl rfl (by kernel_rfl) rfl rfl rfl ?_
              refine KD.load 60 rfl (m76.row (i := 2) rfl) (by rw [read1 ag24_B14]; exact rfl) (pastGo (k := 1) (l := [H73]) (by kernel_rfl) rfl (pastCons ⟨_, (m76.row (i := 2) rfl), (by rw [read1 ag24_B14]; exact rfl)⟩ pastNil)) veq_sl rfl (by kernel_rfl) rfl rfl rfl ?_
              refine KD.buildSliceM 124 m76 (j := 0) rfl el24_B14 ez3_B14 rfl rfl (show _ = some [.int .i64 0] from rfl) rfl (by kernel_rfl) rfl rfl rfl fun H78 m79 => ?_
              refine KD.appendC 252 (C := (EI .i64)) m79 (j := 10) rfl el24_B14 ez3_B14 sb3_B14 un24_B14 rfl rfl (newElems_row1 (C := (EI .i64)) (y := 0) (m79.row (i := 0) rfl) rfl) rfl (by first | omega | (simp only [splice, List.length_append, List.length_set, List.length_replicate, List.length_map, List.length_take, List.length_drop, List.length_cons, List.length_nil] <;> omega)) rfl (by kernel_rfl) rfl rfl rfl fun a81 D82 H80 m83 => ?_
              refine KD.pv 253 (PV.fieldAddr fo46_3_B14 rfl) rfl rfl rfl (by kernel_rfl) rfl rfl rfl ?_
              refine KD.load 255 rfl (m83.row (i := 1) rfl) (by rw [read1 ag42_B14]; exact rfl) (pastGo (k := 2) (l := [H80, H73]) (by kernel_rfl) rfl (pastCons ⟨_, (m83.row (i := 1) rfl), (by rw [read1 ag42_B14]; exact rfl)⟩ (pastCons ⟨_, (m76.row (i := 1) rfl), (by rw [read1 ag42_B14]; exact rfl)⟩ pastNil))) veq_sl rfl (by kernel_rfl) rfl rfl rfl ?_
              have hia84 : (0 : Nat) + (0 : Int).toNat * 1 = 0 := by decide
              refine KD.pv 511 (hia84 ▸ PV.indexAddrZ un42_B14 sz24_B14 rfl rfl rfl (by decide) (by decide)) rfl rfl rfl (by kernel_rfl) rfl rfl rfl ?_
              refine KD.storeM 1023 m83 (j := 2) rfl sz24_B14 rfl rfl rfl (show 0 + 1 ≤ 1 by decide) (show _ = [.slice a81 (n_c51_0 + 1) (n_c51_0 + 1)] from rfl) rfl (by kernel_rfl) rfl rfl fun H85 m86 => ?_
              refine KD.nil ⟨rfl, ?_⟩
              refine KC.region ?_
              refine KO.pv (PV.move rfl) rfl rfl ?_
              refine KO.pv (PV.add rfl rfl (wrap64 (by omega) (by omega))) rfl rfl ?_
              refine KO.pv (PV.assign rfl) rfl rfl ?_
              refine KO.nil ?_
              exact ⟨_, _, (by omega), (.cons rfl (.cons rfl (.cons rfl (.cons rfl (.cons rfl (.cons rfl (.cons rfl (.cons rfl (.cons rfl .nil))))))))), (x14 + 1), a_c11_2, n_c11_2, l_c11_2, D_c11_2, a_c11_4, n_c11_4, l_c11_4, D_c11_4, a81, (n_c51_0 + 1), (l_c51_0 ++ [0]), D82, c10_0, a_c10_1, n_c10_1, l_c10_1, D_c10_1, rfl, rfl, (m86.pick [1, 2, 3, 4, 5, 6, 7, 8, 9, 10, 11] (by decide) rfl), (by first | omega | assumption | (constructor <;> omega)), (by first | omega | (simp only [splice, List.length_append, List.length_set, List.length_replicate, List.length_map, List.length_take, List.length_drop, List.length_cons, List.length_nil] <;> omega)), (by first | omega | (simp only [splice, List.length_append, List.length_set, List.length_replicate, List.length_map, List.length_take, List.length_drop, List.length_cons, List.length_nil] <;> omega)), (by first | omega | (simp only [splice, List.length_append, List.length_set, List.length_replicate, List.length_map, List.length_take, List.length_drop, List.length_cons, List.length_nil] <;> omega)), hw_l_c11_2, (by first | omega | (simp only [splice, List.length_append, List.length_set, List.length_replicate, List.length_map, List.length_take, List.length_drop, List.length_cons, List.length_nil] <;> omega)), hw_l_c11_4, (by first | omega | (simp only [splice, List.length_append, List.length_set, List.length_replicate, List.length_map, List.length_take, List.length_drop, List.length_cons, List.length_nil] <;> omega)), (all_app hw_l_c51_0 (all_one (wf64 (by omega) (by omega)))), (by first | omega | (simp only [splice, List.length_append, List.length_set, List.length_replicate, List.length_map, List.length_take, List.length_drop, List.length_cons, List.length_nil] <;> omega)), hw_l_c10_1⟩
            · refine KC.seq ?_
              refine KC.region ?_
              refine KO.pv (PV.move rfl) rfl rfl ?_
              refine KO.pv (PV.assign rfl) rfl rfl ?_
              refine KO.nil ?_
              refine KC.condF rfl ?_
              refine KC.seq ?_
              refine KC.region ?_
              refine KO.pv (PV.assign rfl) rfl rfl ?_
              refine KO.nil ?_
              refine KC.seq ?_
              refine KC.seq ?_
              refine KC.region ?_
              refine KO.pv (PV.fieldAddr fo26_1_B14 rfl) rfl rfl ?_
              refine KO.load1 ag22_B14 rfl (m51.row (i := 6) rfl) rfl rfl rfl ?_
              refine KO.pv (PV.move rfl) rfl rfl ?_
              refine KO.pv (PV.move rfl) rfl rfl ?_
              refine KO.pv (PV.sub rfl rfl (wrap64 (by omega) (by omega))) rfl rfl ?_
              obtain ⟨b87, o87, p87, r87, e87, ha87, hb87, hr87, hx87, hw87, hc87, ht87⟩ := V.at_ h_cL (z := (x14 - (ci + 1))) (by omega) (by omega)
              have hc87_0 : r87.cs[o87 + ((x14 - (ci + 1))).toNat * 2 + 0]? = some (.int .i64 e87.1) := hc87 0 (by decide)
              have hc87_1 : r87.cs[o87 + ((x14 - (ci + 1))).toNat * 2 + 1]? = some (.int .i64 e87.2) := hc87 1 (by decide)
              obtain ⟨hwa87, hwb87⟩ := hw87
              obtain ⟨loa87, hia87⟩ := rangei64 hwa87
              obtain ⟨lob87, hib87⟩ := rangei64 hwb87
              have gp5_0_hl_87 := p5_0_hl _ (List.mem_of_getElem? hx87)
              refine KO.pv (PV.indexAddrZ un22_B14 sz147_B14 rfl ha87 rfl (by omega) (by omega)) rfl rfl ?_
              refine KO.pv (PV.fieldAddr fo147_1_B14 rfl) rfl rfl ?_
              refine KO.load1 ag3_B14 rfl (m51.row0 hb87 hr87) hc87_1 rfl rfl ?_
              refine KO.pv (PV.eqlD rfl rfl rfl) rfl rfl ?_
              refine KO.nil ?_
              refine KC.condD rfl (fun h88 => ?_) (fun h88 => ?_)
              · refine KC.region ?_
                refine KO.pv (PV.assign rfl) rfl rfl ?_
                refine KO.nil ?_
                refine KC.region ?_
                refine KO.pv (PV.fieldAddr fo46_2_B14 rfl) rfl rfl ?_
                refine KO.load1 ag24_B14 rfl (m51.row (i := 0) rfl) rfl rfl rfl ?_
                refine KO.pv (PV.move rfl) rfl rfl ?_
                refine KO.buildSliceM m51 el24_B14 ez3_B14 rfl rfl (show _ = some [.int .i64 1] from rfl) rfl rfl fun H89 m90 => ?_
                refine KO.appendC (C := (EI .i64)) m90 (i := 8) rfl el24_B14 ez3_B14 sb3_B14 un24_B14 rfl rfl (newElems_row1 (C := (EI .i64)) (y := 1) (m90.row (i := 0) rfl) rfl) rfl (by first | omega | (simp only [splice, List.length_append, List.length_set, List.length_replicate, List.length_map, List.length_take, List.length_drop, List.length_cons, List.length_nil] <;> omega)) rfl rfl fun a92 D93 H91 m94 => ?_
                refine KO.pv (PV.fieldAddr fo46_2_B14 rfl) rfl rfl ?_
                refine KO.storeM m94 (i := 1) rfl sz24_B14 rfl rfl rfl (show 2 + 1 ≤ 7 by decide) (show _ = [.int .i64 0, .int .i64 1, .slice a92 (n_c11_2 + 1) (n_c11_2 + 1), .slice (some ⟨H33.next, 0, none⟩) 1 1, .slice a_c11_4 n_c11_4 n_c11_4, .slice none 0 0, .int .i64 1] from rfl) rfl fun H95 m96 => ?_
                refine KO.nil ?_
                refine KC.region ?_
                refine KO.pv (PV.move rfl) rfl rfl ?_
                refine KO.pv (PV.add rfl rfl (wrap64 (by omega) (by omega))) rfl rfl ?_
                refine KO.pv (PV.assign rfl) rfl rfl ?_
                refine KO.nil ?_
                exact ⟨_, _, (by omega), (.cons rfl (.cons rfl (.cons rfl (.cons rfl (.cons rfl (.cons rfl (.cons rfl (.cons rfl (.cons rfl .nil))))))))), (x14 + 1), a92, (n_c11_2 + 1), (l_c11_2 ++ [1]), D93, a_c11_4, n_c11_4, l_c11_4, D_c11_4, a_c51_0, n_c51_0, l_c51_0, D_c51_0, c10_0, a_c10_1, n_c10_1, l_c10_1, D_c10_1, rfl, rfl, (m96.pick [1, 2, 3, 4, 5, 6, 7, 8, 9, 10, 11] (by decide) rfl), (by first | omega | assumption | (constructor <;> omega)), (by first | omega | (simp only [splice, List.length_append, List.length_set, List.length_replicate, List.length_map, List.length_take, List.length_drop, List.length_cons, List.length_nil] <;> omega)), (by first | omega | (simp only [splice, List.length_append, List.length_set, List.length_replicate, List.length_map, List.length_take, List.length_drop, List.length_cons, List.length_nil] <;> omega)), (by first | omega | (simp only [splice, List.length_append, List.length_set, List.length_replicate, List.length_map, List.length_take, List.length_drop, List.length_cons, List.length_nil] <;> omega)), (all_app hw_l_c11_2 (all_one (wf64 (by omega) (by omega)))), (by first | omega | (simp only [splice, List.length_append, List.length_set, List.length_replicate, List.length_map, List.length_take, List.length_drop, List.length_cons, List.length_nil] <;> omega)), hw_l_c11_4, (by first | omega | (simp only [splice, List.length_append, List.length_set, List.length_replicate, List.length_map, List.length_take, List.length_drop, List.length_cons, List.length_nil] <;> omega)), hw_l_c51_0, (by first | omega | (simp only [splice, List.length_append, List.length_set, List.length_replicate, List.length_map, List.length_take, List.length_drop, List.length_cons, List.length_nil] <;> omega)), hw_l_c10_1⟩
              · refine KC.skip ?_
                refine KC.region ?_
                refine KO.pv (PV.fieldAddr fo46_2_B14 rfl) rfl rfl ?_
                refine KO.load1 ag24_B14 rfl (m51.row (i := 0) rfl) rfl rfl rfl ?_
                refine KO.pv (PV.move rfl) rfl rfl ?_
                refine KO.buildSliceM m51 el24_B14 ez3_B14 rfl rfl (show _ = some [.int .i64 0] from rfl) rfl rfl fun H97 m98 => ?_
                refine KO.appendC (C := (EI .i64)) m98 (i := 8) rfl el24_B14 ez3_B14 sb3_B14 un24_B14 rfl rfl (newElems_row1 (C := (EI .i64)) (y := 0) (m98.row (i := 0) rfl) rfl) rfl (by first | omega | (simp only [splice, List.length_append, List.length_set, List.length_replicate, List.length_map, List.length_take, List.length_drop, List.length_cons, List.length_nil] <;> omega)) rfl rfl fun a100 D101 H99 m102 => ?_
                refine KO.pv (PV.fieldAddr fo46_2_B14 rfl) rfl rfl ?_
                refine KO.storeM m102 (i := 1) rfl sz24_B14 rfl rfl rfl (show 2 + 1 ≤ 7 by decide) (show _ = [.int .i64 0, .int .i64 1, .slice a100 (n_c11_2 + 1) (n_c11_2 + 1), .slice (some ⟨H33.next, 0, none⟩) 1 1, .slice a_c11_4 n_c11_4 n_c11_4, .slice none 0 0, .int .i64 1] from rfl) rfl fun H103 m104 => ?_
                refine KO.nil ?_
                refine KC.region ?_
                refine KO.pv (PV.move rfl) rfl rfl ?_
                refine KO.pv (PV.add rfl rfl (wrap64 (by omega) (by omega))) rfl rfl ?_
                refine KO.pv (PV.assign rfl) rfl rfl ?_
                refine KO.nil ?_
                exact ⟨_, _, (by omega), (.cons rfl (.cons rfl (.cons rfl (.cons rfl (.cons rfl (.cons rfl (.cons rfl (.cons rfl (.cons rfl .nil))))))))), (x14 + 1), a100, (n_c11_2 + 1), (l_c11_2 ++ [0]), D101, a_c11_4, n_c11_4, l_c11_4, D_c11_4, a_c51_0, n_c51_0, l_c51_0, D_c51_0, c10_0, a_c10_1, n_c10_1, l_c10_1, D_c10_1, rfl, rfl, (m104.pick [1, 2, 3, 4, 5, 6, 7, 8, 9, 10, 11] (by decide) rfl), (by first | omega | assumption | (constructor <;> omega)), (by first | omega | (simp only [splice, List.length_append, List.length_set, List.length_replicate, List.length_map, List.length_take, List.length_drop, List.length_cons, List.length_nil] <;> omega)), (by first | omega | (simp only [splice, List.length_append, List.length_set, List.length_replicate, List.length_map, List.length_take, List.length_drop, List.length_cons, List.length_nil] <;> omega)), (by first | omega | (simp only [splice, List.length_append, List.length_set, List.length_replicate, List.length_map, List.length_take, List.length_drop, List.length_cons, List.length_nil] <;> omega)), (all_app hw_l_c11_2 (all_one (wf64 (by omega) (by omega)))), (by first | omega | (simp only [splice, List.length_append, List.length_set, List.length_replicate, List.length_map, List.length_take, List.length_drop, List.length_cons, List.length_nil] <;> omega)), hw_l_c11_4, (by first | omega | (simp only [splice, List.length_append, List.length_set, List.length_replicate, List.length_map, List.length_take, List.length_drop, List.length_cons, List.length_nil] <;> omega)), hw_l_c51_0, (by first | omega | (simp only [splice, List.length_append, List.length_set, List.length_replicate, List.length_map, List.length_take, List.length_drop, List.length_cons, List.length_nil] <;> omega)), hw_l_c10_1⟩
        · refine KO.pv (PV.lssD rfl rfl (decide_eq_false h54)) rfl rfl ?_
          refine KO.pv (PV.move rfl) rfl rfl ?_
          refine KO.no rfl rfl rfl ?_
          refine KO.pv (PV.pickF rfl rfl rfl) rfl rfl ?_
          refine KO.pv (PV.assign rfl) rfl rfl ?_
          refine KO.nil ?_
          refine KC.condF rfl ?_
          refine KC.seq ?_
          refine KC.region ?_
          refine KO.pv (PV.move rfl) rfl rfl ?_
          refine KO.pv (PV.move rfl) rfl rfl ?_
          refine KO.pv (PV.lssD rfl rfl rfl) rfl rfl ?_
          refine KO.pv (PV.assign rfl) rfl rfl ?_
          refine KO.nil ?_
          refine KC.condD rfl (fun h105 => ?_) (fun h105 => ?_)
          · refine KC.drawG (n := 10) (anc := [0, 1, 0, 4, 12, 28, 0, 124, 255, 511]) (hv := [7, 9]) (ord := [2, 3, 4, 5, 6, 7, 0, 1, 8, 9]) (by kernel_rfl) (by kernel_rfl) (by kernel_rfl) (by kernel_rfl) (by kernel_rfl) fun H106 n107 g108 => ?_
            have m109 := m51.room n107 g108 [6] (by decide) (by decide)
            refine KD.pv 4 (PV.fieldAddr fo46_3_B14 rfl) rfl rfl rfl (by kernel_rfl) rfl rfl rfl ?_
            refine KD.load 12 rfl (m109.row (i := 1) rfl) (by rw [read1 ag42_B14]; exact rfl) (pastGo (k := 1) (l := [H106]) (by kernel_rfl) rfl (pastCons ⟨_, (m109.row (i := 1) rfl), (by rw [read1 ag42_B14]; exact rfl)⟩ pastNil)) veq_sl rfl (by kernel_rfl) rfl rfl rfl ?_
            have hia110 : (0 : Nat) + (0 : Int).toNat * 1 = 0 := by decide
            refine KD.pv 28 (hia110 ▸ PV.indexAddrZ un42_B14 sz24_B14 rfl rfl rfl (by decide) (by decide)) rfl rfl rfl (by kernel_rfl) rfl rfl rfl ?_
            refine KD.load 60 rfl (m109.row (i := 2) rfl) (by rw [read1 ag24_B14]; exact rfl) (pastGo (k := 1) (l := [H106]) (by kernel_rfl) rfl (pastCons ⟨_, (m109.row (i := 2) rfl), (by rw [read1 ag24_B14]; exact rfl)⟩ pastNil)) veq_sl rfl (by kernel_rfl) rfl rfl rfl ?_
            refine KD.buildSliceM 124 m109 (j := 0) rfl el24_B14 ez3_B14 rfl rfl (show _ = some [.int .i64 0] from rfl) rfl (by kernel_rfl) rfl rfl rfl fun H111 m112 => ?_
            refine KD.appendC 252 (C := (EI .i64)) m112 (j := 10) rfl el24_B14 ez3_B14 sb3_B14 un24_B14 rfl rfl (newElems_row1 (C := (EI .i64)) (y := 0) (m112.row (i := 0) rfl) rfl) rfl (by first | omega | (simp only [splice, List.length_append, List.length_set, List.length_replicate, List.length_map, List.length_take, List.length_drop, List.length_cons, List.length_nil] <;> omega)) rfl (by kernel_rfl) rfl rfl rfl fun a114 D115 H113 m116 => ?_
            refine KD.pv 253 (PV.fieldAddr fo46_3_B14 rfl) rfl rfl rfl (by kernel_rfl) rfl rfl rfl ?_
            refine KD.load 255 rfl (m116.row (i := 1) rfl) (by rw [read1 ag42_B14]; exact rfl) (pastGo (k := 2) (l := [H113, H106]) (by kernel_rfl) rfl (pastCons ⟨_, (m116.row (i := 1) rfl), (by rw [read1 ag42_B14]; exact rfl)⟩ (pastCons ⟨_, (m109.row (i := 1) rfl), (by rw [read1 ag42_B14]; exact rfl)⟩ pastNil))) veq_sl rfl (by kernel_rfl) rfl rfl rfl ?_
            have hia117 : (0 : Nat) + (0 : Int).toNat * 1 = 0 := by decide
            refine KD.pv 511 (hia117 ▸ PV.indexAddrZ un42_B14 sz24_B14 rfl rfl rfl (by decide) (by decide)) rfl rfl rfl (by kernel_rfl) rfl rfl rfl ?_
            refine KD.storeM 1023 m116 (j := 2) rfl sz24_B14 rfl rfl rfl (show 0 + 1 ≤ 1 by decide) (show _ = [.slice a114 (n_c51_0 + 1) (n_c51_0 + 1)] from rfl) rfl (by kernel_rfl) rfl rfl fun H118 m119 => ?_
            refine KD.nil ⟨rfl, ?_⟩
            refine KC.region ?_
            refine KO.pv (PV.move rfl) rfl rfl ?_
            refine KO.pv (PV.add rfl rfl (wrap64 (by omega) (by omega))) rfl rfl ?_
            refine KO.pv (PV.assign rfl) rfl rfl ?_
            refine KO.nil ?_
            exact ⟨_, _, (by omega), (.cons rfl (.cons rfl (.cons rfl (.cons rfl (.cons rfl (.cons rfl (.cons rfl (.cons rfl (.cons rfl .nil))))))))), (x14 + 1), a_c11_2, n_c11_2, l_c11_2, D_c11_2, a_c11_4, n_c11_4, l_c11_4, D_c11_4, a114, (n_c51_0 + 1), (l_c51_0 ++ [0]), D115, c10_0, a_c10_1, n_c10_1, l_c10_1, D_c10_1, rfl, rfl, (m119.pick [1, 2, 3, 4, 5, 6, 7, 8, 9, 10, 11] (by decide) rfl), (by first | omega | assumption | (constructor <;> omega)), (by first | omega | (simp only [splice, List.length_append, List.length_set, List.length_replicate, List.length_map, List.length_take, List.length_drop, List.length_cons, List.length_nil] <;> omega)), (by first | omega | (simp only [splice, List.length_append, List.length_set, List.length_replicate, List.length_map, List.length_take, List.length_drop, List.length_cons, List.length_nil] <;> omega)), (by first | omega | (simp only [splice, List.length_append, List.length_set, List.length_replicate, List.length_map, List.length_take, List.length_drop, List.length_cons, List.length_nil] <;> omega)), hw_l_c11_2, (by first | omega | (simp only [splice, List.length_append, List.length_set, List.length_replicate, List.length_map, List.length_take, List.length_drop, List.length_cons, List.length_nil] <;> omega)), hw_l_c11_4, (by first | omega | (simp only [splice, List.length_append, List.length_set, List.length_replicate, List.length_map, List.length_take, List.length_drop, List.length_cons, List.length_nil] <;> omega)), (all_app hw_l_c51_0 (all_one (wf64 (by omega) (by omega)))), (by first | omega | (simp only [splice, List.length_append, List.length_set, List.length_replicate, List.length_map, List.length_take, List.length_drop, List.length_cons, List.length_nil] <;> omega)), hw_l_c10_1⟩
          · refine KC.seq ?_
            refine KC.region ?_
            refine KO.pv (PV.move rfl) rfl rfl ?_
            refine KO.pv (PV.assign rfl) rfl rfl ?_
            refine KO.nil ?_
            refine KC.cond rfl (fun h120 => ?_) (fun h120 => ?_)
            · subst h120
              refine KC.seq ?_
              refine KC.region ?_
              refine KO.pv (PV.fieldAddr fo26_1_B14 rfl) rfl rfl ?_
              refine KO.load1 ag22_B14 rfl (m51.row (i := 6) rfl) rfl rfl rfl ?_
              refine KO.pv (PV.move rfl) rfl rfl ?_
              refine KO.pv (PV.move rfl) rfl rfl ?_
              refine KO.pv (PV.sub rfl rfl (wrap64 (by omega) (by omega))) rfl rfl ?_
              obtain ⟨b121, o121, p121, r121, e121, ha121, hb121, hr121, hx121, hw121, hc121, ht121⟩ := V.at_ h_cL (z := (x14 - (ci + 1))) (by omega) (by omega)
              have hc121_0 : r121.cs[o121 + ((x14 - (ci + 1))).toNat * 2 + 0]? = some (.int .i64 e121.1) := hc121 0 (by decide)
              have hc121_1 : r121.cs[o121 + ((x14 - (ci + 1))).toNat * 2 + 1]? = some (.int .i64 e121.2) := hc121 1 (by decide)
              obtain ⟨hwa121, hwb121⟩ := hw121
              obtain ⟨loa121, hia121⟩ := rangei64 hwa121
              obtain ⟨lob121, hib121⟩ := rangei64 hwb121
              have gp5_0_hl_121 := p5_0_hl _ (List.mem_of_getElem? hx121)
              refine KO.pv (PV.indexAddrZ un22_B14 sz147_B14 rfl ha121 rfl (by omega) (by omega)) rfl rfl ?_
              refine KO.loadN ag147_B14 sz147_B14 rfl (m51.row0 hb121 hr121) ht121 rfl rfl ?_
              refine KO.allocM m51 zt147_B14 rfl rfl fun H122 m123 => ?_
              refine KO.storeM m123 (i := 0) rfl sz147_B14 rfl rfl rfl (show 0 + 2 ≤ 2 by decide) (show _ = [.int .i64 e121.1, .int .i64 e121.2] from rfl) rfl fun H124 m125 => ?_
              refine KO.nil ?_
              refine KC.seq ?_
              refine KC.region ?_
              refine KO.pv (PV.fieldAddr fo46_2_B14 rfl) rfl rfl ?_
              refine KO.load1 ag24_B14 rfl (m125.row (i := 1) rfl) rfl rfl rfl ?_
              refine KO.pv (PV.move rfl) rfl rfl ?_
              refine KO.pv (PV.mul rfl rfl (wrap64 (by omega) (by omega))) rfl rfl ?_
              refine KO.buildSliceM m125 el24_B14 ez3_B14 rfl rfl (show _ = some [.int .i64 (2 * x53)] from rfl) rfl rfl fun H126 m127 => ?_
              refine KO.appendC (C := (EI .i64)) m127 (i := 9) rfl el24_B14 ez3_B14 sb3_B14 un24_B14 rfl rfl (newElems_row1 (C := (EI .i64)) (y := (2 * x53)) (m127.row (i := 0) rfl) rfl) rfl (by first | omega | (simp only [splice, List.length_append, List.length_set, List.length_replicate, List.length_map, List.length_take, List.length_drop, List.length_cons, List.length_nil] <;> omega)) rfl rfl fun a129 D130 H128 m131 => ?_
              refine KO.pv (PV.fieldAddr fo46_2_B14 rfl) rfl rfl ?_
              refine KO.storeM m131 (i := 2) rfl sz24_B14 rfl rfl rfl (show 2 + 1 ≤ 7 by decide) (show _ = [.int .i64 0, .int .i64 1, .slice a129 (n_c11_2 + 1) (n_c11_2 + 1), .slice (some ⟨H33.next, 0, none⟩) 1 1, .slice a_c11_4 n_c11_4 n_c11_4, .slice none 0 0, .int .i64 1] from rfl) rfl fun H132 m133 => ?_
              refine KO.nil ?_
              refine KC.seq ?_
              refine KC.region ?_
              refine KO.pv (PV.fieldAddr fo46_4_B14 rfl) rfl rfl ?_
              refine KO.load1 ag24_B14 rfl (m133.row (i := 2) rfl) rfl rfl rfl ?_
              refine KO.pv (PV.move rfl) rfl rfl ?_
              refine KO.pv (PV.mul rfl rfl (wrap64 (by omega) (by omega))) rfl rfl ?_
              refine KO.buildSliceM m133 el24_B14 ez3_B14 rfl rfl (show _ = some [.int .i64 (2 * x14)] from rfl) rfl rfl fun H134 m135 => ?_
              refine KO.appendC (C := (EI .i64)) m135 (i := 11) rfl el24_B14 ez3_B14 sb3_B14 un24_B14 rfl rfl (newElems_row1 (C := (EI .i64)) (y := (2 * x14)) (m135.row (i := 0) rfl) rfl) rfl (by first | omega | (simp only [splice, List.length_append, List.length_set, List.length_replicate, List.length_map, List.length_take, List.length_drop, List.length_cons, List.length_nil] <;> omega)) rfl rfl fun a137 D138 H136 m139 => ?_
              refine KO.pv (PV.fieldAddr fo46_4_B14 rfl) rfl rfl ?_
              refine KO.storeM m139 (i := 3) rfl sz24_B14 rfl rfl rfl (show 4 + 1 ≤ 7 by decide) (show _ = [.int .i64 0, .int .i64 1, .slice a129 (n_c11_2 + 1) (n_c11_2 + 1), .slice (some ⟨H33.next, 0, none⟩) 1 1, .slice a137 (n_c11_4 + 1) (n_c11_4 + 1), .slice none 0 0, .int .i64 1] from rfl) rfl fun H140 m141 => ?_
              refine KO.nil ?_
              refine KC.drawG (n := 13) (anc := [0, 1, 0, 0, 8, 28, 0, 64, 252, 508, 1023, 2047, 4095]) (hv := [5, 10, 12]) (ord := [2, 3, 4, 5, 0, 1, 6, 7, 8, 9, 10, 11, 12]) (by kernel_rfl) (by kernel_rfl) (by kernel_rfl) (by kernel_rfl) (by kernel_rfl) fun H142 n143 g144 => ?_
              have m145 := m141.room n143 g144 [9] (by decide) (by decide)
              refine KD.pv 4 (PV.move rfl) rfl rfl rfl (by kernel_rfl) rfl rfl rfl ?_
              refine KD.pv 12 (PV.fieldAddr fo147_0_B14 rfl) rfl rfl rfl (by kernel_rfl) rfl rfl rfl ?_
              refine KD.load 28 rfl (m145.row (i := 3) rfl) (by rw [read1 ag3_B14]; exact rfl) (pastGo (k := 1) (l := [H142]) (by kernel_rfl) rfl (pastCons ⟨_, (m145.row (i := 3) rfl), (by rw [read1 ag3_B14]; exact rfl)⟩ pastNil)) veq_int rfl (by kernel_rfl) rfl rfl rfl ?_
              have m146 : Mem [] H H142 [R.row H21.next 150 true [.map (some H5.next)], R.mp H5.next (KI .i64) (VI fun x => 0 ≤ x ∧ x ≤ 1002), R.free (H140.next + 9), R.row H132.next 3 true [.int .i64 (2 * x14)], R.row H124.next 3 true [.int .i64 (2 * x53)], R.row A50.next 147 true [.int .i64 e121.1, .int .i64 e121.2], R.row H35.next 46 true [.int .i64 0, .int .i64 1, .slice a129 (n_c11_2 + 1) (n_c11_2 + 1), .slice (some ⟨H33.next, 0, none⟩) 1 1, .slice a137 (n_c11_4 + 1) (n_c11_4 + 1), .slice none 0 0, .int .i64 1], R.row H33.next 24 true [.slice a_c51_0 n_c51_0 n_c51_0], R.row A27.next 26 true [.int .i64 c10_0, .slice a_c10_1 n_c10_1 n_c10_1, .slice none 0 0, .slice none 0 0, .slice none 0 0], R.row H1.next 48 true [.int .i64 0, .slice none 0 0, .slice none 0 0, .slice none 0 0, .slice none 0 0, .int .i64 0, .int .i64 0, .slice none 0 0, .slice none 0 0, .slice none 0 0, .slice none 0 0, .int .i64 0], R.row H.next 26 true [.int .i64 ci, .slice a_cL n_cL c_cL, .slice a_cA n_cA c_cA, .slice a_cB n_cB c_cB, .slice a_cC n_cC c_cC], R.lst 3 1 a129 (n_c11_2 + 1) (cells (EI .i64) (l_c11_2 ++ [(2 * x53)])) D130, R.lst 3 1 a137 (n_c11_4 + 1) (cells (EI .i64) (l_c11_4 ++ [(2 * x14)])) D138, R.lst 3 1 a_c51_0 n_c51_0 (cells (EI .i64) l_c51_0) D_c51_0, R.lst 147 2 a_c10_1 n_c10_1 (cells EP l_c10_1) D_c10_1] := m145.pick [7, 8, 0, 1, 2, 3, 4, 5, 6, 9, 10, 11, 12, 13, 14] (by decide) rfl
              refine KD.callV 60 rfl rfl rfl rfl (by kernel_rfl) rfl rfl rfl (cone_of H142 e121.1 H21.next H5.next (wrap64 (by omega) (by omega)) (m146.ownK (Rs := [R.row H21.next 150 true [.map (some H5.next)], R.mp H5.next (KI .i64) (VI fun x => 0 ≤ x ∧ x ≤ 1002)])) (by first | omega | assumption)) fun v147 H147 q147 => ?_
              obtain ⟨z147, hv147, mc147, p147_0⟩ := q147
              dsimp only at hv147 mc147
              subst hv147
              have m148 := m146.seqK (Rs := [R.row H21.next 150 true [.map (some H5.next)], R.mp H5.next (KI .i64) (VI fun x => 0 ≤ x ∧ x ≤ 1002)]) mc147
              refine KD.pv 61 (PV.fieldAddr fo26_1_B14 rfl) rfl rfl rfl (by kernel_rfl) rfl rfl rfl ?_
              refine KD.load 63 rfl (m148.row (i := 8) rfl) (by rw [read1 ag22_B14]; exact rfl) (pastGo (k := 2) (l := [H147, H142]) (by kernel_rfl) rfl (pastCons ⟨_, (m148.row (i := 8) rfl), (by rw [read1 ag22_B14]; exact rfl)⟩ (pastCons ⟨_, (m145.row (i := 6) rfl), (by rw [read1 ag22_B14]; exact rfl)⟩ pastNil))) veq_sl rfl (by kernel_rfl) rfl rfl rfl ?_
              refine KD.pv 127 (PV.fieldAddr fo147_1_B14 rfl) rfl rfl rfl (by kernel_rfl) rfl rfl rfl ?_
              refine KD.load 255 rfl (m148.row (i := 5) rfl) (by rw [read1 ag3_B14]; exact rfl) (pastGo (k := 2) (l := [H147, H142]) (by kernel_rfl) rfl (pastCons ⟨_, (m148.row (i := 5) rfl), (by rw [read1 ag3_B14]; exact rfl)⟩ (pastCons ⟨_, (m145.row (i := 3) rfl), (by rw [read1 ag3_B14]; exact rfl)⟩ pastNil))) veq_int rfl (by kernel_rfl) rfl rfl rfl ?_
              refine KD.pv 511 (PV.build rfl (bl147_0i64_1i64_B14 _ _)) rfl rfl rfl (by kernel_rfl) rfl rfl rfl ?_
              refine KD.buildSliceM 1023 m148 (j := 2) rfl el22_B14 ez147_B14 rfl rfl (show _ = some [.int .i64 z147, .int .i64 e121.2] from rfl) rfl (by kernel_rfl) rfl rfl rfl fun H149 m150 => ?_
              refine KD.appendC 2047 (C := EP) m150 (j := 14) rfl el22_B14 ez147_B14 sb147_B14 un22_B14 rfl rfl (newElems_row1 (C := EP) (y := (z147, e121.2)) (m150.row (i := 2) rfl) rfl) rfl (by first | omega | (simp only [splice, List.length_append, List.length_set, List.length_replicate, List.length_map, List.length_take, List.length_drop, List.length_cons, List.length_nil] <;> omega)) rfl (by kernel_rfl) rfl rfl rfl fun a152 D153 H151 m154 => ?_
              refine KD.pv 4095 (PV.fieldAddr fo26_1_B14 rfl) rfl rfl rfl (by kernel_rfl) rfl rfl rfl ?_
              refine KD.storeM 8191 m154 (j := 8) rfl sz22_B14 rfl rfl rfl (show 1 + 1 ≤ 5 by decide) (show _ = [.int .i64 c10_0, .slice a152 (n_c10_1 + 1) (n_c10_1 + 1), .slice none 0 0, .slice none 0 0, .slice none 0 0] from rfl) rfl (by kernel_rfl) rfl rfl fun H155 m156 => ?_
              refine KD.nil ⟨rfl, ?_⟩
              refine KC.region ?_
              refine KO.pv (PV.move rfl) rfl rfl ?_
              refine KO.pv (PV.add rfl rfl (wrap64 (by omega) (by omega))) rfl rfl ?_
              refine KO.pv (PV.assign rfl) rfl rfl ?_
              refine KO.nil ?_
              exact ⟨_, _, (by omega), (.cons rfl (.cons rfl (.cons rfl (.cons rfl (.cons rfl (.cons rfl (.cons rfl (.cons rfl (.cons rfl .nil))))))))), (x14 + 1), a129, (n_c11_2 + 1), (l_c11_2 ++ [(2 * x53)]), D130, a137, (n_c11_4 + 1), (l_c11_4 ++ [(2 * x14)]), D138, a_c51_0, n_c51_0, l_c51_0, D_c51_0, c10_0, a152, (n_c10_1 + 1), (l_c10_1 ++ [(z147, e121.2)]), D153, rfl, rfl, (m156.pick [6, 7, 8, 0, 1, 9, 10, 11, 12, 13, 14] (by decide) rfl), (by first | omega | assumption | (constructor <;> omega)), (by first | omega | (simp only [splice, List.length_append, List.length_set, List.length_replicate, List.length_map, List.length_take, List.length_drop, List.length_cons, List.length_nil] <;> omega)), (by first | omega | (simp only [splice, List.length_append, List.length_set, List.length_replicate, List.length_map, List.length_take, List.length_drop, List.length_cons, List.length_nil] <;> omega)), (by first | omega | (simp only [splice, List.length_append, List.length_set, List.length_replicate, List.length_map, List.length_take, List.length_drop, List.length_cons, List.length_nil] <;> omega)), (all_app hw_l_c11_2 (all_one (wf64 (by omega) (by omega)))), (by first | omega | (simp only [splice, List.length_append, List.length_set, List.length_replicate, List.length_map, List.length_take, List.length_drop, List.length_cons, List.length_nil] <;> omega)), (all_app hw_l_c11_4 (all_one (wf64 (by omega) (by omega)))), (by first | omega | (simp only [splice, List.length_append, List.length_set, List.length_replicate, List.length_map, List.length_take, List.length_drop, List.length_cons, List.length_nil] <;> omega)), hw_l_c51_0, (by first | omega | (simp only [splice, List.length_append, List.length_set, List.length_replicate, List.length_map, List.length_take, List.length_drop, List.length_cons, List.length_nil] <;> omega)), (all_app hw_l_c10_1 (all_one (wfP ⟨by omega, by omega⟩ ⟨by omega, by omega⟩)))⟩
            · subst h120
              refine KC.seq ?_
              refine KC.region ?_
              refine KO.pv (PV.assign rfl) rfl rfl ?_
              refine KO.nil ?_
              refine KC.seq ?_
              refine KC.seq ?_
              refine KC.region ?_
              refine KO.pv (PV.fieldAddr fo26_1_B14 rfl) rfl rfl ?_
              refine KO.load1 ag22_B14 rfl (m51.row (i := 6) rfl) rfl rfl rfl ?_
              refine KO.pv (PV.move rfl) rfl rfl ?_
              refine KO.pv (PV.move rfl) rfl rfl ?_
              refine KO.pv (PV.sub rfl rfl (wrap64 (by omega) (by omega))) rfl rfl ?_
              obtain ⟨b157, o157, p157, r157, e157, ha157, hb157, hr157, hx157, hw157, hc157, ht157⟩ := V.at_ h_cL (z := (x14 - (ci + 1))) (by omega) (by omega)
              have hc157_0 : r157.cs[o157 + ((x14 - (ci + 1))).toNat * 2 + 0]? = some (.int .i64 e157.1) := hc157 0 (by decide)
              have hc157_1 : r157.cs[o157 + ((x14 - (ci + 1))).toNat * 2 + 1]? = some (.int .i64 e157.2) := hc157 1 (by decide)
              obtain ⟨hwa157, hwb157⟩ := hw157
              obtain ⟨loa157, hia157⟩ := rangei64 hwa157
              obtain ⟨lob157, hib157⟩ := rangei64 hwb157
              have gp5_0_hl_157 := p5_0_hl _ (List.mem_of_getElem? hx157)
              refine KO.pv (PV.indexAddrZ un22_B14 sz147_B14 rfl ha157 rfl (by omega) (by omega)) rfl rfl ?_
              refine KO.pv (PV.fieldAddr fo147_1_B14 rfl) rfl rfl ?_
              refine KO.load1 ag3_B14 rfl (m51.row0 hb157 hr157) hc157_1 rfl rfl ?_
              refine KO.pv (PV.eqlD rfl rfl rfl) rfl rfl ?_
              refine KO.nil ?_
              refine KC.condD rfl (fun h158 => ?_) (fun h158 => ?_)
              · refine KC.region ?_
                refine KO.pv (PV.assign rfl) rfl rfl ?_
                refine KO.nil ?_
                refine KC.region ?_
                refine KO.pv (PV.fieldAddr fo46_2_B14 rfl) rfl rfl ?_
                refine KO.load1 ag24_B14 rfl (m51.row (i := 0) rfl) rfl rfl rfl ?_
                refine KO.pv (PV.move rfl) rfl rfl ?_
                refine KO.buildSliceM m51 el24_B14 ez3_B14 rfl rfl (show _ = some [.int .i64 1] from rfl) rfl rfl fun H159 m160 => ?_
                refine KO.appendC (C := (EI .i64)) m160 (i := 8) rfl el24_B14 ez3_B14 sb3_B14 un24_B14 rfl rfl (newElems_row1 (C := (EI .i64)) (y := 1) (m160.row (i := 0) rfl) rfl) rfl (by first | omega | (simp only [splice, List.length_append, List.length_set, List.length_replicate, List.length_map, List.length_take, List.length_drop, List.length_cons, List.length_nil] <;> omega)) rfl rfl fun a162 D163 H161 m164 => ?_
                refine KO.pv (PV.fieldAddr fo46_2_B14 rfl) rfl rfl ?_
                refine KO.storeM m164 (i := 1) rfl sz24_B14 rfl rfl rfl (show 2 + 1 ≤ 7 by decide) (show _ = [.int .i64 0, .int .i64 1, .slice a162 (n_c11_2 + 1) (n_c11_2 + 1), .slice (some ⟨H33.next, 0, none⟩) 1 1, .slice a_c11_4 n_c11_4 n_c11_4, .slice none 0 0, .int .i64 1] from rfl) rfl fun H165 m166 => ?_
                refine KO.nil ?_
                refine KC.region ?_
                refine KO.pv (PV.move rfl) rfl rfl ?_
                refine KO.pv (PV.add rfl rfl (wrap64 (by omega) (by omega))) rfl rfl ?_
                refine KO.pv (PV.assign rfl) rfl rfl ?_
                refine KO.nil ?_
                exact ⟨_, _, (by omega), (.cons rfl (.cons rfl (.cons rfl (.cons rfl (.cons rfl (.cons rfl (.cons rfl (.cons rfl (.cons rfl .nil))))))))), (x14 + 1), a162, (n_c11_2 + 1), (l_c11_2 ++ [1]), D163, a_c11_4, n_c11_4, l_c11_4, D_c11_4, a_c51_0, n_c51_0, l_c51_0, D_c51_0, c10_0, a_c10_1, n_c10_1, l_c10_1, D_c10_1, rfl, rfl, (m166.pick [1, 2, 3, 4, 5, 6, 7, 8, 9, 10, 11] (by decide) rfl), (by first | omega | assumption | (constructor <;> omega)), (by first | omega | (simp only [splice, List.length_append, List.length_set, List.length_replicate, List.length_map, List.length_take, List.length_drop, List.length_cons, List.length_nil] <;> omega)), (by first | omega | (simp only [splice, List.length_append, List.length_set, List.length_replicate, List.length_map, List.length_take, List.length_drop, List.length_cons, List.length_nil] <;> omega)), (by first | omega | (simp only [splice, List.length_append, List.length_set, List.length_replicate, List.length_map, List.length_take, List.length_drop, List.length_cons, List.length_nil] <;> omega)), (all_app hw_l_c11_2 (all_one (wf64 (by omega) (by omega)))), (by first | omega | (simp only [splice, List.length_append, List.length_set, List.length_replicate, List.length_map, List.length_take, List.length_drop, List.length_cons, List.length_nil] <;> omega)), hw_l_c11_4, (by first | omega | (simp only [splice, List.length_append, List.length_set, List.length_replicate, List.length_map, List.length_take, List.length_drop, List.length_cons, List.length_nil] <;> omega)), hw_l_c51_0, (by first | omega | (simp only [splice, List.length_append, List.length_set, List.length_replicate, List.length_map, List.length_take, List.length_drop, List.length_cons, List.length_nil] <;> omega)), hw_l_c10_1⟩
              · refine KC.skip ?_
                refine KC.region ?_
                refine KO.pv (PV.fieldAddr fo46_2_B14 rfl) rfl rfl ?_
                refine KO.load1 ag24_B14 rfl (m51.row (i := 0) rfl) rfl rfl rfl ?_
                refine KO.pv (PV.move rfl) rfl rfl ?_
                refine KO.buildSliceM m51 el24_B14 ez3_B14 rfl rfl (show _ = some [.int .i64 0] from rfl) rfl rfl fun H167 m168 => ?_
                refine KO.appendC (C := (EI .i64)) m168 (i := 8) rfl el24_B14 ez3_B14 sb3_B14 un24_B14 rfl rfl (newElems_row1 (C := (EI .i64)) (y := 0) (m168.row (i := 0) rfl) rfl) rfl (by first | omega | (simp only [splice, List.length_append, List.length_set, List.length_replicate, List.length_map, List.length_take, List.length_drop, List.length_cons, List.length_nil] <;> omega)) rfl rfl fun a170 D171 H169 m172 => ?_
                refine KO.pv (PV.fieldAddr fo46_2_B14 rfl) rfl rfl ?_
                refine KO.storeM m172 (i := 1) rfl sz24_B14 rfl rfl rfl (show 2 + 1 ≤ 7 by decide) (show _ = [.int .i64 0, .int .i64 1, .slice a170 (n_c11_2 + 1) (n_c11_2 + 1), .slice (some ⟨H33.next, 0, none⟩) 1 1, .slice a_c11_4 n_c11_4 n_c11_4, .slice none 0 0, .int .i64 1] from rfl) rfl fun H173 m174 => ?_
                refine KO.nil ?_
                refine KC.region ?_
                refine KO.pv (PV.move rfl) rfl rfl ?_
                refine KO.pv (PV.add rfl rfl (wrap64 (by omega) (by omega))) rfl rfl ?_
                refine KO.pv (PV.assign rfl) rfl rfl ?_
                refine KO.nil ?_
                exact ⟨_, _, (by omega), (.cons rfl (.cons rfl (.cons rfl (.cons rfl (.cons rfl (.cons rfl (.cons rfl (.cons rfl (.cons rfl .nil))))))))), (x14 + 1), a170, (n_c11_2 + 1), (l_c11_2 ++ [0]), D171, a_c11_4, n_c11_4, l_c11_4, D_c11_4, a_c51_0, n_c51_0, l_c51_0, D_c51_0, c10_0, a_c10_1, n_c10_1, l_c10_1, D_c10_1, rfl, rfl, (m174.pick [1, 2, 3, 4, 5, 6, 7, 8, 9, 10, 11] (by decide) rfl), (by first | omega | assumption | (constructor <;> omega)), (by first | omega | (simp only [splice, List.length_append, List.length_set, List.length_replicate, List.length_map, List.length_take, List.length_drop, List.length_cons, List.length_nil] <;> omega)), (by first | omega | (simp only [splice, List.length_append, List.length_set, List.length_replicate, List.length_map, List.length_take, List.length_drop, List.length_cons, List.length_nil] <;> omega)), (by first | omega | (simp only [splice, List.length_append, List.length_set, List.length_replicate, List.length_map, List.length_take, List.length_drop, List.length_cons, List.length_nil] <;> omega)), (all_app hw_l_c11_2 (all_one (wf64 (by omega) (by omega)))), (by first | omega | (simp only [splice, List.length_append, List.length_set, List.length_replicate, List.length_map, List.length_take, List.length_drop, List.length_cons, List.length_nil] <;> omega)), hw_l_c11_4, (by first | omega | (simp only [splice, List.length_append, List.length_set, List.length_replicate, List.length_map, List.length_take, List.length_drop, List.length_cons, List.length_nil] <;> omega)), hw_l_c51_0, (by first | omega | (simp only [splice, List.length_append, List.length_set, List.length_replicate, List.length_map, List.length_take, List.length_drop, List.length_cons, List.length_nil] <;> omega)), hw_l_c10_1⟩
      · refine KC.exit ?_
        refine KC.seq ?_
        refine KC.seq ?_
        refine KC.region ?_
        refine KO.pv (PV.fieldAddr fo26_2_B14 rfl) rfl rfl ?_
        refine KO.load1 ag23_B14 rfl (m51.row (i := 6) rfl) rfl rfl rfl ?_
        refine KO.pv (PV.len un23_B14 rfl) rfl rfl ?_
        refine KO.pv (PV.move rfl) rfl rfl ?_
        refine KO.nil ?_
        refine KC.block ?_
        refine KC.sub (l' := [(1, .pointer (some ⟨H.next, 0, none⟩)), (2, .pointer (some ⟨H1.next, 0, none⟩)), (6, .pointer (some ⟨H21.next, 0, none⟩)), (9, .func (.func 105) #[] #[.pointer (some ⟨H21.next, 0, none⟩)]), (10, .pointer (some ⟨A27.next, 0, none⟩)), (11, .pointer (some ⟨H35.next, 0, none⟩)), (13, .int .i64 ((ci + (n_cL : Int)) + 1)), (161, .slice a_cA n_cA c_cA), (162, .int .i64 (n_cA : Int)), (163, .int .i64 0)]) (.cons rfl (.cons rfl (.cons rfl (.cons rfl (.cons rfl (.cons rfl (.cons rfl (.cons rfl (.cons rfl (.cons rfl .nil)))))))))) ?_
        have m175 := m51.lnilC EP (e := 145) none rfl
        refine KC.loopN (fun kq lq A => ∃ (x163 : Int) (a_c10_2 : Option Addr) (n_c10_2 : Nat) (l_c10_2 : List (Int × Int)) (D_c10_2 : List Nat), kq = ((n_cA : Int) - x163).toNat ∧ lq = [(1, .pointer (some ⟨H.next, 0, none⟩)), (2, .pointer (some ⟨H1.next, 0, none⟩)), (6, .pointer (some ⟨H21.next, 0, none⟩)), (9, .func (.func 105) #[] #[.pointer (some ⟨H21.next, 0, none⟩)]), (10, .pointer (some ⟨A27.next, 0, none⟩)), (11, .pointer (some ⟨H35.next, 0, none⟩)), (13, .int .i64 ((ci + (n_cL : Int)) + 1)), (161, .slice a_cA n_cA c_cA), (162, .int .i64 (n_cA : Int)), (163, .int .i64 x163)] ∧ Mem [] H A [R.row H35.next 46 true [.int .i64 0, .int .i64 1, .slice a_c11_2 n_c11_2 n_c11_2, .slice (some ⟨H33.next, 0, none⟩) 1 1, .slice a_c11_4 n_c11_4 n_c11_4, .slice none 0 0, .int .i64 1], R.row H33.next 24 true [.slice a_c51_0 n_c51_0 n_c51_0], R.row A27.next 26 true [.int .i64 c10_0, .slice a_c10_1 n_c10_1 n_c10_1, .slice a_c10_2 n_c10_2 n_c10_2, .slice none 0 0, .slice none 0 0], R.row H21.next 150 true [.map (some H5.next)], R.mp H5.next (KI .i64) (VI fun x => 0 ≤ x ∧ x ≤ 1002), R.row H1.next 48 true [.int .i64 0, .slice none 0 0, .slice none 0 0, .slice none 0 0, .slice none 0 0, .int .i64 0, .int .i64 0, .slice none 0 0, .slice none 0 0, .slice none 0 0, .slice none 0 0, .int .i64 0], R.row H.next 26 true [.int .i64 ci, .slice a_cL n_cL c_cL, .slice a_cA n_cA c_cA, .slice a_cB n_cB c_cB, .slice a_cC n_cC c_cC], R.lst 3 1 a_c11_2 n_c11_2 (cells (EI .i64) l_c11_2) D_c11_2, R.lst 3 1 a_c11_4 n_c11_4 (cells (EI .i64) l_c11_4) D_c11_4, R.lst 3 1 a_c51_0 n_c51_0 (cells (EI .i64) l_c51_0) D_c51_0, R.lst 147 2 a_c10_1 n_c10_1 (cells EP l_c10_1) D_c10_1, R.lst 145 2 a_c10_2 n_c10_2 (cells EP l_c10_2) D_c10_2] ∧ (0 ≤ x163 ∧ x163 ≤ (n_cA : Int)) ∧ ((n_c10_2 : Int) ≤ x163) ∧ (l_c10_2.length = n_c10_2) ∧ (∀ u ∈ l_c10_2, (EP).wf u)) ?_ (((n_cA : Int) - 0).toNat) ⟨0, none, 0, [], [], rfl, rfl, (m175.pick [1, 2, 3, 4, 5, 6, 7, 8, 9, 10, 11, 0] (by decide) rfl), (by first | omega | assumption | (constructor <;> omega)), (by first | omega | (simp only [splice, List.length_append, List.length_set, List.length_replicate, List.length_map, List.length_take, List.length_drop, List.length_cons, List.length_nil] <;> omega)), (by first | omega | (simp only [splice, List.length_append, List.length_set, List.length_replicate, List.length_map, List.length_take, List.length_drop, List.length_cons, List.length_nil] <;> omega)), (fun _ h => absurd h List.not_mem_nil)⟩
        rintro kq lq A176 ⟨x163, a_c10_2, n_c10_2, l_c10_2, D_c10_2, rfl, rfl, m177, hr33, hb2, hl_l_c10_2, hw_l_c10_2⟩
        refine KC.seq ?_
        refine KC.region ?_
        refine KO.pv (PV.lssD rfl rfl rfl) rfl rfl ?_
        refine KO.nil ?_
        refine KC.seq ?_
        refine KC.condD rfl (fun h178 => ?_) (fun h178 => ?_)
        · refine KC.skip ?_
          refine KC.seq ?_
          refine KC.block ?_
          refine KC.seq ?_
          refine KC.region ?_
          refine KO.pv (PV.move rfl) rfl rfl ?_
          obtain ⟨b179, o179, p179, r179, e179, ha179, hb179, hr179, hx179, hw179, hc179, ht179⟩ := V.at_ h_cA (z := x163) (by omega) (by omega)
          have hc179_0 : r179.cs[o179 + (x163).toNat * 2 + 0]? = some (.int .i64 e179.1) := hc179 0 (by decide)
          have hc179_1 : r179.cs[o179 + (x163).toNat * 2 + 1]? = some (.int .i64 e179.2) := hc179 1 (by decide)
          obtain ⟨hwa179, hwb179⟩ := hw179
          obtain ⟨loa179, hia179⟩ := rangei64 hwa179
          obtain ⟨lob179, hib179⟩ := rangei64 hwb179
          have gp5_0_ha_179 := p5_0_ha _ _ hx179
          refine KO.pv (PV.indexAddrZ un23_B14 sz145_B14 rfl ha179 rfl (by omega) (by omega)) rfl rfl ?_
          refine KO.loadN ag145_B14 sz145_B14 rfl (m177.row0 hb179 hr179) ht179 rfl rfl ?_
          refine KO.allocM m177 zt145_B14 rfl rfl fun H180 m181 => ?_
          refine KO.pv (PV.assign rfl) rfl rfl ?_
          refine KO.storeM m181 (i := 0) rfl sz145_B14 rfl rfl rfl (show 0 + 2 ≤ 2 by decide) (show _ = [.int .i64 e179.1, .int .i64 e179.2] from rfl) rfl fun H182 m183 => ?_
          refine KO.nil ?_
          refine KC.seq ?_
          refine KC.region ?_
          refine KO.load1 ag150_B14 rfl (m183.row (i := 4) rfl) rfl rfl rfl ?_
          refine KO.pv (PV.move rfl) rfl rfl ?_
          refine KO.pv (PV.move rfl) rfl rfl ?_
          refine KO.pv (PV.add rfl rfl (wrap64 (by omega) (by omega))) rfl rfl ?_
          refine KO.lookup2 m183 (i := 5) rfl KI.keys mt150_B14 (kk150_B14 _) zv150_B14 rfl rfl ⟨_, rfl⟩ rfl rfl fun v184 y184 hv184 hz184 => ?_
          obtain ⟨x184, rfl, hx184⟩ : ∃ x : Int, v184 = .int .i64 x ∧ (0 ≤ x ∧ x ≤ 1002) := VI.got hv184 hz184 (by first | omega | (constructor <;> omega))
          refine KO.pv (PV.move rfl) rfl rfl ?_
          refine KO.pv (PV.extract rfl rfl) rfl rfl ?_
          refine KO.pv (PV.extract rfl rfl) rfl rfl ?_
          refine KO.pv (PV.assign rfl) rfl rfl ?_
          refine KO.pv (PV.assign rfl) rfl rfl ?_
          refine KO.nil ?_
          refine KC.seq ?_
          refine KC.region ?_
          refine KO.pv (PV.move rfl) rfl rfl ?_
          refine KO.nil ?_
          refine KC.cond rfl (fun h185 => ?_) (fun h185 => ?_)
          · subst h185
            refine KC.drawG (n := 15) (anc := [0, 1, 0, 0, 8, 28, 0, 0, 128, 508, 1020, 2044, 4095, 8191, 16383]) (hv := [5, 9, 12, 14]) (ord := [2, 3, 4, 5, 6, 7, 8, 9, 0, 1, 10, 11, 12, 13, 14]) (by kernel_rfl) (by kernel_rfl) (by kernel_rfl) (by kernel_rfl) (by kernel_rfl) fun H186 n187 g188 => ?_
            have m189 := m183.room n187 g188 [11] (by decide) (by decide)
            refine KD.pv 4 (PV.move rfl) rfl rfl rfl (by kernel_rfl) rfl rfl rfl ?_
            refine KD.pv 12 (PV.fieldAddr fo145_0_B14 rfl) rfl rfl rfl (by kernel_rfl) rfl rfl rfl ?_
            refine KD.load 28 rfl (m189.row (i := 1) rfl) (by rw [read1 ag3_B14]; exact rfl) (pastGo (k := 1) (l := [H186]) (by kernel_rfl) rfl (pastCons ⟨_, (m189.row (i := 1) rfl), (by rw [read1 ag3_B14]; exact rfl)⟩ pastNil)) veq_int rfl (by kernel_rfl) rfl rfl rfl ?_
            have m190 : Mem [] H H186 [R.row H21.next 150 true [.map (some H5.next)], R.mp H5.next (KI .i64) (VI fun x => 0 ≤ x ∧ x ≤ 1002), R.free (H182.next + 11), R.row A176.next 145 true [.int .i64 e179.1, .int .i64 e179.2], R.row H35.next 46 true [.int .i64 0, .int .i64 1, .slice a_c11_2 n_c11_2 n_c11_2, .slice (some ⟨H33.next, 0, none⟩) 1 1, .slice a_c11_4 n_c11_4 n_c11_4, .slice none 0 0, .int .i64 1], R.row H33.next 24 true [.slice a_c51_0 n_c51_0 n_c51_0], R.row A27.next 26 true [.int .i64 c10_0, .slice a_c10_1 n_c10_1 n_c10_1, .slice a_c10_2 n_c10_2 n_c10_2, .slice none 0 0, .slice none 0 0], R.row H1.next 48 true [.int .i64 0, .slice none 0 0, .slice none 0 0, .slice none 0 0, .slice none 0 0, .int .i64 0, .int .i64 0, .slice none 0 0, .slice none 0 0, .slice none 0 0, .slice none 0 0, .int .i64 0], R.row H.next 26 true [.int .i64 ci, .slice a_cL n_cL c_cL, .slice a_cA n_cA c_cA, .slice a_cB n_cB c_cB, .slice a_cC n_cC c_cC], R.lst 3 1 a_c11_2 n_c11_2 (cells (EI .i64) l_c11_2) D_c11_2, R.lst 3 1 a_c11_4 n_c11_4 (cells (EI .i64) l_c11_4) D_c11_4, R.lst 3 1 a_c51_0 n_c51_0 (cells (EI .i64) l_c51_0) D_c51_0, R.lst 147 2 a_c10_1 n_c10_1 (cells EP l_c10_1) D_c10_1, R.lst 145 2 a_c10_2 n_c10_2 (cells EP l_c10_2) D_c10_2] := m189.pick [5, 6, 0, 1, 2, 3, 4, 7, 8, 9, 10, 11, 12, 13] (by decide) rfl
            refine KD.callV 60 rfl rfl rfl rfl (by kernel_rfl) rfl rfl rfl (cone_of H186 e179.1 H21.next H5.next (wrap64 (by omega) (by omega)) (m190.ownK (Rs := [R.row H21.next 150 true [.map (some H5.next)], R.mp H5.next (KI .i64) (VI fun x => 0 ≤ x ∧ x ≤ 1002)])) (by first | omega | assumption)) fun v191 H191 q191 => ?_
            obtain ⟨z191, hv191, mc191, p191_0⟩ := q191
            dsimp only at hv191 mc191
            subst hv191
            have m192 := m190.seqK (Rs := [R.row H21.next 150 true [.map (some H5.next)], R.mp H5.next (KI .i64) (VI fun x => 0 ≤ x ∧ x ≤ 1002)]) mc191
            refine KD.pv 124 (PV.move rfl) rfl rfl rfl (by kernel_rfl) rfl rfl rfl ?_
            refine KD.pv 252 (PV.fieldAddr fo145_1_B14 rfl) rfl rfl rfl (by kernel_rfl) rfl rfl rfl ?_
            refine KD.load 508 rfl (m192.row (i := 3) rfl) (by rw [read1 ag3_B14]; exact rfl) (pastGo (k := 2) (l := [H191, H186]) (by kernel_rfl) rfl (pastCons ⟨_, (m192.row (i := 3) rfl), (by rw [read1 ag3_B14]; exact rfl)⟩ (pastCons ⟨_, (m189.row (i := 1) rfl), (by rw [read1 ag3_B14]; exact rfl)⟩ pastNil))) veq_int rfl (by kernel_rfl) rfl rfl rfl ?_
            have m193 : Mem [] H H191 [R.row H21.next 150 true [.map (some H5.next)], R.mp H5.next (KI .i64) (VI fun x => 0 ≤ x ∧ x ≤ 1002), R.free (H182.next + 11), R.row A176.next 145 true [.int .i64 e179.1, .int .i64 e179.2], R.row H35.next 46 true [.int .i64 0, .int .i64 1, .slice a_c11_2 n_c11_2 n_c11_2, .slice (some ⟨H33.next, 0, none⟩) 1 1, .slice a_c11_4 n_c11_4 n_c11_4, .slice none 0 0, .int .i64 1], R.row H33.next 24 true [.slice a_c51_0 n_c51_0 n_c51_0], R.row A27.next 26 true [.int .i64 c10_0, .slice a_c10_1 n_c10_1 n_c10_1, .slice a_c10_2 n_c10_2 n_c10_2, .slice none 0 0, .slice none 0 0], R.row H1.next 48 true [.int .i64 0, .slice none 0 0, .slice none 0 0, .slice none 0 0, .slice none 0 0, .int .i64 0, .int .i64 0, .slice none 0 0, .slice none 0 0, .slice none 0 0, .slice none 0 0, .int .i64 0], R.row H.next 26 true [.int .i64 ci, .slice a_cL n_cL c_cL, .slice a_cA n_cA c_cA, .slice a_cB n_cB c_cB, .slice a_cC n_cC c_cC], R.lst 3 1 a_c11_2 n_c11_2 (cells (EI .i64) l_c11_2) D_c11_2, R.lst 3 1 a_c11_4 n_c11_4 (cells (EI .i64) l_c11_4) D_c11_4, R.lst 3 1 a_c51_0 n_c51_0 (cells (EI .i64) l_c51_0) D_c51_0, R.lst 147 2 a_c10_1 n_c10_1 (cells EP l_c10_1) D_c10_1, R.lst 145 2 a_c10_2 n_c10_2 (cells EP l_c10_2) D_c10_2] := m192.pick [0, 1, 2, 3, 4, 5, 6, 7, 8, 9, 10, 11, 12, 13] (by decide) rfl
            refine KD.callV 1020 rfl rfl rfl rfl (by kernel_rfl) rfl rfl rfl (cone_of H191 e179.2 H21.next H5.next (wrap64 (by omega) (by omega)) (m193.ownK (Rs := [R.row H21.next 150 true [.map (some H5.next)], R.mp H5.next (KI .i64) (VI fun x => 0 ≤ x ∧ x ≤ 1002)])) (by first | omega | assumption)) fun v194 H194 q194 => ?_
            obtain ⟨z194, hv194, mc194, p194_0⟩ := q194
            dsimp only at hv194 mc194
            subst hv194
            have m195 := m193.seqK (Rs := [R.row H21.next 150 true [.map (some H5.next)], R.mp H5.next (KI .i64) (VI fun x => 0 ≤ x ∧ x ≤ 1002)]) mc194
            refine KD.pv 1021 (PV.fieldAddr fo26_2_B14 rfl) rfl rfl rfl (by kernel_rfl) rfl rfl rfl ?_
            refine KD.load 1023 rfl (m195.row (i := 6) rfl) (by rw [read1 ag23_B14]; exact rfl) (pastGo (k := 3) (l := [H194, H191, H186]) (by kernel_rfl) rfl (pastCons ⟨_, (m195.row (i := 6) rfl), (by rw [read1 ag23_B14]; exact rfl)⟩ (pastCons ⟨_, (m192.row (i := 6) rfl), (by rw [read1 ag23_B14]; exact rfl)⟩ (pastCons ⟨_, (m189.row (i := 4) rfl), (by rw [read1 ag23_B14]; exact rfl)⟩ pastNil)))) veq_sl rfl (by kernel_rfl) rfl rfl rfl ?_
            refine KD.pv 2047 (PV.build rfl (bl145_0i64_1i64_B14 _ _)) rfl rfl rfl (by kernel_rfl) rfl rfl rfl ?_
            refine KD.buildSliceM 4095 m195 (j := 2) rfl el23_B14 ez145_B14 rfl rfl (show _ = some [.int .i64 z191, .int .i64 z194] from rfl) rfl (by kernel_rfl) rfl rfl rfl fun H196 m197 => ?_
            refine KD.appendC 8191 (C := EP) m197 (j := 13) rfl el23_B14 ez145_B14 sb145_B14 un23_B14 rfl rfl (newElems_row1 (C := EP) (y := (z191, z194)) (m197.row (i := 2) rfl) rfl) rfl (by first | omega | (simp only [splice, List.length_append, List.length_set, List.length_replicate, List.length_map, List.length_take, List.length_drop, List.length_cons, List.length_nil] <;> omega)) rfl (by kernel_rfl) rfl rfl rfl fun a199 D200 H198 m201 => ?_
            refine KD.pv 16383 (PV.fieldAddr fo26_2_B14 rfl) rfl rfl rfl (by kernel_rfl) rfl rfl rfl ?_
            refine KD.storeM 32767 m201 (j := 6) rfl sz23_B14 rfl rfl rfl (show 2 + 1 ≤ 5 by decide) (show _ = [.int .i64 c10_0, .slice a_c10_1 n_c10_1 n_c10_1, .slice a199 (n_c10_2 + 1) (n_c10_2 + 1), .slice none 0 0, .slice none 0 0] from rfl) rfl (by kernel_rfl) rfl rfl fun H202 m203 => ?_
            refine KD.nil ⟨rfl, ?_⟩
            refine KC.region ?_
            refine KO.pv (PV.add rfl rfl (wrap64 (by omega) (by omega))) rfl rfl ?_
            refine KO.pv (PV.move rfl) rfl rfl ?_
            refine KO.nil ?_
            exact ⟨_, _, (by omega), (.cons rfl (.cons rfl (.cons rfl (.cons rfl (.cons rfl (.cons rfl (.cons rfl (.cons rfl (.cons rfl (.cons rfl .nil)))))))))), (x163 + 1), a199, (n_c10_2 + 1), (l_c10_2 ++ [(z191, z194)]), D200, rfl, rfl, (m203.pick [4, 5, 6, 0, 1, 7, 8, 9, 10, 11, 12, 13] (by decide) rfl), (by first | omega | assumption | (constructor <;> omega)), (by first | omega | (simp only [splice, List.length_append, List.length_set, List.length_replicate, List.length_map, List.length_take, List.length_drop, List.length_cons, List.length_nil] <;> omega)), (by first | omega | (simp only [splice, List.length_append, List.length_set, List.length_replicate, List.length_map, List.length_take, List.length_drop, List.length_cons, List.length_nil] <;> omega)), (all_app hw_l_c10_2 (all_one (wfP ⟨by omega, by omega⟩ ⟨by omega, by omega⟩)))⟩
          · subst h185
            refine KC.skip ?_
            refine KC.region ?_
            refine KO.pv (PV.add rfl rfl (wrap64 (by omega) (by omega))) rfl rfl ?_
            refine KO.pv (PV.move rfl) rfl rfl ?_
            refine KO.nil ?_
            exact ⟨_, _, (by omega), (.cons rfl (.cons rfl (.cons rfl (.cons rfl (.cons rfl (.cons rfl (.cons rfl (.cons rfl (.cons rfl (.cons rfl .nil)))))))))), (x163 + 1), a_c10_2, n_c10_2, l_c10_2, D_c10_2, rfl, rfl, (m183.pick [1, 2, 3, 4, 5, 6, 7, 8, 9, 10, 11, 12] (by decide) rfl), (by first | omega | assumption | (constructor <;> omega)), (by first | omega | (simp only [splice, List.length_append, List.length_set, List.length_replicate, List.length_map, List.length_take, List.length_drop, List.length_cons, List.length_nil] <;> omega)), (by first | omega | (simp only [splice, List.length_append, List.length_set, List.length_replicate, List.length_map, List.length_take, List.length_drop, List.length_cons, List.length_nil] <;> omega)), hw_l_c10_2⟩
        · refine KC.exit ?_
          refine KC.seq ?_
          refine KC.seq ?_
          refine KC.region ?_
          refine KO.pv (PV.fieldAddr fo26_3_B14 rfl) rfl rfl ?_
          refine KO.load1 ag24_B14 rfl (m177.row (i := 6) rfl) rfl rfl rfl ?_
          refine KO.pv (PV.len un24_B14 rfl) rfl rfl ?_
          refine KO.pv (PV.move rfl) rfl rfl ?_
          refine KO.nil ?_
          refine KC.block ?_
          refine KC.sub (l' := [(1, .pointer (some ⟨H.next, 0, none⟩)), (2, .pointer (some ⟨H1.next, 0, none⟩)), (9, .func (.func 105) #[] #[.pointer (some ⟨H21.next, 0, none⟩)]), (10, .pointer (some ⟨A27.next, 0, none⟩)), (11, .pointer (some ⟨H35.next, 0, none⟩)), (193, .slice a_cB n_cB c_cB), (194, .int .i64 (n_cB : Int)), (195, .int .i64 0)]) (.cons rfl (.cons rfl (.cons rfl (.cons rfl (.cons rfl (.cons rfl (.cons rfl (.cons rfl .nil)))))))) ?_
          have m204 := m177.lnilC (EI .i64) (e := 3) none rfl
          refine KC.loopN (fun kq lq A => ∃ (x195 : Int) (a_c10_3 : Option Addr) (n_c10_3 : Nat) (l_c10_3 : List Int) (D_c10_3 : List Nat), kq = ((n_cB : Int) - x195).toNat ∧ lq = [(1, .pointer (some ⟨H.next, 0, none⟩)), (2, .pointer (some ⟨H1.next, 0, none⟩)), (9, .func (.func 105) #[] #[.pointer (some ⟨H21.next, 0, none⟩)]), (10, .pointer (some ⟨A27.next, 0, none⟩)), (11, .pointer (some ⟨H35.next, 0, none⟩)), (193, .slice a_cB n_cB c_cB), (194, .int .i64 (n_cB : Int)), (195, .int .i64 x195)] ∧ Mem [] H A [R.row H35.next 46 true [.int .i64 0, .int .i64 1, .slice a_c11_2 n_c11_2 n_c11_2, .slice (some ⟨H33.next, 0, none⟩) 1 1, .slice a_c11_4 n_c11_4 n_c11_4, .slice none 0 0, .int .i64 1], R.row H33.next 24 true [.slice a_c51_0 n_c51_0 n_c51_0], R.row A27.next 26 true [.int .i64 c10_0, .slice a_c10_1 n_c10_1 n_c10_1, .slice a_c10_2 n_c10_2 n_c10_2, .slice a_c10_3 n_c10_3 n_c10_3, .slice none 0 0], R.row H21.next 150 true [.map (some H5.next)], R.mp H5.next (KI .i64) (VI fun x => 0 ≤ x ∧ x ≤ 1002), R.row H1.next 48 true [.int .i64 0, .slice none 0 0, .slice none 0 0, .slice none 0 0, .slice none 0 0, .int .i64 0, .int .i64 0, .slice none 0 0, .slice none 0 0, .slice none 0 0, .slice none 0 0, .int .i64 0], R.row H.next 26 true [.int .i64 ci, .slice a_cL n_cL c_cL, .slice a_cA n_cA c_cA, .slice a_cB n_cB c_cB, .slice a_cC n_cC c_cC], R.lst 3 1 a_c11_2 n_c11_2 (cells (EI .i64) l_c11_2) D_c11_2, R.lst 3 1 a_c11_4 n_c11_4 (cells (EI .i64) l_c11_4) D_c11_4, R.lst 3 1 a_c51_0 n_c51_0 (cells (EI .i64) l_c51_0) D_c51_0, R.lst 147 2 a_c10_1 n_c10_1 (cells EP l_c10_1) D_c10_1, R.lst 145 2 a_c10_2 n_c10_2 (cells EP l_c10_2) D_c10_2, R.lst 3 1 a_c10_3 n_c10_3 (cells (EI .i64) l_c10_3) D_c10_3] ∧ (0 ≤ x195 ∧ x195 ≤ (n_cB : Int)) ∧ ((n_c10_3 : Int) ≤ x195) ∧ (l_c10_3.length = n_c10_3) ∧ (∀ u ∈ l_c10_3, (EI .i64).wf u)) ?_ (((n_cB : Int) - 0).toNat) ⟨0, none, 0, [], [], rfl, rfl, (m204.pick [1, 2, 3, 4, 5, 6, 7, 8, 9, 10, 11, 12, 0] (by decide) rfl), (by first | omega | assumption | (constructor <;> omega)), (by first | omega | (simp only [splice, List.length_append, List.length_set, List.length_replicate, List.length_map, List.length_take, List.length_drop, List.length_cons, List.length_nil] <;> omega)), (by first | omega | (simp only [splice, List.length_append, List.length_set, List.length_replicate, List.length_map, List.length_take, List.length_drop, List.length_cons, List.length_nil] <;> omega)), (fun _ h => absurd h List.not_mem_nil)⟩
          rintro kq lq A205 ⟨x195, a_c10_3, n_c10_3, l_c10_3, D_c10_3, rfl, rfl, m206, hr40, hb3, hl_l_c10_3, hw_l_c10_3⟩
          refine KC.seq ?_
          refine KC.region ?_
          refine KO.pv (PV.lssD rfl rfl rfl) rfl rfl ?_
          refine KO.nil ?_
          refine KC.seq ?_
          refine KC.condD rfl (fun h207 => ?_) (fun h207 => ?_)
          · refine KC.skip ?_
            refine KC.seq ?_
            refine KC.block ?_
            refine KC.seq ?_
            refine KC.region ?_
            obtain ⟨b208, o208, p208, r208, e208, ha208, hb208, hr208, hx208, hw208, hc208, ht208⟩ := V.at_ h_cB (z := x195) (by omega) (by omega)
            have hc208_0 : r208.cs[o208 + (x195).toNat * 1 + 0]? = some (.int .i64 e208) := hc208 0 (by decide)
            have hw208 : IntKind.i64.wrap e208 = e208 := hw208
            obtain ⟨lo208, hi208⟩ := rangei64 hw208
            have gp5_0_hb_208 := p5_0_hb _ (List.mem_of_getElem? hx208)
            refine KO.pv (PV.indexAddrZ un24_B14 sz3_B14 rfl ha208 rfl (by omega) (by omega)) rfl rfl ?_
            refine KO.load1 ag3_B14 rfl (m206.row0 hb208 hr208) hc208_0 rfl rfl ?_
            refine KO.pv (PV.assign rfl) rfl rfl ?_
            refine KO.nil ?_
            refine KC.drawG (n := 9) (anc := [0, 1, 0, 0, 12, 28, 63, 127, 255]) (hv := [4, 6, 8]) (ord := [2, 3, 4, 0, 1, 5, 6, 7, 8]) (by kernel_rfl) (by kernel_rfl) (by kernel_rfl) (by kernel_rfl) (by kernel_rfl) fun H209 n210 g211 => ?_
            have m212 := m206.room n210 g211 [5] (by decide) (by decide)
            refine KD.pv 4 (PV.move rfl) rfl rfl rfl (by kernel_rfl) rfl rfl rfl ?_
            refine KD.pv 12 (PV.move rfl) rfl rfl rfl (by kernel_rfl) rfl rfl rfl ?_
            have m213 : Mem [] H H209 [R.row H21.next 150 true [.map (some H5.next)], R.mp H5.next (KI .i64) (VI fun x => 0 ≤ x ∧ x ≤ 1002), R.free (A205.next + 5), R.row H35.next 46 true [.int .i64 0, .int .i64 1, .slice a_c11_2 n_c11_2 n_c11_2, .slice (some ⟨H33.next, 0, none⟩) 1 1, .slice a_c11_4 n_c11_4 n_c11_4, .slice none 0 0, .int .i64 1], R.row H33.next 24 true [.slice a_c51_0 n_c51_0 n_c51_0], R.row A27.next 26 true [.int .i64 c10_0, .slice a_c10_1 n_c10_1 n_c10_1, .slice a_c10_2 n_c10_2 n_c10_2, .slice a_c10_3 n_c10_3 n_c10_3, .slice none 0 0], R.row H1.next 48 true [.int .i64 0, .slice none 0 0, .slice none 0 0, .slice none 0 0, .slice none 0 0, .int .i64 0, .int .i64 0, .slice none 0 0, .slice none 0 0, .slice none 0 0, .slice none 0 0, .int .i64 0], R.row H.next 26 true [.int .i64 ci, .slice a_cL n_cL c_cL, .slice a_cA n_cA c_cA, .slice a_cB n_cB c_cB, .slice a_cC n_cC c_cC], R.lst 3 1 a_c11_2 n_c11_2 (cells (EI .i64) l_c11_2) D_c11_2, R.lst 3 1 a_c11_4 n_c11_4 (cells (EI .i64) l_c11_4) D_c11_4, R.lst 3 1 a_c51_0 n_c51_0 (cells (EI .i64) l_c51_0) D_c51_0, R.lst 147 2 a_c10_1 n_c10_1 (cells EP l_c10_1) D_c10_1, R.lst 145 2 a_c10_2 n_c10_2 (cells EP l_c10_2) D_c10_2, R.lst 3 1 a_c10_3 n_c10_3 (cells (EI .i64) l_c10_3) D_c10_3] := m212.pick [4, 5, 0, 1, 2, 3, 6, 7, 8, 9, 10, 11, 12, 13] (by decide) rfl
            refine KD.callV 28 rfl rfl rfl rfl (by kernel_rfl) rfl rfl rfl (cone_of H209 e208 H21.next H5.next (wrap64 (by omega) (by omega)) (m213.ownK (Rs := [R.row H21.next 150 true [.map (some H5.next)], R.mp H5.next (KI .i64) (VI fun x => 0 ≤ x ∧ x ≤ 1002)])) (by first | omega | assumption)) fun v214 H214 q214 => ?_
            obtain ⟨z214, hv214, mc214, p214_0⟩ := q214
            dsimp only at hv214 mc214
            subst hv214
            have m215 := m213.seqK (Rs := [R.row H21.next 150 true [.map (some H5.next)], R.mp H5.next (KI .i64) (VI fun x => 0 ≤ x ∧ x ≤ 1002)]) mc214
            refine KD.pv 29 (PV.fieldAddr fo26_3_B14 rfl) rfl rfl rfl (by kernel_rfl) rfl rfl rfl ?_
            refine KD.load 31 rfl (m215.row (i := 5) rfl) (by rw [read1 ag24_B14]; exact rfl) (pastGo (k := 2) (l := [H214, H209]) (by kernel_rfl) rfl (pastCons ⟨_, (m215.row (i := 5) rfl), (by rw [read1 ag24_B14]; exact rfl)⟩ (pastCons ⟨_, (m212.row (i := 3) rfl), (by rw [read1 ag24_B14]; exact rfl)⟩ pastNil))) veq_sl rfl (by kernel_rfl) rfl rfl rfl ?_
            refine KD.buildSliceM 63 m215 (j := 2) rfl el24_B14 ez3_B14 rfl rfl (show _ = some [.int .i64 z214] from rfl) rfl (by kernel_rfl) rfl rfl rfl fun H216 m217 => ?_
            refine KD.appendC 127 (C := (EI .i64)) m217 (j := 13) rfl el24_B14 ez3_B14 sb3_B14 un24_B14 rfl rfl (newElems_row1 (C := (EI .i64)) (y := z214) (m217.row (i := 2) rfl) rfl) rfl (by first | omega | (simp only [splice, List.length_append, List.length_set, List.length_replicate, List.length_map, List.length_take, List.length_drop, List.length_cons, List.length_nil] <;> omega)) rfl (by kernel_rfl) rfl rfl rfl fun a219 D220 H218 m221 => ?_
            refine KD.pv 255 (PV.fieldAddr fo26_3_B14 rfl) rfl rfl rfl (by kernel_rfl) rfl rfl rfl ?_
            refine KD.storeM 511 m221 (j := 5) rfl sz24_B14 rfl rfl rfl (show 3 + 1 ≤ 5 by decide) (show _ = [.int .i64 c10_0, .slice a_c10_1 n_c10_1 n_c10_1, .slice a_c10_2 n_c10_2 n_c10_2, .slice a219 (n_c10_3 + 1) (n_c10_3 + 1), .slice none 0 0] from rfl) rfl (by kernel_rfl) rfl rfl fun H222 m223 => ?_
            refine KD.nil ⟨rfl, ?_⟩
            refine KC.region ?_
            refine KO.pv (PV.add rfl rfl (wrap64 (by omega) (by omega))) rfl rfl ?_
            refine KO.pv (PV.move rfl) rfl rfl ?_
            refine KO.nil ?_
            exact ⟨_, _, (by omega), (.cons rfl (.cons rfl (.cons rfl (.cons rfl (.cons rfl (.cons rfl (.cons rfl (.cons rfl .nil)))))))), (x195 + 1), a219, (n_c10_3 + 1), (l_c10_3 ++ [z214]), D220, rfl, rfl, (m223.pick [3, 4, 5, 0, 1, 6, 7, 8, 9, 10, 11, 12, 13] (by decide) rfl), (by first | omega | assumption | (constructor <;> omega)), (by first | omega | (simp only [splice, List.length_append, List.length_set, List.length_replicate, List.length_map, List.length_take, List.length_drop, List.length_cons, List.length_nil] <;> omega)), (by first | omega | (simp only [splice, List.length_append, List.length_set, List.length_replicate, List.length_map, List.length_take, List.length_drop, List.length_cons, List.length_nil] <;> omega)), (all_app hw_l_c10_3 (all_one (wf64 (by omega) (by omega))))⟩
          · refine KC.exit ?_
            refine KC.seq ?_
            refine KC.seq ?_
            refine KC.region ?_
            refine KO.pv (PV.fieldAddr fo26_4_B14 rfl) rfl rfl ?_
            refine KO.load1 ag24_B14 rfl (m206.row (i := 6) rfl) rfl rfl rfl ?_
            refine KO.pv (PV.len un24_B14 rfl) rfl rfl ?_
            refine KO.pv (PV.move rfl) rfl rfl ?_
            refine KO.nil ?_
            refine KC.block ?_
            refine KC.sub (l' := [(2, .pointer (some ⟨H1.next, 0, none⟩)), (9, .func (.func 105) #[] #[.pointer (some ⟨H21.next, 0, none⟩)]), (10, .pointer (some ⟨A27.next, 0, none⟩)), (11, .pointer (some ⟨H35.next, 0, none⟩)), (209, .slice a_cC n_cC c_cC), (210, .int .i64 (n_cC : Int)), (211, .int .i64 0)]) (.cons rfl (.cons rfl (.cons rfl (.cons rfl (.cons rfl (.cons rfl (.cons rfl .nil))))))) ?_
            have m224 := m206.lnilC (EI .i64) (e := 3) none rfl
            refine KC.loopN (fun kq lq A => ∃ (x211 : Int) (a_c10_4 : Option Addr) (n_c10_4 : Nat) (l_c10_4 : List Int) (D_c10_4 : List Nat), kq = ((n_cC : Int) - x211).toNat ∧ lq = [(2, .pointer (some ⟨H1.next, 0, none⟩)), (9, .func (.func 105) #[] #[.pointer (some ⟨H21.next, 0, none⟩)]), (10, .pointer (some ⟨A27.next, 0, none⟩)), (11, .pointer (some ⟨H35.next, 0, none⟩)), (209, .slice a_cC n_cC c_cC), (210, .int .i64 (n_cC : Int)), (211, .int .i64 x211)] ∧ Mem [] H A [R.row H35.next 46 true [.int .i64 0, .int .i64 1, .slice a_c11_2 n_c11_2 n_c11_2, .slice (some ⟨H33.next, 0, none⟩) 1 1, .slice a_c11_4 n_c11_4 n_c11_4, .slice none 0 0, .int .i64 1], R.row H33.next 24 true [.slice a_c51_0 n_c51_0 n_c51_0], R.row A27.next 26 true [.int .i64 c10_0, .slice a_c10_1 n_c10_1 n_c10_1, .slice a_c10_2 n_c10_2 n_c10_2, .slice a_c10_3 n_c10_3 n_c10_3, .slice a_c10_4 n_c10_4 n_c10_4], R.row H21.next 150 true [.map (some H5.next)], R.mp H5.next (KI .i64) (VI fun x => 0 ≤ x ∧ x ≤ 1002), R.row H1.next 48 true [.int .i64 0, .slice none 0 0, .slice none 0 0, .slice none 0 0, .slice none 0 0, .int .i64 0, .int .i64 0, .slice none 0 0, .slice none 0 0, .slice none 0 0, .slice none 0 0, .int .i64 0], R.lst 3 1 a_c11_2 n_c11_2 (cells (EI .i64) l_c11_2) D_c11_2, R.lst 3 1 a_c11_4 n_c11_4 (cells (EI .i64) l_c11_4) D_c11_4, R.lst 3 1 a_c51_0 n_c51_0 (cells (EI .i64) l_c51_0) D_c51_0, R.lst 147 2 a_c10_1 n_c10_1 (cells EP l_c10_1) D_c10_1, R.lst 145 2 a_c10_2 n_c10_2 (cells EP l_c10_2) D_c10_2, R.lst 3 1 a_c10_3 n_c10_3 (cells (EI .i64) l_c10_3) D_c10_3, R.lst 3 1 a_c10_4 n_c10_4 (cells (EI .i64) l_c10_4) D_c10_4] ∧ (0 ≤ x211 ∧ x211 ≤ (n_cC : Int)) ∧ ((n_c10_4 : Int) ≤ x211) ∧ (l_c10_4.length = n_c10_4) ∧ (∀ u ∈ l_c10_4, (EI .i64).wf u)) ?_ (((n_cC : Int) - 0).toNat) ⟨0, none, 0, [], [], rfl, rfl, (m224.pick [1, 2, 3, 4, 5, 6, 8, 9, 10, 11, 12, 13, 0] (by decide) rfl), (by first | omega | assumption | (constructor <;> omega)), (by first | omega | (simp only [splice, List.length_append, List.length_set, List.length_replicate, List.length_map, List.length_take, List.length_drop, List.length_cons, List.length_nil] <;> omega)), (by first | omega | (simp only [splice, List.length_append, List.length_set, List.length_replicate, List.length_map, List.length_take, List.length_drop, List.length_cons, List.length_nil] <;> omega)), (fun _ h => absurd h List.not_mem_nil)⟩
            rintro kq lq A225 ⟨x211, a_c10_4, n_c10_4, l_c10_4, D_c10_4, rfl, rfl, m226, hr45, hb4, hl_l_c10_4, hw_l_c10_4⟩
            refine KC.seq ?_
            refine KC.region ?_
            refine KO.pv (PV.lssD rfl rfl rfl) rfl rfl ?_
            refine KO.nil ?_
            refine KC.seq ?_
            refine KC.condD rfl (fun h227 => ?_) (fun h227 => ?_)
            · refine KC.skip ?_
              refine KC.seq ?_
              refine KC.block ?_
              refine KC.seq ?_
              refine KC.region ?_
              obtain ⟨b228, o228, p228, r228, e228, ha228, hb228, hr228, hx228, hw228, hc228, ht228⟩ := V.at_ h_cC (z := x211) (by omega) (by omega)
              have hc228_0 : r228.cs[o228 + (x211).toNat * 1 + 0]? = some (.int .i64 e228) := hc228 0 (by decide)
              have hw228 : IntKind.i64.wrap e228 = e228 := hw228
              obtain ⟨lo228, hi228⟩ := rangei64 hw228
              have gp5_0_hc_228 := p5_0_hc _ (List.mem_of_getElem? hx228)
              refine KO.pv (PV.indexAddrZ un24_B14 sz3_B14 rfl ha228 rfl (by omega) (by omega)) rfl rfl ?_
              refine KO.load1 ag3_B14 rfl (m226.row0 hb228 hr228) hc228_0 rfl rfl ?_
              refine KO.pv (PV.assign rfl) rfl rfl ?_
              refine KO.nil ?_
              refine KC.drawG (n := 9) (anc := [0, 1, 0, 0, 12, 28, 63, 127, 255]) (hv := [4, 6, 8]) (ord := [2, 3, 4, 0, 1, 5, 6, 7, 8]) (by kernel_rfl) (by kernel_rfl) (by kernel_rfl) (by kernel_rfl) (by kernel_rfl) fun H229 n230 g231 => ?_
              have m232 := m226.room n230 g231 [5] (by decide) (by decide)
              refine KD.pv 4 (PV.move rfl) rfl rfl rfl (by kernel_rfl) rfl rfl rfl ?_
              refine KD.pv 12 (PV.move rfl) rfl rfl rfl (by kernel_rfl) rfl rfl rfl ?_
              have m233 : Mem [] H H229 [R.row H21.next 150 true [.map (some H5.next)], R.mp H5.next (KI .i64) (VI fun x => 0 ≤ x ∧ x ≤ 1002), R.free (A225.next + 5), R.row H35.next 46 true [.int .i64 0, .int .i64 1, .slice a_c11_2 n_c11_2 n_c11_2, .slice (some ⟨H33.next, 0, none⟩) 1 1, .slice a_c11_4 n_c11_4 n_c11_4, .slice none 0 0, .int .i64 1], R.row H33.next 24 true [.slice a_c51_0 n_c51_0 n_c51_0], R.row A27.next 26 true [.int .i64 c10_0, .slice a_c10_1 n_c10_1 n_c10_1, .slice a_c10_2 n_c10_2 n_c10_2, .slice a_c10_3 n_c10_3 n_c10_3, .slice a_c10_4 n_c10_4 n_c10_4], R.row H1.next 48 true [.int .i64 0, .slice none 0 0, .slice none 0 0, .slice none 0 0, .slice none 0 0, .int .i64 0, .int .i64 0, .slice none 0 0, .slice none 0 0, .slice none 0 0, .slice none 0 0, .int .i64 0], R.lst 3 1 a_c11_2 n_c11_2 (cells (EI .i64) l_c11_2) D_c11_2, R.lst 3 1 a_c11_4 n_c11_4 (cells (EI .i64) l_c11_4) D_c11_4, R.lst 3 1 a_c51_0 n_c51_0 (cells (EI .i64) l_c51_0) D_c51_0, R.lst 147 2 a_c10_1 n_c10_1 (cells EP l_c10_1) D_c10_1, R.lst 145 2 a_c10_2 n_c10_2 (cells EP l_c10_2) D_c10_2, R.lst 3 1 a_c10_3 n_c10_3 (cells (EI .i64) l_c10_3) D_c10_3, R.lst 3 1 a_c10_4 n_c10_4 (cells (EI .i64) l_c10_4) D_c10_4] := m232.pick [4, 5, 0, 1, 2, 3, 6, 7, 8, 9, 10, 11, 12, 13] (by decide) rfl
              refine KD.callV 28 rfl rfl rfl rfl (by kernel_rfl) rfl rfl rfl (cone_of H229 e228 H21.next H5.next (wrap64 (by omega) (by omega)) (m233.ownK (Rs := [R.row H21.next 150 true [.map (some H5.next)], R.mp H5.next (KI .i64) (VI fun x => 0 ≤ x ∧ x ≤ 1002)])) (by first | omega | assumption)) fun v234 H234 q234 => ?_
              obtain ⟨z234, hv234, mc234, p234_0⟩ := q234
              dsimp only at hv234 mc234
              subst hv234
              have m235 := m233.seqK (Rs := [R.row H21.next 150 true [.map (some H5.next)], R.mp H5.next (KI .i64) (VI fun x => 0 ≤ x ∧ x ≤ 1002)]) mc234
              refine KD.pv 29 (PV.fieldAddr fo26_4_B14 rfl) rfl rfl rfl (by kernel_rfl) rfl rfl rfl ?_
              refine KD.load 31 rfl (m235.row (i := 5) rfl) (by rw [read1 ag24_B14]; exact rfl) (pastGo (k := 2) (l := [H234, H229]) (by kernel_rfl) rfl (pastCons ⟨_, (m235.row (i := 5) rfl), (by rw [read1 ag24_B14]; exact rfl)⟩ (pastCons ⟨_, (m232.row (i := 3) rfl), (by rw [read1 ag24_B14]; exact rfl)⟩ pastNil))) veq_sl rfl (by kernel_rfl) rfl rfl rfl ?_
              refine KD.buildSliceM 63 m235 (j := 2) rfl el24_B14 ez3_B14 rfl rfl (show _ = some [.int .i64 z234] from rfl) rfl (by kernel_rfl) rfl rfl rfl fun H236 m237 => ?_
              refine KD.appendC 127 (C := (EI .i64)) m237 (j := 13) rfl el24_B14 ez3_B14 sb3_B14 un24_B14 rfl rfl (newElems_row1 (C := (EI .i64)) (y := z234) (m237.row (i := 2) rfl) rfl) rfl (by first | omega | (simp only [splice, List.length_append, List.length_set, List.length_replicate, List.length_map, List.length_take, List.length_drop, List.length_cons, List.length_nil] <;> omega)) rfl (by kernel_rfl) rfl rfl rfl fun a239 D240 H238 m241 => ?_
              refine KD.pv 255 (PV.fieldAddr fo26_4_B14 rfl) rfl rfl rfl (by kernel_rfl) rfl rfl rfl ?_
              refine KD.storeM 511 m241 (j := 5) rfl sz24_B14 rfl rfl rfl (show 4 + 1 ≤ 5 by decide) (show _ = [.int .i64 c10_0, .slice a_c10_1 n_c10_1 n_c10_1, .slice a_c10_2 n_c10_2 n_c10_2, .slice a_c10_3 n_c10_3 n_c10_3, .slice a239 (n_c10_4 + 1) (n_c10_4 + 1)] from rfl) rfl (by kernel_rfl) rfl rfl fun H242 m243 => ?_
              refine KD.nil ⟨rfl, ?_⟩
              refine KC.region ?_
              refine KO.pv (PV.add rfl rfl (wrap64 (by omega) (by omega))) rfl rfl ?_
              refine KO.pv (PV.move rfl) rfl rfl ?_
              refine KO.nil ?_
              exact ⟨_, _, (by omega), (.cons rfl (.cons rfl (.cons rfl (.cons rfl (.cons rfl (.cons rfl (.cons rfl .nil))))))), (x211 + 1), a239, (n_c10_4 + 1), (l_c10_4 ++ [z234]), D240, rfl, rfl, (m243.pick [3, 4, 5, 0, 1, 6, 7, 8, 9, 10, 11, 12, 13] (by decide) rfl), (by first | omega | assumption | (constructor <;> omega)), (by first | omega | (simp only [splice, List.length_append, List.length_set, List.length_replicate, List.length_map, List.length_take, List.length_drop, List.length_cons, List.length_nil] <;> omega)), (by first | omega | (simp only [splice, List.length_append, List.length_set, List.length_replicate, List.length_map, List.length_take, List.length_drop, List.length_cons, List.length_nil] <;> omega)), (all_app hw_l_c10_4 (all_one (wf64 (by omega) (by omega))))⟩
            · refine KC.exit ?_
              refine KC.seq ?_
              refine KC.region ?_
              refine KO.loadN ag26_B14 sz26_B14 rfl (m226.row (i := 2) rfl) (takeN_of (p := [.int .i64 c10_0, .slice a_c10_1 n_c10_1 n_c10_1, .slice a_c10_2 n_c10_2 n_c10_2, .slice a_c10_3 n_c10_3 n_c10_3, .slice a_c10_4 n_c10_4 n_c10_4]) rfl rfl) rfl rfl ?_
              refine KO.loadN ag46_B14 sz46_B14 rfl (m226.row (i := 0) rfl) (takeN_of (p := [.int .i64 0, .int .i64 1, .slice a_c11_2 n_c11_2 n_c11_2, .slice (some ⟨H33.next, 0, none⟩) 1 1, .slice a_c11_4 n_c11_4 n_c11_4, .slice none 0 0, .int .i64 1]) rfl rfl) rfl rfl ?_
              refine KO.pv (PV.build rfl (bl48_0Ai64ssss_1Ai64i64ssssi64_B14 _ _ _ _ _ _ _ _ _ _ _ _ _ _ _ _ _ _ _ _ _ _ _ _ _ _ _ _)) rfl rfl ?_
              refine KO.storeM m226 (i := 5) rfl sz48_B14 rfl rfl rfl (show 0 + 12 ≤ 12 by decide) (show _ = [.int .i64 c10_0, .slice a_c10_1 n_c10_1 n_c10_1, .slice a_c10_2 n_c10_2 n_c10_2, .slice a_c10_3 n_c10_3 n_c10_3, .slice a_c10_4 n_c10_4 n_c10_4, .int .i64 0, .int .i64 1, .slice a_c11_2 n_c11_2 n_c11_2, .slice (some ⟨H33.next, 0, none⟩) 1 1, .slice a_c11_4 n_c11_4 n_c11_4, .slice none 0 0, .int .i64 1] from rfl) rfl fun H244 m245 => ?_
              refine KO.pv (PV.assign rfl) rfl rfl ?_
              refine KO.nil ?_
              have m246 := m245.ownLst (C := EP) (i := 9) rfl hw_l_c10_1 (by first | omega | (simp only [splice, List.length_append, List.length_set, List.length_replicate, List.length_map, List.length_take, List.length_drop, List.length_cons, List.length_nil] <;> omega))
              have m247 := m246.ownLst (C := EP) (i := 10) rfl hw_l_c10_2 (by first | omega | (simp only [splice, List.length_append, List.length_set, List.length_replicate, List.length_map, List.length_take, List.length_drop, List.length_cons, List.length_nil] <;> omega))
              have m248 := m247.ownLst (C := (EI .i64)) (i := 11) rfl hw_l_c10_3 (by first | omega | (simp only [splice, List.length_append, List.length_set, List.length_replicate, List.length_map, List.length_take, List.length_drop, List.length_cons, List.length_nil] <;> omega))
              have m249 := m248.ownLst (C := (EI .i64)) (i := 12) rfl hw_l_c10_4 (by first | omega | (simp only [splice, List.length_append, List.length_set, List.length_replicate, List.length_map, List.length_take, List.length_drop, List.length_cons, List.length_nil] <;> omega))
              have m250 := m249.ownLst (C := (EI .i64)) (i := 6) rfl hw_l_c11_2 (by first | omega | (simp only [splice, List.length_append, List.length_set, List.length_replicate, List.length_map, List.length_take, List.length_drop, List.length_cons, List.length_nil] <;> omega))
              have m251 := m250.ownRow (C := ES) (xs := [(a_c51_0, n_c51_0, n_c51_0)]) (i := 1) (sp := none) (n := 1) (c := 1) rfl (fun _ _ => trivial) rfl (by omega) (by omega)
              have m252 := m251.ownLst (C := (EI .i64)) (i := 7) rfl hw_l_c11_4 (by first | omega | (simp only [splice, List.length_append, List.length_set, List.length_replicate, List.length_map, List.length_take, List.length_drop, List.length_cons, List.length_nil] <;> omega))
              have m253 := m252.ownNil (C := EP)
              have m254 := m253.ownLst (C := (EI .i64)) (i := 9) rfl hw_l_c51_0 (by first | omega | (simp only [splice, List.length_append, List.length_set, List.length_replicate, List.length_map, List.length_take, List.length_drop, List.length_cons, List.length_nil] <;> omega))
              have m255 := m254.innOne (i := 9) rfl
              exact KC.ret ⟨rfl, _, (.cell rfl (ldN (m245.row (i := 5) rfl) ag48_B14 sz48_B14 rfl rfl) (.tmp rfl .nil)), c10_0, a_c10_1, n_c10_1, n_c10_1, l_c10_1, D_c10_1, a_c10_2, n_c10_2, n_c10_2, l_c10_2, D_c10_2, a_c10_3, n_c10_3, n_c10_3, l_c10_3, D_c10_3, a_c10_4, n_c10_4, n_c10_4, l_c10_4, D_c10_4, 0, 1, a_c11_2, n_c11_2, n_c11_2, l_c11_2, D_c11_2, (some ⟨H33.next, 0, none⟩), 1, 1, [(a_c51_0, n_c51_0, n_c51_0)], [H33.next], [l_c51_0], D_c51_0, a_c11_4, n_c11_4, n_c11_4, l_c11_4, D_c11_4, none, 0, 0, [], [], 1, 0, rfl, m255.pick [10, 11, 12, 13, 7, 2, 9, 8, 0] (by decide) rfl, (by first | omega | (intro h; omega) | (simp only [List.length_nil, true_and, and_true, or_true, true_or] <;> omega)), (by first | omega | (intro h; omega) | (simp only [List.length_nil, true_and, and_true, or_true, true_or] <;> omega)), (by first | omega | (intro h; omega) | (simp only [List.length_nil, true_and, and_true, or_true, true_or] <;> omega) | exact all_nil | (exact all_one (by omega))), (by first | omega | (intro h; omega) | (simp only [List.length_nil, true_and, and_true, or_true, true_or] <;> omega))⟩
end Go.Eng
