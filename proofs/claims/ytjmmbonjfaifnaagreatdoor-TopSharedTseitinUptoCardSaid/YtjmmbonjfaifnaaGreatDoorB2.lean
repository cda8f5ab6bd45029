/- Functions of the program and of the library keep their contracts. Conditions: none beyond each theorem's own. -/
import Derived.Test.YtjmmbonjfaifnaaGreatDoorB1
import Derived.KernelRfl
set_option linter.all false
namespace Go.Eng
open Go Go.Proofs
theorem ag3_B2 : isAggT E0.P 3 = some false := by kernel_rfl
theorem sz3_B2 : sizeT E0.P 3 = some 1 := by kernel_rfl
theorem el22_B2 : elemT E0.P 22 = some 3 := by kernel_rfl
theorem ez3_B2 : elemZ E0.P 3 = some (1, [.int .i64 0]) := by kernel_rfl
theorem un22_B2 : E0.P.underlying 22 = some (.slice 3) := by kernel_rfl
theorem un3_B2 : E0.P.underlying 3 = some (.int .i64) := by kernel_rfl
theorem un200_B2 : E0.P.underlying 200 = some (.int .u64) := by kernel_rfl
theorem empty_83 (a : Option Addr) (H : AHeap) : callA Eb 60 83 [.slice a 0 0] H = some (.slice a 0 0, H) := by kernel_rfl
theorem Compact_int (H : AHeap) (a_s : Option Addr) (n_s : Nat) (s : List Int) (D_s : List Nat) (h_s : (R.lst 3 1 a_s n_s (cells (EI .i64) s) D_s).ok H) (lt_s : ∀ j ∈ D_s, j < H.next) (wf_s : ∀ u ∈ s, (EI .i64).wf u) (hm : n_s ≤ 330000000) : WF E0 83 [.slice a_s n_s n_s] H fun q => ∃ (k : Nat) (ys : List Int), q.1 = .slice a_s k n_s ∧ Mem D_s H q.2 [R.own (EI .i64) a_s k n_s ys D_s] ∧ (ys.length = k ∧ k ≤ n_s) ∧ (∀ u ∈ ys, u ∈ s) ∧ (∀ u ∈ ys, (EI .i64).wf u) := by
  have m0 : Mem D_s H H [R.lst 3 1 a_s n_s (cells (EI .i64) s) D_s] := Mem.startR (r := R.lst 3 1 a_s n_s (cells (EI .i64) s) D_s) h_s (Gr.nd h_s) lt_s
  have hl : s.length = n_s := m0.lstLen (E := EI .i64) (i := 0) rfl
  rcases Nat.eq_zero_or_pos n_s with h0 | h0
  · subst h0
    obtain rfl := List.length_eq_zero_iff.1 hl
    obtain ⟨r, hr, hq⟩ := evalA_of (E := Eb) (f := 83) (args := [.slice a_s 0 0]) (H := H) (Q := fun q => q = (.slice a_s 0 0, H)) ⟨60, _, empty_83 a_s H, rfl⟩
    subst hq
    have m1 := m0.ownLst (C := EI .i64) (i := 0) rfl (fun u h => absurd h List.not_mem_nil) (by omega)
    exact WF.told (s := editS Eb 83 compactE) rfl (by simp only [editS, if_pos]; exact hr) ⟨0, [], rfl, m1, ⟨rfl, Nat.le_refl _⟩, fun u h => absurd h List.not_mem_nil, fun u h => absurd h List.not_mem_nil⟩
  · exact (WF.edits (e := 3) (n := n_s) (xs := s) (g := compactE) (ys := Lib.compact s ++ List.replicate (s.length - (Lib.compact s).length) 0) (k := (Lib.compact s).length) rfl rfl (by rw [compactE_len, hl]) (hl ▸ Lib.compact_length_le s) (fun u hu => by rcases List.mem_append.1 hu with hu | hu; exact wf_s u (compact_mem u hu); rw [List.eq_of_mem_replicate hu]; exact wf64 (by decide) (by decide)) h_s lt_s h0 hm).mono fun q hq => ⟨_, _, hq.1, hq.2, ⟨by simp, hl ▸ Lib.compact_length_le s⟩, fun u hu => by rw [List.take_left] at hu; exact compact_mem u hu, fun u hu => by rw [List.take_left] at hu; exact wf_s u (compact_mem u hu)⟩
theorem Delete_int (H : AHeap) (a_s : Option Addr) (n_s : Nat) (s : List Int) (D_s : List Nat) (i : Int) (j : Int) (h_s : (R.lst 3 1 a_s n_s (cells (EI .i64) s) D_s).ok H) (lt_s : ∀ j ∈ D_s, j < H.next) (wf_s : ∀ u ∈ s, (EI .i64).wf u) (w_i : IntKind.i64.wrap i = i) (w_j : IntKind.i64.wrap j = j) (hm : n_s ≤ 330000000) (hij : 0 ≤ i ∧ i < j ∧ j ≤ n_s) : WF E0 94 [.slice a_s n_s n_s, .int .i64 i, .int .i64 j] H fun q => ∃ (k : Nat) (ys : List Int), q.1 = .slice a_s k n_s ∧ Mem D_s H q.2 [R.own (EI .i64) a_s k n_s ys D_s] ∧ (ys.length = k ∧ k + j.toNat = n_s + i.toNat) ∧ (∀ u ∈ ys, u ∈ s) ∧ (∀ u ∈ ys, (EI .i64).wf u) ∧ (j = i + 1 → ∀ u ∈ s, s[i.toNat]? ≠ some u → u ∈ ys) := by
  have m0 : Mem D_s H H [R.lst 3 1 a_s n_s (cells (EI .i64) s) D_s] := Mem.startR (r := R.lst 3 1 a_s n_s (cells (EI .i64) s) D_s) h_s (Gr.nd h_s) lt_s
  have hl : s.length = n_s := m0.lstLen (E := EI .i64) (i := 0) rfl
  have h0 : 0 < n_s := by omega
  have hmem : ∀ u ∈ s.take i.toNat ++ s.drop j.toNat, u ∈ s := fun u hu => (List.mem_append.1 hu).elim List.mem_of_mem_take List.mem_of_mem_drop
  obtain ⟨i', rfl⟩ := Int.eq_ofNat_of_zero_le hij.1
  obtain ⟨j', rfl⟩ := Int.eq_ofNat_of_zero_le (show 0 ≤ j by omega)
  simp only [Int.toNat_natCast] at *
  have hgd : deleteE s [.int .i64 (i' : Int), .int .i64 (j' : Int)] = some (s.take i' ++ s.drop j' ++ List.replicate (j' - i') 0, s.length - (j' - i')) := by show (bif Nat.ble i' j' && Nat.ble j' s.length then _ else _) = _; rw [ble_nat.2 (show i' ≤ j' by omega), ble_nat.2 (show j' ≤ s.length by omega)]; rfl
  have htk : (s.take i' ++ s.drop j' ++ List.replicate (j' - i') 0).take (s.length - (j' - i')) = s.take i' ++ s.drop j' := List.take_left' (by simp; omega)
  exact (WF.edits (e := 3) (n := n_s) (xs := s) (g := deleteE) (ys := s.take i' ++ s.drop j' ++ List.replicate (j' - i') 0) (k := s.length - (j' - i')) rfl hgd (by simp; omega) (by omega) (fun u hu => by rcases List.mem_append.1 hu with hu | hu; exact wf_s u (hmem u hu); rw [List.eq_of_mem_replicate hu]; exact wf64 (by decide) (by decide)) h_s lt_s h0 hm).mono fun q hq => ⟨_, _, hq.1, hq.2, ⟨by rw [htk]; simp; omega, by omega⟩, fun u hu => by rw [htk] at hu; exact hmem u hu, fun u hu => by rw [htk] at hu; exact wf_s u (hmem u hu), fun hj u hu hne => by rw [htk]; obtain rfl : j' = i' + 1 := (by omega); exact mem_cut hu hne⟩
theorem cmp_isNaN (H : AHeap) (x : Int) (w_x : IntKind.i64.wrap x = x) : WF E0 150 [.int .i64 x] H fun q => ∃ (o : Bool), q.1 = .bool o ∧ Mem [] H q.2 [] ∧ (o = false) := by
  obtain ⟨lo_x, hi_x⟩ := rangei64 w_x
  have m0 : Mem [] H H [] := Mem.start
  refine WF.kg Tryz.func150 rfl rfl ?_
  refine KC.seq ?_
  refine KC.region ?_
  refine KO.pv (PV.assign rfl) rfl rfl ?_
  refine KO.nil ?_
  refine KC.seq ?_
  refine KC.region ?_
  refine KO.pv (PV.move rfl) rfl rfl ?_
  refine KO.pv (PV.move rfl) rfl rfl ?_
  refine KO.pv (PV.neqD rfl rfl rfl) rfl rfl ?_
  refine KO.pv (PV.assign rfl) rfl rfl ?_
  refine KO.nil ?_
  exact KC.ret ⟨rfl, _, (.tmp rfl .nil), (decide (x ≠ x)), rfl, m0.pick [] (by decide) rfl, (decide_eq_false (by simp))⟩
theorem slices_isNaN (H : AHeap) (x : Int) (w_x : IntKind.i64.wrap x = x) : WF E0 118 [.int .i64 x] H fun q => ∃ (o : Bool), q.1 = .bool o ∧ Mem [] H q.2 [] ∧ (o = false) := by
  obtain ⟨lo_x, hi_x⟩ := rangei64 w_x
  have m0 : Mem [] H H [] := Mem.start
  refine WF.kg Tryz.func118 rfl rfl ?_
  refine KC.seq ?_
  refine KC.region ?_
  refine KO.pv (PV.assign rfl) rfl rfl ?_
  refine KO.nil ?_
  refine KC.seq ?_
  refine KC.region ?_
  refine KO.pv (PV.move rfl) rfl rfl ?_
  refine KO.pv (PV.move rfl) rfl rfl ?_
  refine KO.pv (PV.neqD rfl rfl rfl) rfl rfl ?_
  refine KO.pv (PV.assign rfl) rfl rfl ?_
  refine KO.nil ?_
  exact KC.ret ⟨rfl, _, (.tmp rfl .nil), (decide (x ≠ x)), rfl, m0.pick [] (by decide) rfl, (decide_eq_false (by simp))⟩
theorem cmp_Less (H : AHeap) (x : Int) (y : Int) (w_x : IntKind.i64.wrap x = x) (w_y : IntKind.i64.wrap y = y) : WF E0 117 [.int .i64 x, .int .i64 y] H fun q => ∃ (o : Bool), q.1 = .bool o ∧ Mem [] H q.2 [] ∧ (o = true → x < y) ∧ (o = false → ¬ x < y) := by
  obtain ⟨lo_x, hi_x⟩ := rangei64 w_x
  obtain ⟨lo_y, hi_y⟩ := rangei64 w_y
  have m0 : Mem [] H H [] := Mem.start
  refine WF.kg Tryz.func117 rfl rfl ?_
  refine KC.seq ?_
  refine KC.region ?_
  refine KO.pv (PV.assign rfl) rfl rfl ?_
  refine KO.nil ?_
  refine KC.seq ?_
  refine KC.region ?_
  refine KO.pv (PV.move rfl) rfl rfl ?_
  refine KO.call rfl rfl rfl rfl (cmp_isNaN H x (wrap64 (by omega) (by omega))) fun v1 H1 q1 => ?_
  obtain ⟨o1, hv1, mc1, p1_0⟩ := q1
  dsimp only at hv1 mc1
  subst hv1
  have m2 := m0.seq mc1
  obtain rfl := p1_0
  refine KO.pv (PV.move rfl) rfl rfl ?_
  refine KO.no rfl rfl rfl ?_
  refine KO.no rfl rfl rfl ?_
  refine KO.no rfl rfl rfl ?_
  refine KO.pv (PV.pickF rfl rfl rfl) rfl rfl ?_
  refine KO.pv (PV.move rfl) rfl rfl ?_
  refine KO.pv (PV.move rfl) rfl rfl ?_
  refine KO.pv (PV.move rfl) rfl rfl ?_
  refine KO.pv (PV.lssD rfl rfl rfl) rfl rfl ?_
  refine KO.pv (PV.pickF rfl rfl rfl) rfl rfl ?_
  refine KO.pv (PV.assign rfl) rfl rfl ?_
  refine KO.nil ?_
  exact KC.ret ⟨rfl, _, (.tmp rfl .nil), (decide (x < y)), rfl, m2.pick [] (by decide) rfl, (by first | omega | (intro h; omega) | (simp only [List.length_nil, true_and, and_true, or_true, true_or] <;> omega) | (exact fun h => of_decide_eq_true h)), (by first | omega | (intro h; omega) | (simp only [List.length_nil, true_and, and_true, or_true, true_or] <;> omega) | (exact fun h => of_decide_eq_false h))⟩
theorem BinarySearch_int (H : AHeap) (a_s : Option Addr) (n_s c_s : Nat) (s : List Int) (v : Int) (h_s : V (EI .i64) H a_s n_s c_s s) (w_v : IntKind.i64.wrap v = v) : WF E0 86 [.slice a_s n_s c_s, .int .i64 v] H fun q => ∃ (z : Int) (o : Bool), q.1 = .tuple #[.int .i64 z, .bool o] ∧ Mem [] H q.2 [] ∧ (0 ≤ z ∧ z ≤ n_s) ∧ (o = true → s[z.toNat]? = some v) := by
  obtain ⟨len_s, cap_s, max_s, wf_s⟩ := h_s.len
  obtain ⟨lo_v, hi_v⟩ := rangei64 w_v
  have m0 : Mem [] H H [] := Mem.start
  refine WF.kg Tryz.func86 rfl rfl ?_
  refine KC.seq ?_
  refine KC.region ?_
  refine KO.pv (PV.assign rfl) rfl rfl ?_
  refine KO.pv (PV.assign rfl) rfl rfl ?_
  refine KO.nil ?_
  refine KC.seq ?_
  refine KC.region ?_
  refine KO.pv (PV.move rfl) rfl rfl ?_
  refine KO.pv (PV.len un22_B2 rfl) rfl rfl ?_
  refine KO.pv (PV.assign rfl) rfl rfl ?_
  refine KO.nil ?_
  refine KC.seq ?_
  refine KC.region ?_
  refine KO.pv (PV.move rfl) rfl rfl ?_
  refine KO.pv (PV.assign rfl) rfl rfl ?_
  refine KO.pv (PV.assign rfl) rfl rfl ?_
  refine KO.nil ?_
  refine KC.seq ?_
  refine KC.block ?_
  refine KC.sub (l' := [(0, .slice a_s n_s c_s), (1, .int .i64 v), (6, .int .i64 (n_s : Int)), (7, .int .i64 0), (8, .int .i64 (n_s : Int))]) (.cons rfl (.cons rfl (.cons rfl (.cons rfl (.cons rfl .nil))))) ?_
  refine KC.loopN (fun kq lq A => ∃ (x7 : Int) (x8 : Int), kq = (x8 - x7).toNat ∧ lq = [(0, .slice a_s n_s c_s), (1, .int .i64 v), (6, .int .i64 (n_s : Int)), (7, .int .i64 x7), (8, .int .i64 x8)] ∧ Mem [] H A [] ∧ (0 ≤ x7 ∧ x7 ≤ x8 ∧ x8 ≤ n_s)) ?_ (((n_s : Int) - 0).toNat) ⟨0, (n_s : Int), rfl, rfl, (m0.pick [] (by decide) rfl), (by first | omega | assumption | (constructor <;> omega))⟩
  rintro kq lq A1 ⟨x7, x8, rfl, rfl, m2, hi3_0⟩
  refine KC.seq ?_
  refine KC.seq ?_
  refine KC.region ?_
  refine KO.pv (PV.move rfl) rfl rfl ?_
  refine KO.pv (PV.move rfl) rfl rfl ?_
  refine KO.pv (PV.lssD rfl rfl rfl) rfl rfl ?_
  refine KO.nil ?_
  refine KC.condD rfl (fun h3 => ?_) (fun h3 => ?_)
  · refine KC.skip ?_
    refine KC.block ?_
    refine KC.seq ?_
    refine KC.region ?_
    refine KO.pv (PV.move rfl) rfl rfl ?_
    refine KO.pv (PV.move rfl) rfl rfl ?_
    refine KO.pv (PV.add rfl rfl (wrap64 (by omega) (by omega))) rfl rfl ?_
    refine KO.pv (PV.convertE un3_B2 un200_B2 rfl (wrapU64 (by omega) (by omega))) rfl rfl ?_
    refine KO.pv (PV.shr1 rfl rfl rfl) rfl rfl ?_
    refine KO.pv (PV.convertE un200_B2 un3_B2 rfl (wrap64 (by omega) (by omega))) rfl rfl ?_
    refine KO.pv (PV.assign rfl) rfl rfl ?_
    refine KO.nil ?_
    refine KC.seq ?_
    refine KC.region ?_
    refine KO.pv (PV.move rfl) rfl rfl ?_
    refine KO.pv (PV.move rfl) rfl rfl ?_
    obtain ⟨b4, o4, p4, r4, e4, ha4, hb4, hr4, hx4, hw4, hc4, ht4⟩ := V.at_ h_s (z := ((x7 + x8) / 2)) (by omega) (by omega)
    have hc4_0 : r4.cs[o4 + (((x7 + x8) / 2)).toNat * 1 + 0]? = some (.int .i64 e4) := hc4 0 (by decide)
    have hw4 : IntKind.i64.wrap e4 = e4 := hw4
    obtain ⟨lo4, hi4⟩ := rangei64 hw4
    refine KO.pv (PV.indexAddrZ un22_B2 sz3_B2 rfl ha4 rfl (by omega) (by omega)) rfl rfl ?_
    refine KO.load1 ag3_B2 rfl (m2.row0 hb4 hr4) hc4_0 rfl rfl ?_
    refine KO.pv (PV.move rfl) rfl rfl ?_
    refine KO.call rfl rfl rfl rfl (cmp_Less A1 e4 v (wrap64 (by omega) (by omega)) (wrap64 (by omega) (by omega))) fun v5 H5 q5 => ?_
    obtain ⟨o5, hv5, mc5, p5_0, p5_1⟩ := q5
    dsimp only at hv5 mc5
    subst hv5
    have m6 := m2.seq mc5
    refine KO.nil ?_
    refine KC.cond rfl (fun h7 => ?_) (fun h7 => ?_)
    · subst h7
      have p5_0t := p5_0 rfl
      refine KC.region ?_
      refine KO.pv (PV.move rfl) rfl rfl ?_
      refine KO.pv (PV.add rfl rfl (wrap64 (by omega) (by omega))) rfl rfl ?_
      refine KO.pv (PV.assign rfl) rfl rfl ?_
      refine KO.nil ?_
      exact ⟨_, _, (by omega), (.cons rfl (.cons rfl (.cons rfl (.cons rfl (.cons rfl .nil))))), (((x7 + x8) / 2) + 1), x8, rfl, rfl, (m6.pick [] (by decide) rfl), (by first | omega | assumption | (constructor <;> omega))⟩
    · subst h7
      have p5_1t := p5_1 rfl
      refine KC.region ?_
      refine KO.pv (PV.move rfl) rfl rfl ?_
      refine KO.pv (PV.assign rfl) rfl rfl ?_
      refine KO.nil ?_
      exact ⟨_, _, (by omega), (.cons rfl (.cons rfl (.cons rfl (.cons rfl (.cons rfl .nil))))), x7, ((x7 + x8) / 2), rfl, rfl, (m6.pick [] (by decide) rfl), (by first | omega | assumption | (constructor <;> omega))⟩
  · refine KC.exit ?_
    refine KC.seq ?_
    refine KC.region ?_
    refine KO.pv (PV.move rfl) rfl rfl ?_
    refine KO.pv (PV.move rfl) rfl rfl ?_
    refine KO.pv (PV.move rfl) rfl rfl ?_
    by_cases h8 : x7 < (n_s : Int)
    · refine KO.pv (PV.lssD rfl rfl (decide_eq_true h8)) rfl rfl ?_
      refine KO.pv (PV.move rfl) rfl rfl ?_
      refine KO.pv (PV.move rfl) rfl rfl ?_
      refine KO.pv (PV.move rfl) rfl rfl ?_
      obtain ⟨b9, o9, p9, r9, e9, ha9, hb9, hr9, hx9, hw9, hc9, ht9⟩ := V.at_ h_s (z := x7) (by omega) (by omega)
      have hc9_0 : r9.cs[o9 + (x7).toNat * 1 + 0]? = some (.int .i64 e9) := hc9 0 (by decide)
      have hw9 : IntKind.i64.wrap e9 = e9 := hw9
      obtain ⟨lo9, hi9⟩ := rangei64 hw9
      refine KO.pv (PV.indexAddrZ un22_B2 sz3_B2 rfl ha9 rfl (by omega) (by omega)) rfl rfl ?_
      refine KO.load1 ag3_B2 rfl (m2.row0 hb9 hr9) hc9_0 rfl rfl ?_
      refine KO.pv (PV.move rfl) rfl rfl ?_
      by_cases h10 : e9 = v
      · refine KO.pv (PV.eqlD rfl rfl (decide_eq_true h10)) rfl rfl ?_
        refine KO.pv (PV.move rfl) rfl rfl ?_
        refine KO.no rfl rfl rfl ?_
        refine KO.no rfl rfl rfl ?_
        refine KO.no rfl rfl rfl ?_
        refine KO.no rfl rfl rfl ?_
        refine KO.no rfl rfl rfl ?_
        refine KO.no rfl rfl rfl ?_
        refine KO.no rfl rfl rfl ?_
        refine KO.no rfl rfl rfl ?_
        refine KO.no rfl rfl rfl ?_
        refine KO.pv (PV.pickT rfl rfl rfl) rfl rfl ?_
        refine KO.pv (PV.pickT rfl rfl rfl) rfl rfl ?_
        refine KO.pv (PV.assign rfl) rfl rfl ?_
        refine KO.pv (PV.assign rfl) rfl rfl ?_
        refine KO.nil ?_
        exact KC.ret ⟨rfl, _, (.tmp rfl (.tmp rfl .nil)), x7, true, rfl, m2.pick [] (by decide) rfl, (by first | omega | (intro h; omega) | (simp only [List.length_nil, true_and, and_true, or_true, true_or] <;> omega)), (by first | omega | (intro h; omega) | (simp only [List.length_nil, true_and, and_true, or_true, true_or] <;> omega) | (exact fun _ => by subst_vars; assumption) | (exact fun h => by cases h) | (exact fun h => by have := of_decide_eq_true h; subst_vars; assumption))⟩
      · refine KO.pv (PV.eqlD rfl rfl (decide_eq_false h10)) rfl rfl ?_
        refine KO.pv (PV.move rfl) rfl rfl ?_
        refine KO.pv (PV.move rfl) rfl rfl ?_
        refine KO.pv (PV.move rfl) rfl rfl ?_
        obtain ⟨b11, o11, p11, r11, e11, ha11, hb11, hr11, hx11, hw11, hc11, ht11⟩ := V.at_ h_s (z := x7) (by omega) (by omega)
        have hc11_0 : r11.cs[o11 + (x7).toNat * 1 + 0]? = some (.int .i64 e11) := hc11 0 (by decide)
        have hw11 : IntKind.i64.wrap e11 = e11 := hw11
        obtain ⟨lo11, hi11⟩ := rangei64 hw11
        have hq11 : e11 = e9 := Option.some.inj (hx11.symm.trans hx9)
        refine KO.pv (PV.indexAddrZ un22_B2 sz3_B2 rfl ha11 rfl (by omega) (by omega)) rfl rfl ?_
        refine KO.load1 ag3_B2 rfl (m2.row0 hb11 hr11) hc11_0 rfl rfl ?_
        refine KO.call rfl rfl rfl rfl (slices_isNaN A1 e11 (wrap64 (by omega) (by omega))) fun v12 H12 q12 => ?_
        obtain ⟨o12, hv12, mc12, p12_0⟩ := q12
        dsimp only at hv12 mc12
        subst hv12
        have m13 := m2.seq mc12
        obtain rfl := p12_0
        refine KO.pv (PV.move rfl) rfl rfl ?_
        refine KO.no rfl rfl rfl ?_
        refine KO.no rfl rfl rfl ?_
        refine KO.pv (PV.pickF rfl rfl rfl) rfl rfl ?_
        refine KO.pv (PV.pickF rfl rfl rfl) rfl rfl ?_
        refine KO.pv (PV.pickT rfl rfl rfl) rfl rfl ?_
        refine KO.pv (PV.assign rfl) rfl rfl ?_
        refine KO.pv (PV.assign rfl) rfl rfl ?_
        refine KO.nil ?_
        exact KC.ret ⟨rfl, _, (.tmp rfl (.tmp rfl .nil)), x7, false, rfl, m13.pick [] (by decide) rfl, (by first | omega | (intro h; omega) | (simp only [List.length_nil, true_and, and_true, or_true, true_or] <;> omega)), (by first | omega | (intro h; omega) | (simp only [List.length_nil, true_and, and_true, or_true, true_or] <;> omega) | (exact fun _ => by subst_vars; assumption) | (exact fun h => by cases h) | (exact fun h => by have := of_decide_eq_true h; subst_vars; assumption))⟩
    · refine KO.pv (PV.lssD rfl rfl (decide_eq_false h8)) rfl rfl ?_
      refine KO.pv (PV.move rfl) rfl rfl ?_
      refine KO.no rfl rfl rfl ?_
      refine KO.no rfl rfl rfl ?_
      refine KO.no rfl rfl rfl ?_
      refine KO.no rfl rfl rfl ?_
      refine KO.no rfl rfl rfl ?_
      refine KO.no rfl rfl rfl ?_
      refine KO.no rfl rfl rfl ?_
      refine KO.no rfl rfl rfl ?_
      refine KO.no rfl rfl rfl ?_
      refine KO.no rfl rfl rfl ?_
      refine KO.no rfl rfl rfl ?_
      refine KO.no rfl rfl rfl ?_
      refine KO.no rfl rfl rfl ?_
      refine KO.no rfl rfl rfl ?_
      refine KO.no rfl rfl rfl ?_
      refine KO.no rfl rfl rfl ?_
      refine KO.no rfl rfl rfl ?_
      refine KO.pv (PV.pickF rfl rfl rfl) rfl rfl ?_
      refine KO.pv (PV.assign rfl) rfl rfl ?_
      refine KO.pv (PV.assign rfl) rfl rfl ?_
      refine KO.nil ?_
      exact KC.ret ⟨rfl, _, (.tmp rfl (.tmp rfl .nil)), x7, false, rfl, m2.pick [] (by decide) rfl, (by first | omega | (intro h; omega) | (simp only [List.length_nil, true_and, and_true, or_true, true_or] <;> omega)), (by first | omega | (intro h; omega) | (simp only [List.length_nil, true_and, and_true, or_true, true_or] <;> omega) | (exact fun _ => by subst_vars; assumption) | (exact fun h => by cases h) | (exact fun h => by have := of_decide_eq_true h; subst_vars; assumption))⟩
theorem IndexFunc_int (H : AHeap) (a_s : Option Addr) (n_s c_s : Nat) (s : List Int) (g_f : FuncId) (cap_f : List Value) (Pf : Int → Bool → Prop) (h_s : V (EI .i64) H a_s n_s c_s s) (x_f : E0.ext g_f = none) (h_f : ∀ A, Mem [] H A [] → ∀ u ∈ s, WF E0 g_f ([.int .i64 u] ++ cap_f) A fun q => ∃ b : Bool, q.1 = .bool b ∧ Mem [] A q.2 [] ∧ Pf u b) : WF E0 119 [.slice a_s n_s c_s, .func (.func g_f) #[] cap_f.toArray] H fun q => ∃ (z : Int), q.1 = .int .i64 z ∧ Mem [] H q.2 [] ∧ (-1 ≤ z ∧ z < n_s) ∧ (z < 0 → ∀ u ∈ s, Pf u false) ∧ (0 ≤ z → ∃ u, s[z.toNat]? = some u ∧ Pf u true) := by
  obtain ⟨len_s, cap_s, max_s, wf_s⟩ := h_s.len
  have m0 : Mem [] H H [] := Mem.start
  refine WF.kg Tryz.func119 rfl rfl ?_
  refine KC.seq ?_
  refine KC.region ?_
  refine KO.pv (PV.assign rfl) rfl rfl ?_
  refine KO.nil ?_
  refine KC.seq ?_
  refine KC.seq ?_
  refine KC.region ?_
  refine KO.pv (PV.move rfl) rfl rfl ?_
  refine KO.pv (PV.len un22_B2 rfl) rfl rfl ?_
  refine KO.pv (PV.move rfl) rfl rfl ?_
  refine KO.nil ?_
  refine KC.block ?_
  refine KC.sub (l' := [(0, .slice a_s n_s c_s), (1, .func (.func g_f) #[] cap_f.toArray), (4, .int .i64 0), (7, .int .i64 (n_s : Int)), (8, .int .i64 0)]) (.cons rfl (.cons rfl (.cons rfl (.cons rfl (.cons rfl .nil))))) ?_
  refine KC.loopN (fun kq lq A => ∃ (i : Int), kq = ((n_s : Int) - i).toNat ∧ lq = [(0, .slice a_s n_s c_s), (1, .func (.func g_f) #[] cap_f.toArray), (4, .int .i64 0), (7, .int .i64 (n_s : Int)), (8, .int .i64 i)] ∧ Mem [] H A [] ∧ (0 ≤ i ∧ i ≤ n_s) ∧ (Ahead s i fun _ u => Pf u false)) ?_ (((n_s : Int) - 0).toNat) ⟨0, rfl, rfl, (m0.pick [] (by decide) rfl), (by omega), Ahead.zero⟩
  rintro kq lq A1 ⟨i, rfl, rfl, m2, hi, hpre⟩
  refine KC.seq ?_
  refine KC.region ?_
  refine KO.pv (PV.lssD rfl rfl rfl) rfl rfl ?_
  refine KO.nil ?_
  refine KC.seq ?_
  refine KC.condD rfl (fun h3 => ?_) (fun h3 => ?_)
  · refine KC.skip ?_
    refine KC.seq ?_
    refine KC.block ?_
    refine KC.seq ?_
    refine KC.region ?_
    refine KO.pv (PV.move rfl) rfl rfl ?_
    refine KO.pv (PV.assign rfl) rfl rfl ?_
    refine KO.nil ?_
    refine KC.seq ?_
    refine KC.region ?_
    refine KO.pv (PV.move rfl) rfl rfl ?_
    refine KO.pv (PV.move rfl) rfl rfl ?_
    refine KO.pv (PV.move rfl) rfl rfl ?_
    obtain ⟨b4, o4, p4, r4, e4, ha4, hb4, hr4, hx4, hw4, hc4, ht4⟩ := V.at_ h_s (z := i) (by omega) (by omega)
    have hc4_0 : r4.cs[o4 + (i).toNat * 1 + 0]? = some (.int .i64 e4) := hc4 0 (by decide)
    have hw4 : IntKind.i64.wrap e4 = e4 := hw4
    obtain ⟨lo4, hi4⟩ := rangei64 hw4
    refine KO.pv (PV.indexAddrZ un22_B2 sz3_B2 rfl ha4 rfl (by omega) (by omega)) rfl rfl ?_
    refine KO.load1 ag3_B2 rfl (m2.row0 hb4 hr4) hc4_0 rfl rfl ?_
    refine KO.callV rfl x_f rfl rfl rfl (h_f A1 (m2.pick [] (by decide) rfl) _ (List.mem_of_getElem? hx4)) fun v5 H5 q5 => ?_
    obtain ⟨b5, hv5, mc5, pf5⟩ := q5
    dsimp only at hv5 mc5
    subst hv5
    have m6 := m2.seq mc5
    refine KO.nil ?_
    refine KC.cond rfl (fun h7 => ?_) (fun h7 => ?_)
    · subst h7
      refine KC.seq ?_
      refine KC.region ?_
      refine KO.pv (PV.move rfl) rfl rfl ?_
      refine KO.pv (PV.assign rfl) rfl rfl ?_
      refine KO.nil ?_
      exact KC.ret ⟨rfl, _, (.tmp rfl .nil), i, rfl, m6.pick [] (by decide) rfl, (by first | omega | (intro h; omega) | (simp only [List.length_nil, true_and, and_true, or_true, true_or] <;> omega)), (by first | omega | (intro h; omega) | (simp only [List.length_nil, true_and, and_true, or_true, true_or] <;> omega) | (exact fun h => by omega) | (exact fun _ => hpre.mem len_s (by omega))), (by first | omega | (intro h; omega) | (simp only [List.length_nil, true_and, and_true, or_true, true_or] <;> omega) | (exact fun _ => ⟨_, by assumption, by subst_vars; assumption⟩) | (exact fun h => by omega))⟩
    · subst h7
      refine KC.skip ?_
      refine KC.region ?_
      refine KO.pv (PV.add rfl rfl (wrap64 (by omega) (by omega))) rfl rfl ?_
      refine KO.pv (PV.move rfl) rfl rfl ?_
      refine KO.nil ?_
      exact ⟨_, _, (by omega), (.cons rfl (.cons rfl (.cons rfl (.cons rfl (.cons rfl .nil))))), (i + 1), rfl, rfl, (m6.pick [] (by decide) rfl), (by omega), (hpre.step (by assumption) (by omega) (by subst_vars; assumption))⟩
  · refine KC.exit ?_
    refine KC.seq ?_
    refine KC.region ?_
    refine KO.pv (PV.assign rfl) rfl rfl ?_
    refine KO.nil ?_
    exact KC.ret ⟨rfl, _, (.tmp rfl .nil), (-1), rfl, m2.pick [] (by decide) rfl, (by first | omega | (intro h; omega) | (simp only [List.length_nil, true_and, and_true, or_true, true_or] <;> omega)), (by first | omega | (intro h; omega) | (simp only [List.length_nil, true_and, and_true, or_true, true_or] <;> omega) | (exact fun h => by omega) | (exact fun _ => hpre.mem len_s (by omega))), (by first | omega | (intro h; omega) | (simp only [List.length_nil, true_and, and_true, or_true, true_or] <;> omega) | (exact fun _ => ⟨_, by assumption, by subst_vars; assumption⟩) | (exact fun h => by omega))⟩
theorem ContainsFunc_int (H : AHeap) (a_s : Option Addr) (n_s c_s : Nat) (s : List Int) (g_f : FuncId) (cap_f : List Value) (Pf : Int → Bool → Prop) (h_s : V (EI .i64) H a_s n_s c_s s) (x_f : E0.ext g_f = none) (h_f : ∀ A, Mem [] H A [] → ∀ u ∈ s, WF E0 g_f ([.int .i64 u] ++ cap_f) A fun q => ∃ b : Bool, q.1 = .bool b ∧ Mem [] A q.2 [] ∧ Pf u b) : WF E0 128 [.slice a_s n_s c_s, .func (.func g_f) #[] cap_f.toArray] H fun q => ∃ (c : Bool), q.1 = .bool c ∧ Mem [] H q.2 [] ∧ (c = false → ∀ u ∈ s, Pf u false) ∧ (c = true → ∃ u ∈ s, Pf u true) := by
  obtain ⟨len_s, cap_s, max_s, wf_s⟩ := h_s.len
  have m0 : Mem [] H H [] := Mem.start
  refine WF.kg Tryz.func128 rfl rfl ?_
  refine KC.seq ?_
  refine KC.region ?_
  refine KO.pv (PV.assign rfl) rfl rfl ?_
  refine KO.nil ?_
  refine KC.seq ?_
  refine KC.region ?_
  refine KO.pv (PV.move rfl) rfl rfl ?_
  refine KO.pv (PV.move rfl) rfl rfl ?_
  refine KO.call rfl rfl rfl rfl (IndexFunc_int H a_s n_s c_s s g_f cap_f Pf h_s x_f h_f) fun v1 H1 q1 => ?_
  obtain ⟨z1, hv1, mc1, p1_0, p1_1, p1_2⟩ := q1
  dsimp only at hv1 mc1
  subst hv1
  have m1 := m0.seq mc1
  refine KO.pv (PV.geqD rfl rfl rfl) rfl rfl ?_
  refine KO.pv (PV.assign rfl) rfl rfl ?_
  refine KO.nil ?_
  exact KC.ret ⟨rfl, _, (.tmp rfl .nil), (decide (0 ≤ z1)), rfl, m1.pick [] (by decide) rfl, (fun h => p1_1 (by have := of_decide_eq_false h; omega)), (fun h => by obtain ⟨u, h1, h2⟩ := p1_2 (by have := of_decide_eq_true h; omega); exact ⟨u, List.mem_of_getElem? h1, h2⟩)⟩
theorem DeleteFunc_int (H : AHeap) (a_s : Option Addr) (n_s : Nat) (s : List Int) (D_s : List Nat) (g_f : FuncId) (cap_f : List Value) (Pf : Int → Bool → Prop) (h_s : (R.lst 3 1 a_s n_s (cells (EI .i64) s) D_s).ok H) (lt_s : ∀ j ∈ D_s, j < H.next) (wf_s : ∀ u ∈ s, (EI .i64).wf u) (x_f : E0.ext g_f = none) (h_f : ∀ A, Mem D_s H A [] → ∀ u ∈ s, WF E0 g_f ([.int .i64 u] ++ cap_f) A fun q => ∃ b : Bool, q.1 = .bool b ∧ Mem [] A q.2 [] ∧ Pf u b) (hm : n_s ≤ 330000000) : WF E0 88 [.slice a_s n_s n_s, .func (.func g_f) #[] cap_f.toArray] H fun q => ∃ (k : Nat) (ys : List Int), q.1 = .slice a_s k n_s ∧ Mem D_s H q.2 [R.own (EI .i64) a_s k n_s ys D_s] ∧ (ys.length = k ∧ k ≤ n_s) ∧ (∀ u ∈ ys, u ∈ s) ∧ (∀ u ∈ ys, (EI .i64).wf u) := by
  have len_s : s.length = n_s := (Mem.startR (r := R.lst 3 1 a_s n_s (cells (EI .i64) s) D_s) h_s (Gr.nd h_s) lt_s).lstLen (E := (EI .i64)) (i := 0) rfl
  have m0 : Mem D_s H H [R.lst 3 1 a_s n_s (cells (EI .i64) s) D_s] := Mem.startR (r := R.lst 3 1 a_s n_s (cells (EI .i64) s) D_s) h_s (Gr.nd h_s) lt_s
  refine WF.kg Tryz.func88 rfl rfl ?_
  refine KC.seq ?_
  refine KC.region ?_
  refine KO.pv (PV.assign rfl) rfl rfl ?_
  refine KO.nil ?_
  refine KC.seq ?_
  refine KC.region ?_
  refine KO.pv (PV.move rfl) rfl rfl ?_
  refine KO.pv (PV.move rfl) rfl rfl ?_
  refine KO.call rfl rfl rfl rfl (IndexFunc_int H a_s n_s n_s _ g_f cap_f Pf (m0.vlst (i := 0) rfl wf_s (by first | omega | (simp only [splice, List.length_append, List.length_set, List.length_replicate, List.length_map, List.length_take, List.length_drop, List.length_cons, List.length_nil] <;> omega))) x_f (fun A mA u hu => h_f A (mA.weak D_s) u hu)) fun v1 H1 q1 => ?_
  obtain ⟨z1, hv1, mc1, p1_0, p1_1, p1_2⟩ := q1
  dsimp only at hv1 mc1
  subst hv1
  have m2 := m0.seq mc1
  refine KO.pv (PV.assign rfl) rfl rfl ?_
  refine KO.nil ?_
  refine KC.seq ?_
  refine KC.seq ?_
  refine KC.region ?_
  refine KO.pv (PV.move rfl) rfl rfl ?_
  refine KO.pv (PV.eqlD rfl rfl rfl) rfl rfl ?_
  refine KO.nil ?_
  refine KC.condD rfl (fun h3 => ?_) (fun h3 => ?_)
  · refine KC.seq ?_
    refine KC.region ?_
    refine KO.pv (PV.move rfl) rfl rfl ?_
    refine KO.pv (PV.assign rfl) rfl rfl ?_
    refine KO.nil ?_
    have m5 := m2.ownLst (C := (EI .i64)) (i := 0) rfl wf_s (by first | omega | (simp only [splice, List.length_append, List.length_set, List.length_replicate, List.length_map, List.length_take, List.length_drop, List.length_cons, List.length_nil] <;> omega))
    exact KC.ret ⟨rfl, _, (.tmp rfl .nil), n_s, s, rfl, m5.pick [0] (by decide) rfl, (by first | omega | (intro h; omega) | (simp only [List.length_nil, true_and, and_true, or_true, true_or] <;> omega) | (exact ⟨by rw [take_splice (by omega), List.length_take]; omega, by omega⟩)), (by first | omega | (intro h; omega) | (simp only [List.length_nil, true_and, and_true, or_true, true_or] <;> omega) | (exact fun u hu => hu) | (exact fun u hu => hin u (mem_take_splice (by omega) hu))), (by first | omega | (intro h; omega) | (simp only [List.length_nil, true_and, and_true, or_true, true_or] <;> omega) | (exact wf_s) | (exact fun u hu => hw_l0 u (mem_take_splice (by omega) hu)))⟩
  · obtain ⟨b4, ea4, eD4, m4⟩ := m2.lstRow (i := 0) rfl (by omega)
    subst ea4 eD4
    refine KC.skip ?_
    refine KC.seq ?_
    refine KC.seq ?_
    refine KC.region ?_
    refine KO.pv (PV.move rfl) rfl rfl ?_
    refine KO.pv (PV.add rfl rfl (wrap64 (by omega) (by omega))) rfl rfl ?_
    refine KO.pv (PV.assign rfl) rfl rfl ?_
    refine KO.nil ?_
    refine KC.block ?_
    refine KC.sub (l' := [(0, .slice (some ⟨b4, 0, some 1⟩) n_s n_s), (1, .func (.func g_f) #[] cap_f.toArray), (5, .int .i64 z1), (6, .int .i64 (z1 + 1))]) (.cons rfl (.cons rfl (.cons rfl (.cons rfl .nil)))) ?_
    refine KC.loopN (fun kq lq A => ∃ (x5 : Int) (x6 : Int) (l0 : List Int), kq = ((n_s : Int) - x6).toNat ∧ lq = [(0, .slice (some ⟨b4, 0, some 1⟩) n_s n_s), (1, .func (.func g_f) #[] cap_f.toArray), (5, .int .i64 x5), (6, .int .i64 x6)] ∧ Mem [b4] H A [R.row b4 3 false (cells (EI .i64) l0)] ∧ ((z1 + 1) ≤ x6 ∧ x6 ≤ (n_s : Int)) ∧ (0 ≤ x5 ∧ x5 < x6) ∧ (l0.length = n_s) ∧ (∀ u ∈ l0, (EI .i64).wf u) ∧ (∀ u ∈ l0, u ∈ s)) ?_ (((n_s : Int) - (z1 + 1)).toNat) ⟨z1, (z1 + 1), s, rfl, rfl, (m4.pick [0] (by decide) rfl), (by first | omega | assumption | (constructor <;> omega)), (by first | omega | assumption | (constructor <;> omega)), (by first | omega | (simp only [splice, List.length_append, List.length_set, List.length_replicate, List.length_map, List.length_take, List.length_drop, List.length_cons, List.length_nil] <;> omega)), wf_s, (fun u hu => hu)⟩
    rintro kq lq A6 ⟨x5, x6, l0, rfl, rfl, m7, hr5, hi5_0, hl_l0, hw_l0, hin⟩
    refine KC.seq ?_
    refine KC.seq ?_
    refine KC.region ?_
    refine KO.pv (PV.move rfl) rfl rfl ?_
    refine KO.pv (PV.move rfl) rfl rfl ?_
    refine KO.pv (PV.len un22_B2 rfl) rfl rfl ?_
    refine KO.pv (PV.lssD rfl rfl rfl) rfl rfl ?_
    refine KO.nil ?_
    refine KC.condD rfl (fun h8 => ?_) (fun h8 => ?_)
    · refine KC.skip ?_
      refine KC.seq ?_
      refine KC.block ?_
      refine KC.seq ?_
      refine KC.region ?_
      refine KO.pv (PV.move rfl) rfl rfl ?_
      refine KO.pv (PV.move rfl) rfl rfl ?_
      refine KO.pv (PV.indexAddrZ un22_B2 sz3_B2 rfl rfl rfl (by omega) (by omega)) rfl rfl ?_
      obtain ⟨e10, hx10⟩ : ∃ x, (l0)[(x6).toNat]? = some x := ⟨_, List.getElem?_eq_getElem (by first | omega | (simp only [splice, List.length_append, List.length_set, List.length_replicate, List.length_map, List.length_take, List.length_drop, List.length_cons, List.length_nil] <;> omega))⟩
      have hw10 := hw_l0 _ (List.mem_of_getElem? hx10)
      have hw10 : IntKind.i64.wrap e10 = e10 := hw10
      obtain ⟨lo10, hi10⟩ := rangei64 hw10
      have hin10 := hin _ (List.mem_of_getElem? hx10)
      refine KO.load1 ag3_B2 rfl (m7.row (i := 0) rfl) (cells_at1 hx10 rfl) rfl rfl ?_
      refine KO.pv (PV.assign rfl) rfl rfl ?_
      refine KO.nil ?_
      refine KC.seq ?_
      refine KC.region ?_
      refine KO.pv (PV.move rfl) rfl rfl ?_
      refine KO.pv (PV.move rfl) rfl rfl ?_
      refine KO.callV rfl x_f rfl rfl rfl (h_f A6 (m7.pick [] (by decide) rfl) _ (hin10)) fun v11 H11 q11 => ?_
      obtain ⟨b11, hv11, mc11, pf11⟩ := q11
      dsimp only at hv11 mc11
      subst hv11
      have m12 := m7.seq mc11
      rcases Bool.eq_false_or_eq_true b11 with h13 | h13
      · subst h13
        refine KO.pv (PV.notB rfl rfl) rfl rfl ?_
        refine KO.nil ?_
        refine KC.condF rfl ?_
        refine KC.skip ?_
        refine KC.region ?_
        refine KO.pv (PV.move rfl) rfl rfl ?_
        refine KO.pv (PV.add rfl rfl (wrap64 (by omega) (by omega))) rfl rfl ?_
        refine KO.pv (PV.assign rfl) rfl rfl ?_
        refine KO.nil ?_
        exact ⟨_, _, (by omega), (.cons rfl (.cons rfl (.cons rfl (.cons rfl .nil)))), x5, (x6 + 1), l0, rfl, rfl, (m12.pick [0] (by decide) rfl), (by first | omega | assumption | (constructor <;> omega)), (by first | omega | assumption | (constructor <;> omega)), (by first | omega | (simp only [splice, List.length_append, List.length_set, List.length_replicate, List.length_map, List.length_take, List.length_drop, List.length_cons, List.length_nil] <;> omega)), hw_l0, hin⟩
      · subst h13
        refine KO.pv (PV.notB rfl rfl) rfl rfl ?_
        refine KO.nil ?_
        refine KC.condT rfl ?_
        refine KC.seq ?_
        refine KC.region ?_
        refine KO.pv (PV.move rfl) rfl rfl ?_
        refine KO.pv (PV.move rfl) rfl rfl ?_
        refine KO.pv (PV.move rfl) rfl rfl ?_
        refine KO.pv (PV.indexAddrZ un22_B2 sz3_B2 rfl rfl rfl (by omega) (by omega)) rfl rfl ?_
        refine KO.storeM m12 (i := 0) rfl sz3_B2 rfl rfl rfl (cells_room (C := (EI .i64)) (xs := l0) (i := (x5).toNat) (by first | omega | (simp only [splice, List.length_append, List.length_set, List.length_replicate, List.length_map, List.length_take, List.length_drop, List.length_cons, List.length_nil] <;> omega)) rfl) (cells_put0 (C := (EI .i64)) (xs := l0) (i := (x5).toNat) e10 (by first | omega | (simp only [splice, List.length_append, List.length_set, List.length_replicate, List.length_map, List.length_take, List.length_drop, List.length_cons, List.length_nil] <;> omega))) rfl fun H15 m16 => ?_
        refine KO.nil ?_
        refine KC.region ?_
        refine KO.pv (PV.move rfl) rfl rfl ?_
        refine KO.pv (PV.add rfl rfl (wrap64 (by omega) (by omega))) rfl rfl ?_
        refine KO.pv (PV.assign rfl) rfl rfl ?_
        refine KO.nil ?_
        refine KC.region ?_
        refine KO.pv (PV.move rfl) rfl rfl ?_
        refine KO.pv (PV.add rfl rfl (wrap64 (by omega) (by omega))) rfl rfl ?_
        refine KO.pv (PV.assign rfl) rfl rfl ?_
        refine KO.nil ?_
        exact ⟨_, _, (by omega), (.cons rfl (.cons rfl (.cons rfl (.cons rfl .nil)))), (x5 + 1), (x6 + 1), (l0.set ((x5).toNat) e10), rfl, rfl, (m16.pick [0] (by decide) rfl), (by first | omega | assumption | (constructor <;> omega)), (by first | omega | assumption | (constructor <;> omega)), (by first | omega | (simp only [splice, List.length_append, List.length_set, List.length_replicate, List.length_map, List.length_take, List.length_drop, List.length_cons, List.length_nil] <;> omega)), (all_set hw_l0 (wf64 (by omega) (by omega))), (all_set hin (by first | omega | assumption | (constructor <;> omega)))⟩
    · refine KC.exit ?_
      refine KC.seq ?_
      refine KC.region ?_
      refine KO.pv (PV.move rfl) rfl rfl ?_
      refine KO.pv (PV.move rfl) rfl rfl ?_
      refine KO.pv (PV.slice rfl (fun _ h => by cases h; exact ⟨_, rfl, rfl⟩) (fun h => by cases h) (fun _ h => by cases h) (fun _ => rfl) (fun _ h => by cases h) (fun _ => rfl) (sliceQ un22_B2 sz3_B2 (boundA_int (by omega) (by omega)) (by omega))) rfl rfl ?_
      refine KO.clearM (C := (EI .i64)) (l0 := ((x5).toNat)) 0 m7 (i := 0) rfl el22_B2 ez3_B2 rfl (by first | omega | (simp only [splice, List.length_append, List.length_set, List.length_replicate, List.length_map, List.length_take, List.length_drop, List.length_cons, List.length_nil] <;> omega)) rfl fun H17 m18 => ?_
      refine KO.nil ?_
      refine KC.seq ?_
      refine KC.region ?_
      refine KO.pv (PV.move rfl) rfl rfl ?_
      refine KO.pv (PV.move rfl) rfl rfl ?_
      refine KO.pv (PV.slice rfl (fun _ h => by cases h) (fun _ => rfl) (fun _ h => by cases h; exact ⟨_, rfl, rfl⟩) (fun h => by cases h) (fun _ h => by cases h) (fun _ => rfl) (sliceTo un22_B2 sz3_B2 (m18.vrow (i := 0) rfl (all_splice hw_l0 (all_rep (wf64 (by omega) (by omega)))) (by first | omega | (simp only [splice, List.length_append, List.length_set, List.length_replicate, List.length_map, List.length_take, List.length_drop, List.length_cons, List.length_nil] <;> omega)) (by omega) (by omega)) (by omega) (by omega))) rfl rfl ?_
      refine KO.pv (PV.assign rfl) rfl rfl ?_
      refine KO.nil ?_
      have m19 := m18.ownTake (C := (EI .i64)) (i := 0) (sp := some 1) (n := (x5).toNat) (c := n_s) rfl (all_splice hw_l0 (all_rep (wf64 (by omega) (by omega)))) (by first | omega | (simp only [splice, List.length_append, List.length_set, List.length_replicate, List.length_map, List.length_take, List.length_drop, List.length_cons, List.length_nil] <;> omega)) (by omega) (by omega)
      exact KC.ret ⟨rfl, _, (.tmp rfl .nil), ((x5).toNat), ((splice l0 ((x5).toNat) (List.replicate (n_s - (x5).toNat) 0)).take ((x5).toNat)), rfl, m19.pick [0] (by decide) rfl, (by first | omega | (intro h; omega) | (simp only [List.length_nil, true_and, and_true, or_true, true_or] <;> omega) | (exact ⟨by rw [take_splice (by omega), List.length_take]; omega, by omega⟩)), (by first | omega | (intro h; omega) | (simp only [List.length_nil, true_and, and_true, or_true, true_or] <;> omega) | (exact fun u hu => hu) | (exact fun u hu => hin u (mem_take_splice (by omega) hu))), (by first | omega | (intro h; omega) | (simp only [List.length_nil, true_and, and_true, or_true, true_or] <;> omega) | (exact wf_s) | (exact fun u hu => hw_l0 u (mem_take_splice (by omega) hu)))⟩
end Go.Eng
