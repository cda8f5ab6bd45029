/- Functions of the program and of the library keep their contracts. Conditions: none beyond each theorem's own. -/
import Derived.Test.YthofopbfjpidhaaGreatDoorConeB2
import Derived.KernelRfl
set_option linter.all false
namespace Go.Eng
open Go Go.Proofs
theorem sz3_B3 : sizeT E0.P 3 = some 1 := by kernel_rfl
theorem ag24_B3 : isAggT E0.P 24 = some false := by kernel_rfl
theorem el24_B3 : elemT E0.P 24 = some 3 := by kernel_rfl
theorem ez3_B3 : elemZ E0.P 3 = some (1, [.int .i64 0]) := by kernel_rfl
theorem sb3_B3 : smallBytes E0.P 3 = true := by kernel_rfl
theorem un24_B3 : E0.P.underlying 24 = some (.slice 3) := by kernel_rfl
theorem sz24_B3 : sizeT E0.P 24 = some 1 := by kernel_rfl
theorem un42_B3 : E0.P.underlying 42 = some (.slice 24) := by kernel_rfl
theorem un3_B3 : E0.P.underlying 3 = some (.int .i64) := by kernel_rfl
theorem Grow_int (H : AHeap)  (n : Int) (w_n : IntKind.i64.wrap n = n) (h0 : 0 ≤ n) (h1 : n ≤ 330000000) : WF E0 165 [.slice none 0 0, .int .i64 n] H fun q => ∃ (a : Option Addr) (c : Nat) (zs : List Int) (D : List Nat), q.1 = .slice a 0 c ∧ Mem [] H q.2 [R.lst 3 1 a c (cells (EI .i64) zs) D] ∧ ((c : Int) = n) ∧ (zs.length = c) := by
  obtain ⟨lo_n, hi_n⟩ := rangei64 w_n
  have m0 : Mem [] H H [] := Mem.start
  refine WF.kg Tryz.func165 rfl rfl ?_
  refine KC.seq ?_
  refine KC.region ?_
  refine KO.pv (PV.assign rfl) rfl rfl ?_
  refine KO.nil ?_
  refine KC.seq ?_
  refine KC.seq ?_
  refine KC.region ?_
  refine KO.pv (PV.move rfl) rfl rfl ?_
  refine KO.pv (PV.lssD rfl rfl rfl) rfl rfl ?_
  refine KO.nil ?_
  refine KC.condD rfl (fun h1 => ?_) (fun h1 => ?_)
  · exact absurd h0 (by omega)
  · refine KC.skip ?_
    refine KC.seq ?_
    refine KC.seq ?_
    refine KC.region ?_
    refine KO.pv (PV.move rfl) rfl rfl ?_
    refine KO.pv (PV.move rfl) rfl rfl ?_
    refine KO.pv (PV.cap un24_B3 rfl rfl) rfl rfl ?_
    refine KO.pv (PV.move rfl) rfl rfl ?_
    refine KO.pv (PV.len un24_B3 rfl) rfl rfl ?_
    refine KO.pv (PV.sub rfl rfl (wrap64 (by omega) (by omega))) rfl rfl ?_
    refine KO.pv (PV.sub rfl rfl (wrap64 (by omega) (by omega))) rfl rfl ?_
    refine KO.pv (PV.assign rfl) rfl rfl ?_
    refine KO.nil ?_
    refine KC.seq ?_
    refine KC.region ?_
    refine KO.pv (PV.move rfl) rfl rfl ?_
    refine KO.pv (PV.gtrD rfl rfl rfl) rfl rfl ?_
    refine KO.nil ?_
    refine KC.condD rfl (fun h2 => ?_) (fun h2 => ?_)
    · refine KC.region ?_
      refine KO.pv (PV.move rfl) rfl rfl ?_
      refine KO.pv (PV.move rfl) rfl rfl ?_
      refine KO.pv (PV.cap un24_B3 rfl rfl) rfl rfl ?_
      refine KO.pv (PV.slice rfl (fun _ h => by cases h) (fun _ => rfl) (fun _ h => by cases h; exact ⟨_, rfl, rfl⟩) (fun h => by cases h) (fun _ h => by cases h) (fun _ => rfl) (sliceNil un24_B3 sz3_B3)) rfl rfl ?_
      refine KO.pv (PV.move rfl) rfl rfl ?_
      have m3 := m0.lnilC (EI .i64) (e := 3) none rfl
      refine KO.appendZM (C := (EI .i64)) 0 m3 (i := 0) rfl el24_B3 ez3_B3 sb3_B3 un3_B3 rfl rfl (by omega) (by omega) rfl rfl fun a5 D6 H4 m7 => ?_
      refine KO.pv (PV.move rfl) rfl rfl ?_
      refine KO.pv (PV.len un24_B3 rfl) rfl rfl ?_
      refine KO.pv (PV.slice rfl (fun _ h => by cases h) (fun _ => rfl) (fun _ h => by cases h; exact ⟨_, rfl, rfl⟩) (fun h => by cases h) (fun _ h => by cases h) (fun _ => rfl) (sliceTo un24_B3 sz3_B3 (m7.vlst (i := 0) rfl (all_rep (wf64 (by omega) (by omega))) (by first | omega | (simp only [splice, List.length_append, List.length_set, List.length_replicate, List.length_map, List.length_take, List.length_drop, List.length_cons, List.length_nil] <;> omega))) (by omega) (by omega))) rfl rfl ?_
      refine KO.pv (PV.assign rfl) rfl rfl ?_
      refine KO.nil ?_
      refine KC.seq ?_
      refine KC.region ?_
      refine KO.pv (PV.move rfl) rfl rfl ?_
      refine KO.pv (PV.assign rfl) rfl rfl ?_
      refine KO.nil ?_
      exact KC.ret ⟨rfl, _, (.tmp rfl .nil), a5, (((n - 0)).toNat), (List.replicate (((n - 0)).toNat) 0), D6, rfl, m7.pick [0] (by decide) rfl, (by first | omega | (intro h; omega) | (simp only [List.length_nil, true_and, and_true, or_true, true_or] <;> omega)), (by first | omega | (intro h; omega) | (simp only [List.length_nil, true_and, and_true, or_true, true_or] <;> omega) | rfl | (simp only [List.length_replicate] <;> omega))⟩
    · refine KC.skip ?_
      refine KC.seq ?_
      refine KC.region ?_
      refine KO.pv (PV.move rfl) rfl rfl ?_
      refine KO.pv (PV.assign rfl) rfl rfl ?_
      refine KO.nil ?_
      have m8 := m0.lnilC (EI .i64) (e := 3) none rfl
      exact KC.ret ⟨rfl, _, (.tmp rfl .nil), none, 0, [], [], rfl, m8.pick [0] (by decide) rfl, (by first | omega | (intro h; omega) | (simp only [List.length_nil, true_and, and_true, or_true, true_or] <;> omega)), (by first | omega | (intro h; omega) | (simp only [List.length_nil, true_and, and_true, or_true, true_or] <;> omega) | rfl | (simp only [List.length_replicate] <;> omega))⟩
theorem Concat_int (H : AHeap) (a_s : Option Addr) (n_s c_s : Nat) (v_s : List (Option Addr × Nat × Nat)) (s : List (List Int)) (h_s : V ES H a_s n_s c_s v_s) (i_s : VV (EI .i64) H v_s s) (tot : s.flatten.length ≤ 330000000) : WF E0 102 [.slice a_s n_s c_s] H fun q => ∃ (a : Option Addr) (n : Nat) (xs : List Int) (D : List Nat), q.1 = .slice a n n ∧ Mem [] H q.2 [R.lst 3 1 a n (cells (EI .i64) xs) D] ∧ (xs = s.flatten) := by
  obtain ⟨len_s, cap_s, max_s, wf_s⟩ := h_s.len
  have len2_s := i_s.1
  have len3_s : s.length = n_s := by omega
  have m0 : Mem [] H H [] := Mem.start
  refine WF.kg Tryz.func102 rfl rfl ?_
  refine KC.seq ?_
  refine KC.region ?_
  refine KO.pv (PV.assign rfl) rfl rfl ?_
  refine KO.nil ?_
  refine KC.seq ?_
  refine KC.region ?_
  refine KO.pv (PV.assign rfl) rfl rfl ?_
  refine KO.nil ?_
  refine KC.seq ?_
  refine KC.seq ?_
  refine KC.region ?_
  refine KO.pv (PV.move rfl) rfl rfl ?_
  refine KO.pv (PV.len un42_B3 rfl) rfl rfl ?_
  refine KO.pv (PV.move rfl) rfl rfl ?_
  refine KO.nil ?_
  refine KC.block ?_
  refine KC.sub (l' := [(0, .slice a_s n_s c_s), (2, .slice none 0 0), (3, .int .i64 0), (9, .slice a_s n_s c_s), (10, .int .i64 (n_s : Int)), (11, .int .i64 0)]) (.cons rfl (.cons rfl (.cons rfl (.cons rfl (.cons rfl (.cons rfl .nil)))))) ?_
  refine KC.loopN (fun kq lq A => ∃ (i : Int) (z : Int), kq = ((n_s : Int) - i).toNat ∧ lq = [(0, .slice a_s n_s c_s), (2, .slice none 0 0), (3, .int .i64 z), (9, .slice a_s n_s c_s), (10, .int .i64 (n_s : Int)), (11, .int .i64 i)] ∧ Mem [] H A [] ∧ (0 ≤ i ∧ i ≤ n_s) ∧ (z = ((s.take i.toNat).flatten.length : Int))) ?_ (((n_s : Int) - 0).toNat) ⟨0, 0, rfl, rfl, (m0.pick [] (by decide) rfl), (by omega), (by simp)⟩
  rintro kq lq A1 ⟨i, z, rfl, rfl, m2, hi, hz0⟩
  have fb0 := flat_le s i.toNat
  refine KC.seq ?_
  refine KC.region ?_
  refine KO.pv (PV.lssD rfl rfl rfl) rfl rfl ?_
  refine KO.nil ?_
  refine KC.seq ?_
  refine KC.condD rfl (fun h3 => ?_) (fun h3 => ?_)
  · refine KC.skip ?_
    refine KC.seq ?_
    refine KC.block ?_
    refine KC.seq ?_
    refine KC.region ?_
    obtain ⟨b4, o4, p4, r4, e4, ha4, hb4, hr4, hx4, hw4, hc4, ht4⟩ := V.at_ h_s (z := i) (by omega) (by omega)
    have hc4_0 : r4.cs[o4 + (i).toNat * 1 + 0]? = some (.slice e4.1 e4.2.1 e4.2.2) := hc4 0 (by decide)
    obtain ⟨xs4, hxs4, hV4⟩ := VV.at_ i_s hx4
    obtain ⟨len4, cap4, max4, wf4⟩ := hV4.len
    refine KO.pv (PV.indexAddrZ un42_B3 sz24_B3 rfl ha4 rfl (by omega) (by omega)) rfl rfl ?_
    refine KO.load1 ag24_B3 rfl (m2.row0 hb4 hr4) hc4_0 rfl rfl ?_
    refine KO.pv (PV.assign rfl) rfl rfl ?_
    refine KO.nil ?_
    refine KC.seq ?_
    refine KC.region ?_
    refine KO.pv (PV.move rfl) rfl rfl ?_
    refine KO.pv (PV.move rfl) rfl rfl ?_
    refine KO.pv (PV.len un24_B3 rfl) rfl rfl ?_
    have fs := flat_step (i := i) hxs4 (by omega)
    have fl : (s.take (i + 1).toNat).flatten.length = (s.take i.toNat).flatten.length + xs4.length := by rw [fs, List.length_append]
    have fb := flat_le s (i + 1).toNat
    refine KO.pv (PV.add rfl rfl (wrap64 (by omega) (by omega))) rfl rfl ?_
    refine KO.pv (PV.assign rfl) rfl rfl ?_
    refine KO.nil ?_
    refine KC.seq ?_
    refine KC.region ?_
    refine KO.pv (PV.move rfl) rfl rfl ?_
    refine KO.pv (PV.lssD rfl rfl rfl) rfl rfl ?_
    refine KO.nil ?_
    refine KC.condD rfl (fun h5 => ?_) (fun h5 => ?_)
    · exfalso; omega
    · refine KC.skip ?_
      refine KC.region ?_
      refine KO.pv (PV.add rfl rfl (wrap64 (by omega) (by omega))) rfl rfl ?_
      refine KO.pv (PV.move rfl) rfl rfl ?_
      refine KO.nil ?_
      exact ⟨_, _, (by omega), (.cons rfl (.cons rfl (.cons rfl (.cons rfl (.cons rfl (.cons rfl .nil)))))), (i + 1), (z + (e4.2.1 : Int)), rfl, rfl, (m2.pick [] (by decide) rfl), (by omega), (by omega)⟩
  · refine KC.exit ?_
    have hfull0 : s.take i.toNat = s := List.take_of_length_le (by omega)
    rw [hfull0] at hz0
    refine KC.seq ?_
    refine KC.region ?_
    refine KO.pv (PV.move rfl) rfl rfl ?_
    refine KO.call rfl rfl rfl rfl (Grow_int A1 z (wrap64 (by omega) (by omega)) (by first | omega | assumption) (by first | omega | assumption)) fun v6 H6 q6 => ?_
    obtain ⟨a6, c6, zs6, D6, hv6, mc6, p6_0, p6_1⟩ := q6
    dsimp only at hv6 mc6
    subst hv6
    have m7 := m2.seq mc6
    refine KO.pv (PV.assign rfl) rfl rfl ?_
    refine KO.nil ?_
    refine KC.seq ?_
    refine KC.seq ?_
    refine KC.region ?_
    refine KO.pv (PV.move rfl) rfl rfl ?_
    refine KO.pv (PV.len un42_B3 rfl) rfl rfl ?_
    refine KO.pv (PV.move rfl) rfl rfl ?_
    refine KO.nil ?_
    refine KC.block ?_
    refine KC.sub (l' := [(2, .slice none 0 0), (6, .slice a6 0 c6), (12, .bool (decide (i < (n_s : Int)))), (25, .slice a_s n_s c_s), (26, .int .i64 (n_s : Int)), (27, .int .i64 0)]) (.cons rfl (.cons rfl (.cons rfl (.cons rfl (.cons rfl (.cons rfl .nil)))))) ?_
    refine KC.loopN (fun kq lq A => ∃ (i2 : Int) (j : Nat) (zs : List Int), kq = ((n_s : Int) - i2).toNat ∧ lq = [(2, .slice none 0 0), (6, .slice a6 j c6), (12, .bool (decide (i < (n_s : Int)))), (25, .slice a_s n_s c_s), (26, .int .i64 (n_s : Int)), (27, .int .i64 i2)] ∧ Mem [] H A [R.lst 3 1 a6 c6 (cells (EI .i64) zs) D6] ∧ (0 ≤ i2 ∧ i2 ≤ n_s) ∧ (j = (s.take i2.toNat).flatten.length) ∧ (zs.take j = (s.take i2.toNat).flatten) ∧ (zs.length = c6)) ?_ (((n_s : Int) - 0).toNat) ⟨0, 0, zs6, rfl, rfl, (m7.pick [0] (by decide) rfl), (by omega), (by simp), (by simp), (by assumption)⟩
    rintro kq lq A8 ⟨i2, j, zs, rfl, rfl, m9, hi2, hj, hz, hzl⟩
    have fbj := flat_le s i2.toNat
    refine KC.seq ?_
    refine KC.region ?_
    refine KO.pv (PV.lssD rfl rfl rfl) rfl rfl ?_
    refine KO.nil ?_
    refine KC.seq ?_
    refine KC.condD rfl (fun h10 => ?_) (fun h10 => ?_)
    · refine KC.skip ?_
      refine KC.seq ?_
      refine KC.block ?_
      refine KC.seq ?_
      refine KC.region ?_
      obtain ⟨b11, o11, p11, r11, e11, ha11, hb11, hr11, hx11, hw11, hc11, ht11⟩ := V.at_ h_s (z := i2) (by omega) (by omega)
      have hc11_0 : r11.cs[o11 + (i2).toNat * 1 + 0]? = some (.slice e11.1 e11.2.1 e11.2.2) := hc11 0 (by decide)
      obtain ⟨xs11, hxs11, hV11⟩ := VV.at_ i_s hx11
      obtain ⟨len11, cap11, max11, wf11⟩ := hV11.len
      refine KO.pv (PV.indexAddrZ un42_B3 sz24_B3 rfl ha11 rfl (by omega) (by omega)) rfl rfl ?_
      refine KO.load1 ag24_B3 rfl (m9.row0 hb11 hr11) hc11_0 rfl rfl ?_
      refine KO.pv (PV.assign rfl) rfl rfl ?_
      refine KO.nil ?_
      refine KC.region ?_
      refine KO.pv (PV.move rfl) rfl rfl ?_
      refine KO.pv (PV.move rfl) rfl rfl ?_
      have fs := flat_step (i := i2) hxs11 (by omega)
      have fl : (s.take (i2 + 1).toNat).flatten.length = (s.take i2.toNat).flatten.length + xs11.length := by rw [fs, List.length_append]
      have fb := flat_le s (i2 + 1).toNat
      refine KO.appendB (C := (EI .i64)) m9 (i := 0) rfl el24_B3 ez3_B3 sb3_B3 un24_B3 rfl rfl (V.new (V.mem m9 hV11)) (by assumption) (by omega) (by omega) rfl rfl fun H12 m13 => ?_
      refine KO.pv (PV.assign rfl) rfl rfl ?_
      refine KO.nil ?_
      refine KC.region ?_
      refine KO.pv (PV.add rfl rfl (wrap64 (by omega) (by omega))) rfl rfl ?_
      refine KO.pv (PV.move rfl) rfl rfl ?_
      refine KO.nil ?_
      exact ⟨_, _, (by omega), (.cons rfl (.cons rfl (.cons rfl (.cons rfl (.cons rfl (.cons rfl .nil)))))), (i2 + 1), (j + e11.2.1), (zs.take j ++ (xs11 ++ zs.drop (j + e11.2.1))), rfl, rfl, (m13.pick [0] (by decide) rfl), (by omega), (by omega), (by rw [take_app (by assumption) (by omega), hz, fs]), (by have := fb; simp only [List.length_append, List.length_take, List.length_drop]; omega)⟩
    · refine KC.exit ?_
      have hfull : s.take i2.toNat = s := List.take_of_length_le (by omega)
      rw [hfull] at hj hz
      obtain rfl : c6 = j := by omega
      rw [List.take_of_length_le (by omega)] at hz
      refine KC.seq ?_
      refine KC.region ?_
      refine KO.pv (PV.move rfl) rfl rfl ?_
      refine KO.pv (PV.assign rfl) rfl rfl ?_
      refine KO.nil ?_
      exact KC.ret ⟨rfl, _, (.tmp rfl .nil), a6, c6, zs, D6, rfl, m9.pick [0] (by decide) rfl, (by first | omega | (intro h; omega) | (simp only [List.length_nil, true_and, and_true, or_true, true_or] <;> omega) | exact hz)⟩
end Go.Eng
