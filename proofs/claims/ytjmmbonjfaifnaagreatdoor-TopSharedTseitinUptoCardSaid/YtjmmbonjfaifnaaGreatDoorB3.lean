/- Functions of the program and of the library keep their contracts. Conditions: none beyond each theorem's own. -/
import Derived.Test.YtjmmbonjfaifnaaGreatDoorB2
import Derived.KernelRfl
set_option linter.all false
namespace Go.Eng
open Go Go.Proofs
theorem ag4_B3 : isAggT E0.P 4 = some false := by kernel_rfl
theorem ag3_B3 : isAggT E0.P 3 = some false := by kernel_rfl
theorem sz3_B3 : sizeT E0.P 3 = some 1 := by kernel_rfl
theorem ag22_B3 : isAggT E0.P 22 = some false := by kernel_rfl
theorem el22_B3 : elemT E0.P 22 = some 3 := by kernel_rfl
theorem ez3_B3 : elemZ E0.P 3 = some (1, [.int .i64 0]) := by kernel_rfl
theorem sb3_B3 : smallBytes E0.P 3 = true := by kernel_rfl
theorem un22_B3 : E0.P.underlying 22 = some (.slice 3) := by kernel_rfl
theorem sz22_B3 : sizeT E0.P 22 = some 1 := by kernel_rfl
theorem un4_B3 : E0.P.underlying 4 = some TypeDesc.bool := by kernel_rfl
theorem sz4_B3 : sizeT E0.P 4 = some 1 := by kernel_rfl
theorem un46_B3 : E0.P.underlying 46 = some (.slice 4) := by kernel_rfl
theorem un25_B3 : E0.P.underlying 25 = some (.slice 22) := by kernel_rfl
theorem un3_B3 : E0.P.underlying 3 = some (.int .i64) := by kernel_rfl
theorem el25_B3 : elemT E0.P 25 = some 22 := by kernel_rfl
theorem ez22_B3 : elemZ E0.P 22 = some (1, [.slice none 0 0]) := by kernel_rfl
theorem Grow_int (H : AHeap)  (n : Int) (w_n : IntKind.i64.wrap n = n) (h0 : 0 ≤ n) (h1 : n ≤ 330000000) : WF E0 120 [.slice none 0 0, .int .i64 n] H fun q => ∃ (a : Option Addr) (c : Nat) (zs : List Int) (D : List Nat), q.1 = .slice a 0 c ∧ Mem [] H q.2 [R.lst 3 1 a c (cells (EI .i64) zs) D] ∧ ((c : Int) = n) ∧ (zs.length = c) := by
  obtain ⟨lo_n, hi_n⟩ := rangei64 w_n
  have m0 : Mem [] H H [] := Mem.start
  refine WF.kg Tryz.func120 rfl rfl ?_
  refine KC.seq ?_
  refine KC.region ?_
  refine KO.pv (PV.assign rfl) rfl rfl ?_
  refine KO.nil ?_
  refine KC.seq ?_
  refine KC.seq ?_
  refine KC.region ?_
  refine KO.pv (PV.move rfl) rfl rfl ?_
  refine KO.pv (PV.lssD rfl rfl rfl) rfl rfl ?_
  refine KO.nil ?_
  refine KC.condD rfl (fun h1 => ?_) (fun h1 => ?_)
  · exact absurd h0 (by omega)
  · refine KC.skip ?_
    refine KC.seq ?_
    refine KC.seq ?_
    refine KC.region ?_
    refine KO.pv (PV.move rfl) rfl rfl ?_
    refine KO.pv (PV.move rfl) rfl rfl ?_
    refine KO.pv (PV.cap un22_B3 rfl rfl) rfl rfl ?_
    refine KO.pv (PV.move rfl) rfl rfl ?_
    refine KO.pv (PV.len un22_B3 rfl) rfl rfl ?_
    refine KO.pv (PV.sub rfl rfl (wrap64 (by omega) (by omega))) rfl rfl ?_
    refine KO.pv (PV.sub rfl rfl (wrap64 (by omega) (by omega))) rfl rfl ?_
    refine KO.pv (PV.assign rfl) rfl rfl ?_
    refine KO.nil ?_
    refine KC.seq ?_
    refine KC.region ?_
    refine KO.pv (PV.move rfl) rfl rfl ?_
    refine KO.pv (PV.gtrD rfl rfl rfl) rfl rfl ?_
    refine KO.nil ?_
    refine KC.condD rfl (fun h2 => ?_) (fun h2 => ?_)
    · refine KC.region ?_
      refine KO.pv (PV.move rfl) rfl rfl ?_
      refine KO.pv (PV.move rfl) rfl rfl ?_
      refine KO.pv (PV.cap un22_B3 rfl rfl) rfl rfl ?_
      refine KO.pv (PV.slice rfl (fun _ h => by cases h) (fun _ => rfl) (fun _ h => by cases h; exact ⟨_, rfl, rfl⟩) (fun h => by cases h) (fun _ h => by cases h) (fun _ => rfl) (sliceNil un22_B3 sz3_B3)) rfl rfl ?_
      refine KO.pv (PV.move rfl) rfl rfl ?_
      have m3 := m0.lnilC (EI .i64) (e := 3) none rfl
      refine KO.appendZM (C := (EI .i64)) 0 m3 (i := 0) rfl el22_B3 ez3_B3 sb3_B3 un3_B3 rfl rfl (by omega) (by omega) rfl rfl fun a5 D6 H4 m7 => ?_
      refine KO.pv (PV.move rfl) rfl rfl ?_
      refine KO.pv (PV.len un22_B3 rfl) rfl rfl ?_
      refine KO.pv (PV.slice rfl (fun _ h => by cases h) (fun _ => rfl) (fun _ h => by cases h; exact ⟨_, rfl, rfl⟩) (fun h => by cases h) (fun _ h => by cases h) (fun _ => rfl) (sliceTo un22_B3 sz3_B3 (m7.vlst (i := 0) rfl (all_rep (wf64 (by omega) (by omega))) (by first | omega | (simp only [splice, List.length_append, List.length_set, List.length_replicate, List.length_map, List.length_take, List.length_drop, List.length_cons, List.length_nil] <;> omega))) (by omega) (by omega))) rfl rfl ?_
      refine KO.pv (PV.assign rfl) rfl rfl ?_
      refine KO.nil ?_
      refine KC.seq ?_
      refine KC.region ?_
      refine KO.pv (PV.move rfl) rfl rfl ?_
      refine KO.pv (PV.assign rfl) rfl rfl ?_
      refine KO.nil ?_
      exact KC.ret ⟨rfl, _, (.tmp rfl .nil), a5, (((n - 0)).toNat), (List.replicate (((n - 0)).toNat) 0), D6, rfl, m7.pick [0] (by decide) rfl, (by first | omega | (intro h; omega) | (simp only [List.length_nil, true_and, and_true, or_true, true_or] <;> omega)), (by first | omega | (intro h; omega) | (simp only [List.length_nil, true_and, and_true, or_true, true_or] <;> omega) | rfl | (simp only [List.length_replicate] <;> omega))⟩
    · refine KC.skip ?_
      refine KC.seq ?_
      refine KC.region ?_
      refine KO.pv (PV.move rfl) rfl rfl ?_
      refine KO.pv (PV.assign rfl) rfl rfl ?_
      refine KO.nil ?_
      have m8 := m0.lnilC (EI .i64) (e := 3) none rfl
      exact KC.ret ⟨rfl, _, (.tmp rfl .nil), none, 0, [], [], rfl, m8.pick [0] (by decide) rfl, (by first | omega | (intro h; omega) | (simp only [List.length_nil, true_and, and_true, or_true, true_or] <;> omega)), (by first | omega | (intro h; omega) | (simp only [List.length_nil, true_and, and_true, or_true, true_or] <;> omega) | rfl | (simp only [List.length_replicate] <;> omega))⟩
theorem Concat_int (H : AHeap) (a_s : Option Addr) (n_s c_s : Nat) (v_s : List (Option Addr × Nat × Nat)) (s : List (List Int)) (h_s : V ES H a_s n_s c_s v_s) (i_s : VV (EI .i64) H v_s s) (tot : s.flatten.length ≤ 330000000) : WF E0 89 [.slice a_s n_s c_s] H fun q => ∃ (a : Option Addr) (n : Nat) (xs : List Int) (D : List Nat), q.1 = .slice a n n ∧ Mem [] H q.2 [R.lst 3 1 a n (cells (EI .i64) xs) D] ∧ (xs = s.flatten) := by
  obtain ⟨len_s, cap_s, max_s, wf_s⟩ := h_s.len
  have len2_s := i_s.1
  have len3_s : s.length = n_s := by omega
  have m0 : Mem [] H H [] := Mem.start
  refine WF.kg Tryz.func89 rfl rfl ?_
  refine KC.seq ?_
  refine KC.region ?_
  refine KO.pv (PV.assign rfl) rfl rfl ?_
  refine KO.nil ?_
  refine KC.seq ?_
  refine KC.region ?_
  refine KO.pv (PV.assign rfl) rfl rfl ?_
  refine KO.nil ?_
  refine KC.seq ?_
  refine KC.seq ?_
  refine KC.region ?_
  refine KO.pv (PV.move rfl) rfl rfl ?_
  refine KO.pv (PV.len un25_B3 rfl) rfl rfl ?_
  refine KO.pv (PV.move rfl) rfl rfl ?_
  refine KO.nil ?_
  refine KC.block ?_
  refine KC.sub (l' := [(0, .slice a_s n_s c_s), (2, .slice none 0 0), (3, .int .i64 0), (9, .slice a_s n_s c_s), (10, .int .i64 (n_s : Int)), (11, .int .i64 0)]) (.cons rfl (.cons rfl (.cons rfl (.cons rfl (.cons rfl (.cons rfl .nil)))))) ?_
  refine KC.loopN (fun kq lq A => ∃ (i : Int) (z : Int), kq = ((n_s : Int) - i).toNat ∧ lq = [(0, .slice a_s n_s c_s), (2, .slice none 0 0), (3, .int .i64 z), (9, .slice a_s n_s c_s), (10, .int .i64 (n_s : Int)), (11, .int .i64 i)] ∧ Mem [] H A [] ∧ (0 ≤ i ∧ i ≤ n_s) ∧ (z = ((s.take i.toNat).flatten.length : Int))) ?_ (((n_s : Int) - 0).toNat) ⟨0, 0, rfl, rfl, (m0.pick [] (by decide) rfl), (by omega), (by simp)⟩
  rintro kq lq A1 ⟨i, z, rfl, rfl, m2, hi, hz0⟩
  have fb0 := flat_le s i.toNat
  refine KC.seq ?_
  refine KC.region ?_
  refine KO.pv (PV.lssD rfl rfl rfl) rfl rfl ?_
  refine KO.nil ?_
  refine KC.seq ?_
  refine KC.condD rfl (fun h3 => ?_) (fun h3 => ?_)
  · refine KC.skip ?_
    refine KC.seq ?_
    refine KC.block ?_
    refine KC.seq ?_
    refine KC.region ?_
    obtain ⟨b4, o4, p4, r4, e4, ha4, hb4, hr4, hx4, hw4, hc4, ht4⟩ := V.at_ h_s (z := i) (by omega) (by omega)
    have hc4_0 : r4.cs[o4 + (i).toNat * 1 + 0]? = some (.slice e4.1 e4.2.1 e4.2.2) := hc4 0 (by decide)
    obtain ⟨xs4, hxs4, hV4⟩ := VV.at_ i_s hx4
    obtain ⟨len4, cap4, max4, wf4⟩ := hV4.len
    refine KO.pv (PV.indexAddrZ un25_B3 sz22_B3 rfl ha4 rfl (by omega) (by omega)) rfl rfl ?_
    refine KO.load1 ag22_B3 rfl (m2.row0 hb4 hr4) hc4_0 rfl rfl ?_
    refine KO.pv (PV.assign rfl) rfl rfl ?_
    refine KO.nil ?_
    refine KC.seq ?_
    refine KC.region ?_
    refine KO.pv (PV.move rfl) rfl rfl ?_
    refine KO.pv (PV.move rfl) rfl rfl ?_
    refine KO.pv (PV.len un22_B3 rfl) rfl rfl ?_
    have fs := flat_step (i := i) hxs4 (by omega)
    have fl : (s.take (i + 1).toNat).flatten.length = (s.take i.toNat).flatten.length + xs4.length := by rw [fs, List.length_append]
    have fb := flat_le s (i + 1).toNat
    refine KO.pv (PV.add rfl rfl (wrap64 (by omega) (by omega))) rfl rfl ?_
    refine KO.pv (PV.assign rfl) rfl rfl ?_
    refine KO.nil ?_
    refine KC.seq ?_
    refine KC.region ?_
    refine KO.pv (PV.move rfl) rfl rfl ?_
    refine KO.pv (PV.lssD rfl rfl rfl) rfl rfl ?_
    refine KO.nil ?_
    refine KC.condD rfl (fun h5 => ?_) (fun h5 => ?_)
    · exfalso; omega
    · refine KC.skip ?_
      refine KC.region ?_
      refine KO.pv (PV.add rfl rfl (wrap64 (by omega) (by omega))) rfl rfl ?_
      refine KO.pv (PV.move rfl) rfl rfl ?_
      refine KO.nil ?_
      exact ⟨_, _, (by omega), (.cons rfl (.cons rfl (.cons rfl (.cons rfl (.cons rfl (.cons rfl .nil)))))), (i + 1), (z + (e4.2.1 : Int)), rfl, rfl, (m2.pick [] (by decide) rfl), (by omega), (by omega)⟩
  · refine KC.exit ?_
    have hfull0 : s.take i.toNat = s := List.take_of_length_le (by omega)
    rw [hfull0] at hz0
    refine KC.seq ?_
    refine KC.region ?_
    refine KO.pv (PV.move rfl) rfl rfl ?_
    refine KO.call rfl rfl rfl rfl (Grow_int A1 z (wrap64 (by omega) (by omega)) (by first | omega | assumption) (by first | omega | assumption)) fun v6 H6 q6 => ?_
    obtain ⟨a6, c6, zs6, D6, hv6, mc6, p6_0, p6_1⟩ := q6
    dsimp only at hv6 mc6
    subst hv6
    have m7 := m2.seq mc6
    refine KO.pv (PV.assign rfl) rfl rfl ?_
    refine KO.nil ?_
    refine KC.seq ?_
    refine KC.seq ?_
    refine KC.region ?_
    refine KO.pv (PV.move rfl) rfl rfl ?_
    refine KO.pv (PV.len un25_B3 rfl) rfl rfl ?_
    refine KO.pv (PV.move rfl) rfl rfl ?_
    refine KO.nil ?_
    refine KC.block ?_
    refine KC.sub (l' := [(2, .slice none 0 0), (6, .slice a6 0 c6), (12, .bool (decide (i < (n_s : Int)))), (25, .slice a_s n_s c_s), (26, .int .i64 (n_s : Int)), (27, .int .i64 0)]) (.cons rfl (.cons rfl (.cons rfl (.cons rfl (.cons rfl (.cons rfl .nil)))))) ?_
    refine KC.loopN (fun kq lq A => ∃ (i2 : Int) (j : Nat) (zs : List Int), kq = ((n_s : Int) - i2).toNat ∧ lq = [(2, .slice none 0 0), (6, .slice a6 j c6), (12, .bool (decide (i < (n_s : Int)))), (25, .slice a_s n_s c_s), (26, .int .i64 (n_s : Int)), (27, .int .i64 i2)] ∧ Mem [] H A [R.lst 3 1 a6 c6 (cells (EI .i64) zs) D6] ∧ (0 ≤ i2 ∧ i2 ≤ n_s) ∧ (j = (s.take i2.toNat).flatten.length) ∧ (zs.take j = (s.take i2.toNat).flatten) ∧ (zs.length = c6)) ?_ (((n_s : Int) - 0).toNat) ⟨0, 0, zs6, rfl, rfl, (m7.pick [0] (by decide) rfl), (by omega), (by simp), (by simp), (by assumption)⟩
    rintro kq lq A8 ⟨i2, j, zs, rfl, rfl, m9, hi2, hj, hz, hzl⟩
    have fbj := flat_le s i2.toNat
    refine KC.seq ?_
    refine KC.region ?_
    refine KO.pv (PV.lssD rfl rfl rfl) rfl rfl ?_
    refine KO.nil ?_
    refine KC.seq ?_
    refine KC.condD rfl (fun h10 => ?_) (fun h10 => ?_)
    · refine KC.skip ?_
      refine KC.seq ?_
      refine KC.block ?_
      refine KC.seq ?_
      refine KC.region ?_
      obtain ⟨b11, o11, p11, r11, e11, ha11, hb11, hr11, hx11, hw11, hc11, ht11⟩ := V.at_ h_s (z := i2) (by omega) (by omega)
      have hc11_0 : r11.cs[o11 + (i2).toNat * 1 + 0]? = some (.slice e11.1 e11.2.1 e11.2.2) := hc11 0 (by decide)
      obtain ⟨xs11, hxs11, hV11⟩ := VV.at_ i_s hx11
      obtain ⟨len11, cap11, max11, wf11⟩ := hV11.len
      refine KO.pv (PV.indexAddrZ un25_B3 sz22_B3 rfl ha11 rfl (by omega) (by omega)) rfl rfl ?_
      refine KO.load1 ag22_B3 rfl (m9.row0 hb11 hr11) hc11_0 rfl rfl ?_
      refine KO.pv (PV.assign rfl) rfl rfl ?_
      refine KO.nil ?_
      refine KC.region ?_
      refine KO.pv (PV.move rfl) rfl rfl ?_
      refine KO.pv (PV.move rfl) rfl rfl ?_
      have fs := flat_step (i := i2) hxs11 (by omega)
      have fl : (s.take (i2 + 1).toNat).flatten.length = (s.take i2.toNat).flatten.length + xs11.length := by rw [fs, List.length_append]
      have fb := flat_le s (i2 + 1).toNat
      refine KO.appendB (C := (EI .i64)) m9 (i := 0) rfl el22_B3 ez3_B3 sb3_B3 un22_B3 rfl rfl (V.new (V.mem m9 hV11)) (by assumption) (by omega) (by omega) rfl rfl fun H12 m13 => ?_
      refine KO.pv (PV.assign rfl) rfl rfl ?_
      refine KO.nil ?_
      refine KC.region ?_
      refine KO.pv (PV.add rfl rfl (wrap64 (by omega) (by omega))) rfl rfl ?_
      refine KO.pv (PV.move rfl) rfl rfl ?_
      refine KO.nil ?_
      exact ⟨_, _, (by omega), (.cons rfl (.cons rfl (.cons rfl (.cons rfl (.cons rfl (.cons rfl .nil)))))), (i2 + 1), (j + e11.2.1), (zs.take j ++ (xs11 ++ zs.drop (j + e11.2.1))), rfl, rfl, (m13.pick [0] (by decide) rfl), (by omega), (by omega), (by rw [take_app (by assumption) (by omega), hz, fs]), (by have := fb; simp only [List.length_append, List.length_take, List.length_drop]; omega)⟩
    · refine KC.exit ?_
      have hfull : s.take i2.toNat = s := List.take_of_length_le (by omega)
      rw [hfull] at hj hz
      obtain rfl : c6 = j := by omega
      rw [List.take_of_length_le (by omega)] at hz
      refine KC.seq ?_
      refine KC.region ?_
      refine KO.pv (PV.move rfl) rfl rfl ?_
      refine KO.pv (PV.assign rfl) rfl rfl ?_
      refine KO.nil ?_
      exact KC.ret ⟨rfl, _, (.tmp rfl .nil), a6, c6, zs, D6, rfl, m9.pick [0] (by decide) rfl, (by first | omega | (intro h; omega) | (simp only [List.length_nil, true_and, and_true, or_true, true_or] <;> omega) | exact hz)⟩
theorem cl_both (H : AHeap) (v : Int) (a_a : Option Addr) (n_a c_a : Nat) (a : List Int) (a_b : Option Addr) (n_b c_b : Nat) (b : List Int) (w_v : IntKind.i64.wrap v = v) (h_a : V (EI .i64) H a_a n_a c_a a) (h_b : V (EI .i64) H a_b n_b c_b b) : WF E0 85 [.int .i64 v, .slice a_a n_a c_a, .slice a_b n_b c_b] H fun q => ∃ (e : Int), q.1 = .int .i64 e ∧ Mem [] H q.2 [] ∧ (e = 0 → ClOK v a ∧ ClOK v b) ∧ (0 ≤ e ∧ e ≤ 100) := by
  obtain ⟨lo_v, hi_v⟩ := rangei64 w_v
  obtain ⟨len_a, cap_a, max_a, wf_a⟩ := h_a.len
  obtain ⟨len_b, cap_b, max_b, wf_b⟩ := h_b.len
  have m0 : Mem [] H H [] := Mem.start
  refine WF.kg Tryz.func85 rfl rfl ?_
  refine KC.seq ?_
  refine KC.region ?_
  refine KO.pv (PV.assign rfl) rfl rfl ?_
  refine KO.nil ?_
  refine KC.seq ?_
  refine KC.seq ?_
  refine KC.region ?_
  refine KO.pv (PV.move rfl) rfl rfl ?_
  refine KO.pv (PV.move rfl) rfl rfl ?_
  refine KO.call rfl rfl rfl rfl (cl_Check H v a_a n_a c_a _ (wrap64 (by omega) (by omega)) (V.mem m0 h_a)) fun v1 H1 q1 => ?_
  obtain ⟨e1, hv1, mc1, p1_0, p1_1⟩ := q1
  dsimp only at hv1 mc1
  subst hv1
  have m2 := m0.seq mc1
  refine KO.pv (PV.assign rfl) rfl rfl ?_
  refine KO.nil ?_
  refine KC.seq ?_
  refine KC.region ?_
  refine KO.pv (PV.move rfl) rfl rfl ?_
  refine KO.pv (PV.neqD rfl rfl rfl) rfl rfl ?_
  refine KO.nil ?_
  refine KC.condD rfl (fun h3 => ?_) (fun h3 => ?_)
  · refine KC.seq ?_
    refine KC.region ?_
    refine KO.pv (PV.move rfl) rfl rfl ?_
    refine KO.pv (PV.assign rfl) rfl rfl ?_
    refine KO.nil ?_
    exact KC.ret ⟨rfl, _, (.tmp rfl .nil), e1, rfl, m2.pick [] (by decide) rfl, (by first | omega | (intro h; omega) | (simp only [List.length_nil, true_and, and_true, or_true, true_or] <;> omega)), (by first | omega | (intro h; omega) | (simp only [List.length_nil, true_and, and_true, or_true, true_or] <;> omega))⟩
  · have p1_0t := p1_0 (by omega)
    obtain ⟨p1_0_v0, p1_0_v1, p1_0_l, p1_0_lt, p1_0_n⟩ := id p1_0t
    refine KC.skip ?_
    refine KC.seq ?_
    refine KC.region ?_
    refine KO.pv (PV.move rfl) rfl rfl ?_
    refine KO.pv (PV.move rfl) rfl rfl ?_
    refine KO.call rfl rfl rfl rfl (cl_Check H1 v a_b n_b c_b _ (wrap64 (by omega) (by omega)) (V.mem m2 h_b)) fun v4 H4 q4 => ?_
    obtain ⟨e4, hv4, mc4, p4_0, p4_1⟩ := q4
    dsimp only at hv4 mc4
    subst hv4
    have m5 := m2.seq mc4
    refine KO.pv (PV.assign rfl) rfl rfl ?_
    refine KO.nil ?_
    exact KC.ret ⟨rfl, _, (.tmp rfl .nil), e4, rfl, m5.pick [] (by decide) rfl, (by first | omega | (intro h; omega) | (simp only [List.length_nil, true_and, and_true, or_true, true_or] <;> omega) | (exact fun h => ⟨by assumption, p4_0 h⟩)), (by first | omega | (intro h; omega) | (simp only [List.length_nil, true_and, and_true, or_true, true_or] <;> omega))⟩
theorem cl_Make (H : AHeap) (v : Int) (a_l : Option Addr) (n_l c_l : Nat) (l : List Int) (w_v : IntKind.i64.wrap v = v) (h_l : V (EI .i64) H a_l n_l c_l l) (hb : n_l ≤ 330000000) : WF E0 24 [.int .i64 v, .slice a_l n_l c_l] H fun q => ∃ (a : Option Addr) (k : Nat) (n : Nat) (ys : List Int) (D : List Nat) (o : Bool) (e : Int), q.1 = .tuple #[.slice a k n, .bool o, .int .i64 e] ∧ Mem [] H q.2 [R.own (EI .i64) a k n ys D] ∧ (ys.length = k ∧ k ≤ n_l ∧ n ≤ n_l) ∧ (∀ u ∈ ys, (EI .i64).wf u) ∧ (e = 0 → 0 ≤ v ∧ v ≤ 4000 ∧ ∀ u ∈ ys, 2 ≤ u ∧ u / 2 ≤ v) ∧ (0 ≤ e ∧ e ≤ 100) := by
  obtain ⟨lo_v, hi_v⟩ := rangei64 w_v
  obtain ⟨len_l, cap_l, max_l, wf_l⟩ := h_l.len
  have m0 : Mem [] H H [] := Mem.start
  refine WF.kg Tryz.func24 rfl rfl ?_
  refine KC.seq ?_
  refine KC.region ?_
  refine KO.pv (PV.assign rfl) rfl rfl ?_
  refine KO.pv (PV.assign rfl) rfl rfl ?_
  refine KO.pv (PV.assign rfl) rfl rfl ?_
  refine KO.nil ?_
  refine KC.seq ?_
  refine KC.seq ?_
  refine KC.region ?_
  refine KO.pv (PV.move rfl) rfl rfl ?_
  by_cases h1 : v < 0
  · refine KO.pv (PV.lssD rfl rfl (decide_eq_true h1)) rfl rfl ?_
    refine KO.pv (PV.move rfl) rfl rfl ?_
    refine KO.no rfl rfl rfl ?_
    refine KO.no rfl rfl rfl ?_
    refine KO.pv (PV.pickT rfl rfl rfl) rfl rfl ?_
    refine KO.nil ?_
    refine KC.condT rfl ?_
    refine KC.seq ?_
    refine KC.region ?_
    refine KO.pv (PV.assign rfl) rfl rfl ?_
    refine KO.pv (PV.assign rfl) rfl rfl ?_
    refine KO.pv (PV.assign rfl) rfl rfl ?_
    refine KO.nil ?_
    have m2 := m0.ownNil (C := (EI .i64))
    exact KC.ret ⟨rfl, _, (.tmp rfl (.tmp rfl (.tmp rfl .nil))), none, 0, 0, [], [], false, 2, rfl, m2.pick [0] (by decide) rfl, (by first | omega | (intro h; omega) | (simp only [List.length_nil, true_and, and_true, or_true, true_or] <;> omega)), (by first | omega | (intro h; omega) | (simp only [List.length_nil, true_and, and_true, or_true, true_or] <;> omega) | exact all_nil | assumption), (by first | omega | (intro h; omega) | (simp only [List.length_nil, true_and, and_true, or_true, true_or] <;> omega) | (exact fun _ => ⟨by omega, by omega, all_nil⟩) | (exact fun _ => ⟨by omega, by omega, hy⟩)), (by first | omega | (intro h; omega) | (simp only [List.length_nil, true_and, and_true, or_true, true_or] <;> omega))⟩
  · refine KO.pv (PV.lssD rfl rfl (decide_eq_false h1)) rfl rfl ?_
    refine KO.pv (PV.move rfl) rfl rfl ?_
    refine KO.pv (PV.move rfl) rfl rfl ?_
    refine KO.pv (PV.gtrD rfl rfl rfl) rfl rfl ?_
    refine KO.pv (PV.pickF rfl rfl rfl) rfl rfl ?_
    refine KO.nil ?_
    refine KC.condD rfl (fun h3 => ?_) (fun h3 => ?_)
    · refine KC.seq ?_
      refine KC.region ?_
      refine KO.pv (PV.assign rfl) rfl rfl ?_
      refine KO.pv (PV.assign rfl) rfl rfl ?_
      refine KO.pv (PV.assign rfl) rfl rfl ?_
      refine KO.nil ?_
      have m4 := m0.ownNil (C := (EI .i64))
      exact KC.ret ⟨rfl, _, (.tmp rfl (.tmp rfl (.tmp rfl .nil))), none, 0, 0, [], [], false, 2, rfl, m4.pick [0] (by decide) rfl, (by first | omega | (intro h; omega) | (simp only [List.length_nil, true_and, and_true, or_true, true_or] <;> omega)), (by first | omega | (intro h; omega) | (simp only [List.length_nil, true_and, and_true, or_true, true_or] <;> omega) | exact all_nil | assumption), (by first | omega | (intro h; omega) | (simp only [List.length_nil, true_and, and_true, or_true, true_or] <;> omega) | (exact fun _ => ⟨by omega, by omega, all_nil⟩) | (exact fun _ => ⟨by omega, by omega, hy⟩)), (by first | omega | (intro h; omega) | (simp only [List.length_nil, true_and, and_true, or_true, true_or] <;> omega))⟩
    · refine KC.skip ?_
      refine KC.seq ?_
      refine KC.seq ?_
      refine KC.region ?_
      refine KO.pv (PV.move rfl) rfl rfl ?_
      refine KO.pv (PV.len un22_B3 rfl) rfl rfl ?_
      refine KO.pv (PV.move rfl) rfl rfl ?_
      refine KO.nil ?_
      refine KC.block ?_
      refine KC.sub (l' := [(0, .int .i64 v), (1, .slice a_l n_l c_l), (16, .slice a_l n_l c_l), (17, .int .i64 (n_l : Int)), (18, .int .i64 0)]) (.cons rfl (.cons rfl (.cons rfl (.cons rfl (.cons rfl .nil))))) ?_
      refine KC.loopN (fun kq lq A => ∃ (x18 : Int), kq = ((n_l : Int) - x18).toNat ∧ lq = [(0, .int .i64 v), (1, .slice a_l n_l c_l), (16, .slice a_l n_l c_l), (17, .int .i64 (n_l : Int)), (18, .int .i64 x18)] ∧ Mem [] H A [] ∧ (0 ≤ x18 ∧ x18 ≤ (n_l : Int)) ∧ (Ahead l x18 fun _ u => 2 ≤ u ∧ u / 2 ≤ v)) ?_ (((n_l : Int) - 0).toNat) ⟨0, rfl, rfl, (m0.pick [] (by decide) rfl), (by first | omega | assumption | (constructor <;> omega)), Ahead.zero⟩
      rintro kq lq A5 ⟨x18, rfl, rfl, m6, hr4, hpre⟩
      refine KC.seq ?_
      refine KC.region ?_
      refine KO.pv (PV.lssD rfl rfl rfl) rfl rfl ?_
      refine KO.nil ?_
      refine KC.seq ?_
      refine KC.condD rfl (fun h7 => ?_) (fun h7 => ?_)
      · refine KC.skip ?_
        refine KC.seq ?_
        refine KC.block ?_
        refine KC.seq ?_
        refine KC.region ?_
        obtain ⟨b8, o8, p8, r8, e8, ha8, hb8, hr8, hx8, hw8, hc8, ht8⟩ := V.at_ h_l (z := x18) (by omega) (by omega)
        have hc8_0 : r8.cs[o8 + (x18).toNat * 1 + 0]? = some (.int .i64 e8) := hc8 0 (by decide)
        have hw8 : IntKind.i64.wrap e8 = e8 := hw8
        obtain ⟨lo8, hi8⟩ := rangei64 hw8
        refine KO.pv (PV.indexAddrZ un22_B3 sz3_B3 rfl ha8 rfl (by omega) (by omega)) rfl rfl ?_
        refine KO.load1 ag3_B3 rfl (m6.row0 hb8 hr8) hc8_0 rfl rfl ?_
        refine KO.pv (PV.assign rfl) rfl rfl ?_
        refine KO.nil ?_
        refine KC.seq ?_
        refine KC.region ?_
        refine KO.pv (PV.move rfl) rfl rfl ?_
        refine KO.pv (PV.move rfl) rfl rfl ?_
        refine KO.call rfl rfl rfl rfl (cl_known A5 v e8 (wrap64 (by omega) (by omega)) (wrap64 (by omega) (by omega))) fun v9 H9 q9 => ?_
        obtain ⟨o9, hv9, mc9, p9_0, p9_1⟩ := q9
        dsimp only at hv9 mc9
        subst hv9
        have m10 := m6.seq mc9
        rcases Bool.eq_false_or_eq_true o9 with h11 | h11
        · subst h11
          have p9_0t := p9_0 rfl
          refine KO.pv (PV.notB rfl rfl) rfl rfl ?_
          refine KO.nil ?_
          refine KC.condF rfl ?_
          refine KC.skip ?_
          refine KC.region ?_
          refine KO.pv (PV.add rfl rfl (wrap64 (by omega) (by omega))) rfl rfl ?_
          refine KO.pv (PV.move rfl) rfl rfl ?_
          refine KO.nil ?_
          exact ⟨_, _, (by omega), (.cons rfl (.cons rfl (.cons rfl (.cons rfl (.cons rfl .nil))))), (x18 + 1), rfl, rfl, (m10.pick [] (by decide) rfl), (by first | omega | assumption | (constructor <;> omega)), (hpre.step (by assumption) (by omega) (by assumption))⟩
        · subst h11
          have p9_1t := p9_1 rfl
          refine KO.pv (PV.notB rfl rfl) rfl rfl ?_
          refine KO.nil ?_
          refine KC.condT rfl ?_
          refine KC.seq ?_
          refine KC.region ?_
          refine KO.pv (PV.assign rfl) rfl rfl ?_
          refine KO.pv (PV.assign rfl) rfl rfl ?_
          refine KO.pv (PV.assign rfl) rfl rfl ?_
          refine KO.nil ?_
          have m12 := m10.ownNil (C := (EI .i64))
          exact KC.ret ⟨rfl, _, (.tmp rfl (.tmp rfl (.tmp rfl .nil))), none, 0, 0, [], [], false, 8, rfl, m12.pick [0] (by decide) rfl, (by first | omega | (intro h; omega) | (simp only [List.length_nil, true_and, and_true, or_true, true_or] <;> omega)), (by first | omega | (intro h; omega) | (simp only [List.length_nil, true_and, and_true, or_true, true_or] <;> omega) | exact all_nil | assumption), (by first | omega | (intro h; omega) | (simp only [List.length_nil, true_and, and_true, or_true, true_or] <;> omega) | (exact fun _ => ⟨by omega, by omega, all_nil⟩) | (exact fun _ => ⟨by omega, by omega, hy⟩)), (by first | omega | (intro h; omega) | (simp only [List.length_nil, true_and, and_true, or_true, true_or] <;> omega))⟩
      · refine KC.exit ?_
        have hk := hpre.mem len_l (by omega)
        refine KC.seq ?_
        refine KC.region ?_
        refine KO.pv (PV.move rfl) rfl rfl ?_
        refine KO.call rfl rfl rfl rfl (Clone_int A5 a_l n_l c_l _ (V.mem m6 h_l) (by first | omega | assumption)) fun v13 H13 q13 => ?_
        obtain ⟨a13, n13, xs13, D13, hv13, mc13, p13_0, p13_1, p13_2, p13_3⟩ := q13
        dsimp only at hv13 mc13
        subst hv13
        have m14 := m6.seq mc13
        refine KO.pv (PV.assign rfl) rfl rfl ?_
        refine KO.nil ?_
        refine KC.seq ?_
        refine KC.region ?_
        refine KO.pv (PV.move rfl) rfl rfl ?_
        refine KO.call rfl rfl rfl rfl (Sort_int H13 a13 n13 _ _ (m14.res (i := 0) rfl) (m14.lt (i := 0) rfl) (by assumption) (by first | omega | assumption)) fun v15 H15 q15 => ?_
        obtain ⟨ys15, hv15, mc15, p15_0, p15_1, p15_2, p15_3⟩ := q15
        dsimp only at hv15 mc15
        subst hv15
        have m16 := m14.seqR (i := 0) rfl mc15
        refine KO.nil ?_
        refine KC.seq ?_
        refine KC.region ?_
        refine KO.pv (PV.move rfl) rfl rfl ?_
        refine KO.call rfl rfl rfl rfl (Compact_int H15 a13 n13 _ _ (m16.res (i := 0) rfl) (m16.lt (i := 0) rfl) (by assumption) (by first | omega | assumption)) fun v17 H17 q17 => ?_
        obtain ⟨k17, ys17, hv17, mc17, p17_0, p17_1, p17_2⟩ := q17
        dsimp only at hv17 mc17
        subst hv17
        have m18 := m16.seqR (i := 0) rfl mc17
        have hy : ∀ u ∈ ys17, 2 ≤ u ∧ u / 2 ≤ v := fun u hu => by have h2 := (p15_1 u).1 (p17_1 u hu); rw [p13_0] at h2; exact hk u h2
        refine KO.pv (PV.assign rfl) rfl rfl ?_
        refine KO.nil ?_
        refine KC.seq ?_
        refine KC.seq ?_
        refine KC.region ?_
        refine KO.pv (PV.move rfl) rfl rfl ?_
        refine KO.pv (PV.len un22_B3 rfl) rfl rfl ?_
        refine KO.pv (PV.move rfl) rfl rfl ?_
        refine KO.nil ?_
        refine KC.block ?_
        refine KC.sub (l' := [(4, .slice a13 k17 n13), (34, .int .i64 (k17 : Int)), (35, .int .i64 0)]) (.cons rfl (.cons rfl (.cons rfl .nil))) ?_
        refine KC.loopN (fun kq lq A => ∃ (x35 : Int), kq = ((k17 : Int) - x35).toNat ∧ lq = [(4, .slice a13 k17 n13), (34, .int .i64 (k17 : Int)), (35, .int .i64 x35)] ∧ Mem [] H A [R.own (EI .i64) a13 k17 n13 ys17 D13] ∧ (0 ≤ x35 ∧ x35 ≤ (k17 : Int))) ?_ (((k17 : Int) - 0).toNat) ⟨0, rfl, rfl, (m18.pick [0] (by decide) rfl), (by first | omega | assumption | (constructor <;> omega))⟩
        rintro kq lq A19 ⟨x35, rfl, rfl, m20, hr13⟩
        refine KC.seq ?_
        refine KC.region ?_
        refine KO.pv (PV.lssD rfl rfl rfl) rfl rfl ?_
        refine KO.nil ?_
        refine KC.seq ?_
        refine KC.condD rfl (fun h21 => ?_) (fun h21 => ?_)
        · refine KC.skip ?_
          refine KC.seq ?_
          refine KC.block ?_
          refine KC.seq ?_
          refine KC.region ?_
          refine KO.pv (PV.move rfl) rfl rfl ?_
          refine KO.pv (PV.assign rfl) rfl rfl ?_
          refine KO.nil ?_
          refine KC.seq ?_
          refine KC.drawG (n := 16) (anc := [0, 1, 3, 7, 7, 31, 63, 127, 7, 7, 519, 1799, 3847, 7943, 16383, 32767]) (hv := []) (ord := [0, 1, 2, 3, 4, 5, 6, 7, 8, 9, 10, 11, 12, 13, 14, 15]) (by kernel_rfl) (by kernel_rfl) (by kernel_rfl) (by kernel_rfl) (by kernel_rfl) fun H22 n23 g24 => ?_
          have m25 := m20.room n23 g24 [] (by decide) (by decide)
          refine KD.pv 1 (PV.move rfl) rfl rfl rfl (by kernel_rfl) rfl rfl rfl ?_
          by_cases h26 : 0 < x35
          · refine KD.pv 3 (PV.gtrD rfl rfl (decide_eq_true h26)) rfl rfl rfl (by kernel_rfl) rfl rfl rfl ?_
            refine KD.pv 7 (PV.move rfl) rfl rfl rfl (by kernel_rfl) rfl rfl rfl ?_
            refine KD.pv 15 (PV.move rfl) rfl rfl rfl (by kernel_rfl) rfl rfl rfl ?_
            refine KD.pv 31 (PV.move rfl) rfl rfl rfl (by kernel_rfl) rfl rfl rfl ?_
            obtain ⟨b27, o27, p27, r27, e27, ha27, hb27, hr27, hx27, hw27, hc27, ht27⟩ := V.at_ (m25.vown (i := 0) rfl) (z := x35) (by omega) (by omega)
            have hc27_0 : r27.cs[o27 + (x35).toNat * 1 + 0]? = some (.int .i64 e27) := hc27 0 (by decide)
            have hw27 : IntKind.i64.wrap e27 = e27 := hw27
            obtain ⟨lo27, hi27⟩ := rangei64 hw27
            have g27 := hy _ (List.mem_of_getElem? hx27)
            refine KD.pv 63 (PV.indexAddrZ un22_B3 sz3_B3 rfl ha27 rfl (by omega) (by omega)) rfl rfl rfl (by kernel_rfl) rfl rfl rfl ?_
            refine KD.load 127 rfl hr27 (by rw [read1 ag3_B3]; exact hc27_0) (pastGo (k := 1) (l := [H22]) (by kernel_rfl) rfl (pastCons ⟨_, hr27, (by rw [read1 ag3_B3]; exact hc27_0)⟩ pastNil)) veq_int rfl (by kernel_rfl) rfl rfl rfl ?_
            refine KD.pv 255 (PV.quo rfl rfl (by omega) (quoN (by omega) (by omega))) rfl rfl rfl (by kernel_rfl) rfl rfl rfl ?_
            refine KD.pv 511 (PV.move rfl) rfl rfl rfl (by kernel_rfl) rfl rfl rfl ?_
            refine KD.pv 1023 (PV.move rfl) rfl rfl rfl (by kernel_rfl) rfl rfl rfl ?_
            refine KD.pv 2047 (PV.sub rfl rfl (wrap64 (by omega) (by omega))) rfl rfl rfl (by kernel_rfl) rfl rfl rfl ?_
            obtain ⟨b28, o28, p28, r28, e28, ha28, hb28, hr28, hx28, hw28, hc28, ht28⟩ := V.at_ (m25.vown (i := 0) rfl) (z := (x35 - 1)) (by omega) (by omega)
            have hc28_0 : r28.cs[o28 + ((x35 - 1)).toNat * 1 + 0]? = some (.int .i64 e28) := hc28 0 (by decide)
            have hw28 : IntKind.i64.wrap e28 = e28 := hw28
            obtain ⟨lo28, hi28⟩ := rangei64 hw28
            have g28 := hy _ (List.mem_of_getElem? hx28)
            refine KD.pv 4095 (PV.indexAddrZ un22_B3 sz3_B3 rfl ha28 rfl (by omega) (by omega)) rfl rfl rfl (by kernel_rfl) rfl rfl rfl ?_
            refine KD.load 8191 rfl hr28 (by rw [read1 ag3_B3]; exact hc28_0) (pastGo (k := 1) (l := [H22]) (by kernel_rfl) rfl (pastCons ⟨_, hr28, (by rw [read1 ag3_B3]; exact hc28_0)⟩ pastNil)) veq_int rfl (by kernel_rfl) rfl rfl rfl ?_
            refine KD.pv 16383 (PV.quo rfl rfl (by omega) (quoN (by omega) (by omega))) rfl rfl rfl (by kernel_rfl) rfl rfl rfl ?_
            refine KD.pv 32767 (PV.eqlD rfl rfl rfl) rfl rfl rfl (by kernel_rfl) rfl rfl rfl ?_
            refine KD.pv 65535 (PV.pickT rfl rfl rfl) rfl rfl rfl (by kernel_rfl) rfl rfl rfl ?_
            refine KD.nil ⟨rfl, ?_⟩
            refine KC.condD rfl (fun h29 => ?_) (fun h29 => ?_)
            · refine KC.seq ?_
              refine KC.region ?_
              refine KO.pv (PV.assign rfl) rfl rfl ?_
              refine KO.pv (PV.assign rfl) rfl rfl ?_
              refine KO.pv (PV.assign rfl) rfl rfl ?_
              refine KO.nil ?_
              have m30 := m25.ownNil (C := (EI .i64))
              exact KC.ret ⟨rfl, _, (.tmp rfl (.tmp rfl (.tmp rfl .nil))), none, 0, 0, [], [], true, 0, rfl, m30.pick [0] (by decide) rfl, (by first | omega | (intro h; omega) | (simp only [List.length_nil, true_and, and_true, or_true, true_or] <;> omega)), (by first | omega | (intro h; omega) | (simp only [List.length_nil, true_and, and_true, or_true, true_or] <;> omega) | exact all_nil | assumption), (by first | omega | (intro h; omega) | (simp only [List.length_nil, true_and, and_true, or_true, true_or] <;> omega) | (exact fun _ => ⟨by omega, by omega, all_nil⟩) | (exact fun _ => ⟨by omega, by omega, hy⟩)), (by first | omega | (intro h; omega) | (simp only [List.length_nil, true_and, and_true, or_true, true_or] <;> omega))⟩
            · refine KC.skip ?_
              refine KC.region ?_
              refine KO.pv (PV.add rfl rfl (wrap64 (by omega) (by omega))) rfl rfl ?_
              refine KO.pv (PV.move rfl) rfl rfl ?_
              refine KO.nil ?_
              exact ⟨_, _, (by omega), (.cons rfl (.cons rfl (.cons rfl .nil))), (x35 + 1), rfl, rfl, (m25.pick [0] (by decide) rfl), (by first | omega | assumption | (constructor <;> omega))⟩
          · refine KD.pv 3 (PV.gtrD rfl rfl (decide_eq_false h26)) rfl rfl rfl (by kernel_rfl) rfl rfl rfl ?_
            refine KD.pv 7 (PV.move rfl) rfl rfl rfl (by kernel_rfl) rfl rfl rfl ?_
            refine KD.skip 15 rfl rfl rfl (by kernel_rfl) rfl rfl rfl ?_
            refine KD.skip 31 rfl rfl rfl (by kernel_rfl) rfl rfl rfl ?_
            refine KD.skip 63 rfl rfl rfl (by kernel_rfl) rfl rfl rfl ?_
            refine KD.skip 127 rfl rfl rfl (by kernel_rfl) rfl rfl rfl ?_
            refine KD.skip 255 rfl rfl rfl (by kernel_rfl) rfl rfl rfl ?_
            refine KD.skip 511 rfl rfl rfl (by kernel_rfl) rfl rfl rfl ?_
            refine KD.skip 1023 rfl rfl rfl (by kernel_rfl) rfl rfl rfl ?_
            refine KD.skip 2047 rfl rfl rfl (by kernel_rfl) rfl rfl rfl ?_
            refine KD.skip 4095 rfl rfl rfl (by kernel_rfl) rfl rfl rfl ?_
            refine KD.skip 8191 rfl rfl rfl (by kernel_rfl) rfl rfl rfl ?_
            refine KD.skip 16383 rfl rfl rfl (by kernel_rfl) rfl rfl rfl ?_
            refine KD.skip 32767 rfl rfl rfl (by kernel_rfl) rfl rfl rfl ?_
            refine KD.pv 65535 (PV.pickF rfl rfl rfl) rfl rfl rfl (by kernel_rfl) rfl rfl rfl ?_
            refine KD.nil ⟨rfl, ?_⟩
            refine KC.condF rfl ?_
            refine KC.skip ?_
            refine KC.region ?_
            refine KO.pv (PV.add rfl rfl (wrap64 (by omega) (by omega))) rfl rfl ?_
            refine KO.pv (PV.move rfl) rfl rfl ?_
            refine KO.nil ?_
            exact ⟨_, _, (by omega), (.cons rfl (.cons rfl (.cons rfl .nil))), (x35 + 1), rfl, rfl, (m25.pick [0] (by decide) rfl), (by first | omega | assumption | (constructor <;> omega))⟩
        · refine KC.exit ?_
          refine KC.seq ?_
          refine KC.region ?_
          refine KO.pv (PV.move rfl) rfl rfl ?_
          refine KO.pv (PV.assign rfl) rfl rfl ?_
          refine KO.pv (PV.assign rfl) rfl rfl ?_
          refine KO.pv (PV.assign rfl) rfl rfl ?_
          refine KO.nil ?_
          exact KC.ret ⟨rfl, _, (.tmp rfl (.tmp rfl (.tmp rfl .nil))), a13, k17, n13, ys17, D13, false, 0, rfl, m20.pick [0] (by decide) rfl, (by first | omega | (intro h; omega) | (simp only [List.length_nil, true_and, and_true, or_true, true_or] <;> omega)), (by first | omega | (intro h; omega) | (simp only [List.length_nil, true_and, and_true, or_true, true_or] <;> omega) | exact all_nil | assumption), (by first | omega | (intro h; omega) | (simp only [List.length_nil, true_and, and_true, or_true, true_or] <;> omega) | (exact fun _ => ⟨by omega, by omega, all_nil⟩) | (exact fun _ => ⟨by omega, by omega, hy⟩)), (by first | omega | (intro h; omega) | (simp only [List.length_nil, true_and, and_true, or_true, true_or] <;> omega))⟩
theorem cl_True (H : AHeap) (a_c : Option Addr) (n_c c_c : Nat) (c : List Int) (a_w : Option Addr) (n_w c_w : Nat) (w : List Bool) (h_c : V (EI .i64) H a_c n_c c_c c) (h_w : V EB H a_w n_w c_w w) : WF E0 28 [.slice a_c n_c c_c, .slice a_w n_w c_w] H fun q => ∃ (o : Bool) (e : Int), q.1 = .tuple #[.bool o, .int .i64 e] ∧ Mem [] H q.2 [] ∧ (e = 0 → ClOK n_w c) ∧ (0 ≤ e ∧ e ≤ 100) := by
  obtain ⟨len_c, cap_c, max_c, wf_c⟩ := h_c.len
  obtain ⟨len_w, cap_w, max_w, wf_w⟩ := h_w.len
  have m0 : Mem [] H H [] := Mem.start
  refine WF.kg Tryz.func28 rfl rfl ?_
  refine KC.seq ?_
  refine KC.region ?_
  refine KO.pv (PV.assign rfl) rfl rfl ?_
  refine KO.pv (PV.assign rfl) rfl rfl ?_
  refine KO.nil ?_
  refine KC.seq ?_
  refine KC.seq ?_
  refine KC.region ?_
  refine KO.pv (PV.move rfl) rfl rfl ?_
  refine KO.pv (PV.len un46_B3 rfl) rfl rfl ?_
  refine KO.pv (PV.move rfl) rfl rfl ?_
  refine KO.call rfl rfl rfl rfl (cl_Check H (n_w : Int) a_c n_c c_c _ (wrap64 (by omega) (by omega)) (V.mem m0 h_c)) fun v1 H1 q1 => ?_
  obtain ⟨e1, hv1, mc1, p1_0, p1_1⟩ := q1
  dsimp only at hv1 mc1
  subst hv1
  have m2 := m0.seq mc1
  refine KO.pv (PV.assign rfl) rfl rfl ?_
  refine KO.nil ?_
  refine KC.seq ?_
  refine KC.region ?_
  refine KO.pv (PV.move rfl) rfl rfl ?_
  refine KO.pv (PV.neqD rfl rfl rfl) rfl rfl ?_
  refine KO.nil ?_
  refine KC.condD rfl (fun h3 => ?_) (fun h3 => ?_)
  · refine KC.seq ?_
    refine KC.region ?_
    refine KO.pv (PV.move rfl) rfl rfl ?_
    refine KO.pv (PV.assign rfl) rfl rfl ?_
    refine KO.pv (PV.assign rfl) rfl rfl ?_
    refine KO.nil ?_
    exact KC.ret ⟨rfl, _, (.tmp rfl (.tmp rfl .nil)), false, e1, rfl, m2.pick [] (by decide) rfl, (by first | omega | (intro h; omega) | (simp only [List.length_nil, true_and, and_true, or_true, true_or] <;> omega) | (exact fun _ => by assumption)), (by first | omega | (intro h; omega) | (simp only [List.length_nil, true_and, and_true, or_true, true_or] <;> omega))⟩
  · have p1_0t := p1_0 (by omega)
    obtain ⟨p1_0_v0, p1_0_v1, p1_0_l, p1_0_lt, p1_0_n⟩ := id p1_0t
    refine KC.skip ?_
    refine KC.seq ?_
    refine KC.seq ?_
    refine KC.region ?_
    refine KO.pv (PV.move rfl) rfl rfl ?_
    refine KO.pv (PV.len un22_B3 rfl) rfl rfl ?_
    refine KO.pv (PV.move rfl) rfl rfl ?_
    refine KO.nil ?_
    refine KC.block ?_
    refine KC.sub (l' := [(1, .slice a_w n_w c_w), (16, .slice a_c n_c c_c), (17, .int .i64 (n_c : Int)), (18, .int .i64 0)]) (.cons rfl (.cons rfl (.cons rfl (.cons rfl .nil)))) ?_
    refine KC.loopN (fun kq lq A => ∃ (x18 : Int), kq = ((n_c : Int) - x18).toNat ∧ lq = [(1, .slice a_w n_w c_w), (16, .slice a_c n_c c_c), (17, .int .i64 (n_c : Int)), (18, .int .i64 x18)] ∧ Mem [] H A [] ∧ (0 ≤ x18 ∧ x18 ≤ (n_c : Int))) ?_ (((n_c : Int) - 0).toNat) ⟨0, rfl, rfl, (m2.pick [] (by decide) rfl), (by first | omega | assumption | (constructor <;> omega))⟩
    rintro kq lq A4 ⟨x18, rfl, rfl, m5, hr5⟩
    refine KC.seq ?_
    refine KC.region ?_
    refine KO.pv (PV.lssD rfl rfl rfl) rfl rfl ?_
    refine KO.nil ?_
    refine KC.seq ?_
    refine KC.condD rfl (fun h6 => ?_) (fun h6 => ?_)
    · refine KC.skip ?_
      refine KC.seq ?_
      refine KC.block ?_
      refine KC.seq ?_
      refine KC.region ?_
      obtain ⟨b7, o7, p7, r7, e7, ha7, hb7, hr7, hx7, hw7, hc7, ht7⟩ := V.at_ h_c (z := x18) (by omega) (by omega)
      have hc7_0 : r7.cs[o7 + (x18).toNat * 1 + 0]? = some (.int .i64 e7) := hc7 0 (by decide)
      have hw7 : IntKind.i64.wrap e7 = e7 := hw7
      obtain ⟨lo7, hi7⟩ := rangei64 hw7
      have gp1_0_l_7 := p1_0_l _ (List.mem_of_getElem? hx7)
      refine KO.pv (PV.indexAddrZ un22_B3 sz3_B3 rfl ha7 rfl (by omega) (by omega)) rfl rfl ?_
      refine KO.load1 ag3_B3 rfl (m5.row0 hb7 hr7) hc7_0 rfl rfl ?_
      refine KO.pv (PV.assign rfl) rfl rfl ?_
      refine KO.nil ?_
      refine KC.seq ?_
      refine KC.region ?_
      refine KO.pv (PV.move rfl) rfl rfl ?_
      refine KO.pv (PV.move rfl) rfl rfl ?_
      refine KO.pv (PV.quo rfl rfl (by omega) (quoN (by omega) (by omega))) rfl rfl ?_
      refine KO.pv (PV.sub rfl rfl (wrap64 (by omega) (by omega))) rfl rfl ?_
      obtain ⟨b8, o8, p8, r8, e8, ha8, hb8, hr8, hx8, hw8, hc8, ht8⟩ := V.at_ h_w (z := ((e7 / 2) - 1)) (by omega) (by omega)
      have hc8_0 : r8.cs[o8 + (((e7 / 2) - 1)).toNat * 1 + 0]? = some (.bool e8) := hc8 0 (by decide)
      refine KO.pv (PV.indexAddrZ un46_B3 sz4_B3 rfl ha8 rfl (by omega) (by omega)) rfl rfl ?_
      refine KO.load1 ag4_B3 rfl (m5.row0 hb8 hr8) hc8_0 rfl rfl ?_
      refine KO.pv (PV.move rfl) rfl rfl ?_
      refine KO.pv (PV.rem rfl rfl (by omega) (remN (by omega) (by omega))) rfl rfl ?_
      refine KO.pv (PV.eqlD rfl rfl rfl) rfl rfl ?_
      obtain ⟨b9, qb9⟩ : ∃ b : Bool, (e8 == (decide ((e7 % 2) = 0))) = b := ⟨_, rfl⟩
      refine KO.pv (PV.beqB un4_B3 rfl rfl qb9) rfl rfl ?_
      refine KO.nil ?_
      refine KC.cond rfl (fun h10 => ?_) (fun h10 => ?_)
      · subst h10
        refine KC.seq ?_
        refine KC.region ?_
        refine KO.pv (PV.assign rfl) rfl rfl ?_
        refine KO.pv (PV.assign rfl) rfl rfl ?_
        refine KO.nil ?_
        exact KC.ret ⟨rfl, _, (.tmp rfl (.tmp rfl .nil)), true, 0, rfl, m5.pick [] (by decide) rfl, (by first | omega | (intro h; omega) | (simp only [List.length_nil, true_and, and_true, or_true, true_or] <;> omega) | (exact fun _ => by assumption)), (by first | omega | (intro h; omega) | (simp only [List.length_nil, true_and, and_true, or_true, true_or] <;> omega))⟩
      · subst h10
        refine KC.skip ?_
        refine KC.region ?_
        refine KO.pv (PV.add rfl rfl (wrap64 (by omega) (by omega))) rfl rfl ?_
        refine KO.pv (PV.move rfl) rfl rfl ?_
        refine KO.nil ?_
        exact ⟨_, _, (by omega), (.cons rfl (.cons rfl (.cons rfl (.cons rfl .nil)))), (x18 + 1), rfl, rfl, (m5.pick [] (by decide) rfl), (by first | omega | assumption | (constructor <;> omega))⟩
    · refine KC.exit ?_
      refine KC.seq ?_
      refine KC.region ?_
      refine KO.pv (PV.assign rfl) rfl rfl ?_
      refine KO.pv (PV.assign rfl) rfl rfl ?_
      refine KO.nil ?_
      exact KC.ret ⟨rfl, _, (.tmp rfl (.tmp rfl .nil)), false, 0, rfl, m5.pick [] (by decide) rfl, (by first | omega | (intro h; omega) | (simp only [List.length_nil, true_and, and_true, or_true, true_or] <;> omega) | (exact fun _ => by assumption)), (by first | omega | (intro h; omega) | (simp only [List.length_nil, true_and, and_true, or_true, true_or] <;> omega))⟩
theorem cl_Implies (H : AHeap) (v : Int) (a_a : Option Addr) (n_a c_a : Nat) (a : List Int) (a_b : Option Addr) (n_b c_b : Nat) (b : List Int) (w_v : IntKind.i64.wrap v = v) (h_a : V (EI .i64) H a_a n_a c_a a) (h_b : V (EI .i64) H a_b n_b c_b b) : WF E0 30 [.int .i64 v, .slice a_a n_a c_a, .slice a_b n_b c_b] H fun q => ∃ (o : Bool) (e : Int), q.1 = .tuple #[.bool o, .int .i64 e] ∧ Mem [] H q.2 [] ∧ (e = 0 → ClOK v a ∧ ClOK v b) ∧ (0 ≤ e ∧ e ≤ 100) := by
  obtain ⟨lo_v, hi_v⟩ := rangei64 w_v
  obtain ⟨len_a, cap_a, max_a, wf_a⟩ := h_a.len
  obtain ⟨len_b, cap_b, max_b, wf_b⟩ := h_b.len
  have m0 : Mem [] H H [] := Mem.start
  refine WF.kg Tryz.func30 rfl rfl ?_
  refine KC.seq ?_
  refine KC.region ?_
  refine KO.pv (PV.assign rfl) rfl rfl ?_
  refine KO.pv (PV.assign rfl) rfl rfl ?_
  refine KO.nil ?_
  refine KC.seq ?_
  refine KC.seq ?_
  refine KC.region ?_
  refine KO.pv (PV.move rfl) rfl rfl ?_
  refine KO.pv (PV.move rfl) rfl rfl ?_
  refine KO.pv (PV.move rfl) rfl rfl ?_
  refine KO.call rfl rfl rfl rfl (cl_both H v a_a n_a c_a _ a_b n_b c_b _ (wrap64 (by omega) (by omega)) (V.mem m0 h_a) (V.mem m0 h_b)) fun v1 H1 q1 => ?_
  obtain ⟨e1, hv1, mc1, p1_0, p1_1⟩ := q1
  dsimp only at hv1 mc1
  subst hv1
  have m2 := m0.seq mc1
  refine KO.pv (PV.assign rfl) rfl rfl ?_
  refine KO.nil ?_
  refine KC.seq ?_
  refine KC.region ?_
  refine KO.pv (PV.move rfl) rfl rfl ?_
  refine KO.pv (PV.neqD rfl rfl rfl) rfl rfl ?_
  refine KO.nil ?_
  refine KC.condD rfl (fun h3 => ?_) (fun h3 => ?_)
  · refine KC.seq ?_
    refine KC.region ?_
    refine KO.pv (PV.move rfl) rfl rfl ?_
    refine KO.pv (PV.assign rfl) rfl rfl ?_
    refine KO.pv (PV.assign rfl) rfl rfl ?_
    refine KO.nil ?_
    exact KC.ret ⟨rfl, _, (.tmp rfl (.tmp rfl .nil)), false, e1, rfl, m2.pick [] (by decide) rfl, (by first | omega | (intro h; omega) | (simp only [List.length_nil, true_and, and_true, or_true, true_or] <;> omega) | (exact fun _ => ⟨by assumption, by assumption⟩)), (by first | omega | (intro h; omega) | (simp only [List.length_nil, true_and, and_true, or_true, true_or] <;> omega))⟩
  · have p1_0t := p1_0 (by omega)
    obtain ⟨p1_0s, p1_0u⟩ := id p1_0t
    obtain ⟨p1_0_v0, p1_0_v1, p1_0_l, p1_0_lt, p1_0_n⟩ := id p1_0s
    obtain ⟨p1_0u_v0, p1_0u_v1, p1_0u_l, p1_0u_lt, p1_0u_n⟩ := id p1_0u
    refine KC.skip ?_
    refine KC.seq ?_
    refine KC.seq ?_
    refine KC.region ?_
    refine KO.pv (PV.move rfl) rfl rfl ?_
    refine KO.pv (PV.len un22_B3 rfl) rfl rfl ?_
    refine KO.pv (PV.move rfl) rfl rfl ?_
    refine KO.nil ?_
    refine KC.block ?_
    refine KC.sub (l' := [(2, .slice a_b n_b c_b), (20, .slice a_a n_a c_a), (21, .int .i64 (n_a : Int)), (22, .int .i64 0)]) (.cons rfl (.cons rfl (.cons rfl (.cons rfl .nil)))) ?_
    refine KC.loopN (fun kq lq A => ∃ (x22 : Int), kq = ((n_a : Int) - x22).toNat ∧ lq = [(2, .slice a_b n_b c_b), (20, .slice a_a n_a c_a), (21, .int .i64 (n_a : Int)), (22, .int .i64 x22)] ∧ Mem [] H A [] ∧ (0 ≤ x22 ∧ x22 ≤ (n_a : Int))) ?_ (((n_a : Int) - 0).toNat) ⟨0, rfl, rfl, (m2.pick [] (by decide) rfl), (by first | omega | assumption | (constructor <;> omega))⟩
    rintro kq lq A4 ⟨x22, rfl, rfl, m5, hr5⟩
    refine KC.seq ?_
    refine KC.region ?_
    refine KO.pv (PV.lssD rfl rfl rfl) rfl rfl ?_
    refine KO.nil ?_
    refine KC.seq ?_
    refine KC.condD rfl (fun h6 => ?_) (fun h6 => ?_)
    · refine KC.skip ?_
      refine KC.seq ?_
      refine KC.block ?_
      refine KC.seq ?_
      refine KC.region ?_
      obtain ⟨b7, o7, p7, r7, e7, ha7, hb7, hr7, hx7, hw7, hc7, ht7⟩ := V.at_ h_a (z := x22) (by omega) (by omega)
      have hc7_0 : r7.cs[o7 + (x22).toNat * 1 + 0]? = some (.int .i64 e7) := hc7 0 (by decide)
      have hw7 : IntKind.i64.wrap e7 = e7 := hw7
      obtain ⟨lo7, hi7⟩ := rangei64 hw7
      have gp1_0_l_7 := p1_0_l _ (List.mem_of_getElem? hx7)
      refine KO.pv (PV.indexAddrZ un22_B3 sz3_B3 rfl ha7 rfl (by omega) (by omega)) rfl rfl ?_
      refine KO.load1 ag3_B3 rfl (m5.row0 hb7 hr7) hc7_0 rfl rfl ?_
      refine KO.pv (PV.assign rfl) rfl rfl ?_
      refine KO.nil ?_
      refine KC.seq ?_
      refine KC.region ?_
      refine KO.pv (PV.move rfl) rfl rfl ?_
      refine KO.pv (PV.move rfl) rfl rfl ?_
      refine KO.call rfl rfl rfl rfl (BinarySearch_int A4 a_b n_b c_b _ e7 (V.mem m5 h_b) (wrap64 (by omega) (by omega))) fun v8 H8 q8 => ?_
      obtain ⟨z8, o8, hv8, mc8, p8_0, p8_1⟩ := q8
      dsimp only at hv8 mc8
      subst hv8
      have m9 := m5.seq mc8
      refine KO.pv (PV.move rfl) rfl rfl ?_
      refine KO.pv (PV.extract rfl rfl) rfl rfl ?_
      refine KO.pv (PV.extract rfl rfl) rfl rfl ?_
      refine KO.pv (PV.assign rfl) rfl rfl ?_
      refine KO.pv (PV.assign rfl) rfl rfl ?_
      refine KO.nil ?_
      refine KC.seq ?_
      refine KC.region ?_
      refine KO.pv (PV.move rfl) rfl rfl ?_
      rcases Bool.eq_false_or_eq_true o8 with h10 | h10
      · subst h10
        have p8_1t := p8_1 rfl
        refine KO.pv (PV.notB rfl rfl) rfl rfl ?_
        refine KO.nil ?_
        refine KC.condF rfl ?_
        refine KC.skip ?_
        refine KC.region ?_
        refine KO.pv (PV.add rfl rfl (wrap64 (by omega) (by omega))) rfl rfl ?_
        refine KO.pv (PV.move rfl) rfl rfl ?_
        refine KO.nil ?_
        exact ⟨_, _, (by omega), (.cons rfl (.cons rfl (.cons rfl (.cons rfl .nil)))), (x22 + 1), rfl, rfl, (m9.pick [] (by decide) rfl), (by first | omega | assumption | (constructor <;> omega))⟩
      · subst h10
        refine KO.pv (PV.notB rfl rfl) rfl rfl ?_
        refine KO.nil ?_
        refine KC.condT rfl ?_
        refine KC.seq ?_
        refine KC.region ?_
        refine KO.pv (PV.assign rfl) rfl rfl ?_
        refine KO.pv (PV.assign rfl) rfl rfl ?_
        refine KO.nil ?_
        exact KC.ret ⟨rfl, _, (.tmp rfl (.tmp rfl .nil)), false, 0, rfl, m9.pick [] (by decide) rfl, (by first | omega | (intro h; omega) | (simp only [List.length_nil, true_and, and_true, or_true, true_or] <;> omega) | (exact fun _ => ⟨by assumption, by assumption⟩)), (by first | omega | (intro h; omega) | (simp only [List.length_nil, true_and, and_true, or_true, true_or] <;> omega))⟩
    · refine KC.exit ?_
      refine KC.seq ?_
      refine KC.region ?_
      refine KO.pv (PV.assign rfl) rfl rfl ?_
      refine KO.pv (PV.assign rfl) rfl rfl ?_
      refine KO.nil ?_
      exact KC.ret ⟨rfl, _, (.tmp rfl (.tmp rfl .nil)), true, 0, rfl, m5.pick [] (by decide) rfl, (by first | omega | (intro h; omega) | (simp only [List.length_nil, true_and, and_true, or_true, true_or] <;> omega) | (exact fun _ => ⟨by assumption, by assumption⟩)), (by first | omega | (intro h; omega) | (simp only [List.length_nil, true_and, and_true, or_true, true_or] <;> omega))⟩
theorem cl_Resolve1 (H : AHeap) (l : Int) (b_p : Nat) (pv : Int) (w_l : IntKind.i64.wrap l = l) (r_p : H.row b_p = some ⟨3, true, true, [.int .i64 pv]⟩) (l_p : b_p < H.next) (h0 : 2 ≤ l) : WF E0 90 [.int .i64 l, .pointer (some ⟨b_p, 0, none⟩)] H fun q => ∃ (o : Bool), q.1 = .bool o ∧ Mem [] H q.2 [] ∧ (True) := by
  obtain ⟨lo_l, hi_l⟩ := rangei64 w_l
  have m0 : Mem [] H H [] := Mem.start
  refine WF.kg Tryz.func90 rfl rfl ?_
  refine KC.seq ?_
  refine KC.region ?_
  refine KO.pv (PV.assign rfl) rfl rfl ?_
  refine KO.nil ?_
  refine KC.seq ?_
  refine KC.region ?_
  refine KO.pv (PV.move rfl) rfl rfl ?_
  refine KO.pv (PV.quo rfl rfl (by omega) (quoN (by omega) (by omega))) rfl rfl ?_
  refine KO.load1 ag3_B3 rfl (m0.row0 l_p r_p) rfl rfl rfl ?_
  refine KO.pv (PV.eqlD rfl rfl rfl) rfl rfl ?_
  refine KO.pv (PV.assign rfl) rfl rfl ?_
  refine KO.nil ?_
  exact KC.ret ⟨rfl, _, (.tmp rfl .nil), (decide ((l / 2) = pv)), rfl, m0.pick [] (by decide) rfl, (by first | omega | (intro h; omega) | (simp only [List.length_nil, true_and, and_true, or_true, true_or] <;> omega) | trivial)⟩
theorem cl_Resolve (H : AHeap) (v : Int) (a_a : Option Addr) (n_a c_a : Nat) (a : List Int) (a_b : Option Addr) (n_b c_b : Nat) (b : List Int) (x : Int) (w_v : IntKind.i64.wrap v = v) (h_a : V (EI .i64) H a_a n_a c_a a) (h_b : V (EI .i64) H a_b n_b c_b b) (w_x : IntKind.i64.wrap x = x) : WF E0 32 [.int .i64 v, .slice a_a n_a c_a, .slice a_b n_b c_b, .int .i64 x] H fun q => ∃ (ca : Option Addr) (k : Nat) (n : Nat) (ys : List Int) (D : List Nat) (o : Bool) (e : Int), q.1 = .tuple #[.slice ca k n, .bool o, .int .i64 e] ∧ Mem [] H q.2 [R.own (EI .i64) ca k n ys D] ∧ (ys.length = k ∧ k ≤ 20000 ∧ n ≤ 20000) ∧ (∀ u ∈ ys, (EI .i64).wf u) ∧ (e = 0 → ClOK v a ∧ ClOK v b ∧ ∀ u ∈ ys, 2 ≤ u ∧ u / 2 ≤ v) := by
  obtain ⟨lo_v, hi_v⟩ := rangei64 w_v
  obtain ⟨len_a, cap_a, max_a, wf_a⟩ := h_a.len
  obtain ⟨len_b, cap_b, max_b, wf_b⟩ := h_b.len
  obtain ⟨lo_x, hi_x⟩ := rangei64 w_x
  have m0 : Mem [] H H [] := Mem.start
  refine WF.kg Tryz.func32 rfl rfl ?_
  refine KC.seq ?_
  refine KC.region ?_
  refine KO.boxM m0 rfl rfl (show _ = [.int .i64 x] from rfl) rfl rfl fun H1 m2 => ?_
  refine KO.pv (PV.assign rfl) rfl rfl ?_
  refine KO.pv (PV.assign rfl) rfl rfl ?_
  refine KO.pv (PV.assign rfl) rfl rfl ?_
  refine KO.nil ?_
  refine KC.seq ?_
  refine KC.seq ?_
  refine KC.region ?_
  refine KO.pv (PV.move rfl) rfl rfl ?_
  refine KO.pv (PV.move rfl) rfl rfl ?_
  refine KO.pv (PV.move rfl) rfl rfl ?_
  refine KO.call rfl rfl rfl rfl (cl_both H1 v a_a n_a c_a _ a_b n_b c_b _ (wrap64 (by omega) (by omega)) (V.mem m2 h_a) (V.mem m2 h_b)) fun v3 H3 q3 => ?_
  obtain ⟨e3, hv3, mc3, p3_0, p3_1⟩ := q3
  dsimp only at hv3 mc3
  subst hv3
  have m4 := m2.seq mc3
  refine KO.pv (PV.assign rfl) rfl rfl ?_
  refine KO.nil ?_
  refine KC.seq ?_
  refine KC.region ?_
  refine KO.pv (PV.move rfl) rfl rfl ?_
  refine KO.pv (PV.neqD rfl rfl rfl) rfl rfl ?_
  refine KO.nil ?_
  refine KC.condD rfl (fun h5 => ?_) (fun h5 => ?_)
  · refine KC.seq ?_
    refine KC.region ?_
    refine KO.pv (PV.move rfl) rfl rfl ?_
    refine KO.pv (PV.assign rfl) rfl rfl ?_
    refine KO.pv (PV.assign rfl) rfl rfl ?_
    refine KO.pv (PV.assign rfl) rfl rfl ?_
    refine KO.nil ?_
    have m6 := m4.ownNil (C := (EI .i64))
    exact KC.ret ⟨rfl, _, (.tmp rfl (.tmp rfl (.tmp rfl .nil))), none, 0, 0, [], [], false, e3, rfl, m6.pick [0] (by decide) rfl, (by first | omega | (intro h; omega) | (simp only [List.length_nil, true_and, and_true, or_true, true_or] <;> omega)), (by first | omega | (intro h; omega) | (simp only [List.length_nil, true_and, and_true, or_true, true_or] <;> omega) | exact all_nil | assumption), (by first | omega | (intro h; omega) | (simp only [List.length_nil, true_and, and_true, or_true, true_or] <;> omega) | (exact fun h => absurd h (by omega)))⟩
  · have p3_0t := p3_0 (by omega)
    obtain ⟨p3_0s, p3_0u⟩ := id p3_0t
    obtain ⟨p3_0_v0, p3_0_v1, p3_0_l, p3_0_lt, p3_0_n⟩ := id p3_0s
    obtain ⟨p3_0u_v0, p3_0u_v1, p3_0u_l, p3_0u_lt, p3_0u_n⟩ := id p3_0u
    refine KC.skip ?_
    refine KC.seq ?_
    refine KC.seq ?_
    refine KC.region ?_
    refine KO.load1 ag3_B3 rfl (m4.row (i := 0) rfl) rfl rfl rfl ?_
    by_cases h7 : x < 1
    · refine KO.pv (PV.lssD rfl rfl (decide_eq_true h7)) rfl rfl ?_
      refine KO.pv (PV.move rfl) rfl rfl ?_
      refine KO.no rfl rfl rfl ?_
      refine KO.no rfl rfl rfl ?_
      refine KO.no rfl rfl rfl ?_
      refine KO.pv (PV.pickT rfl rfl rfl) rfl rfl ?_
      refine KO.nil ?_
      refine KC.condT rfl ?_
      refine KC.seq ?_
      refine KC.region ?_
      refine KO.pv (PV.assign rfl) rfl rfl ?_
      refine KO.pv (PV.assign rfl) rfl rfl ?_
      refine KO.pv (PV.assign rfl) rfl rfl ?_
      refine KO.nil ?_
      have m8 := m4.ownNil (C := (EI .i64))
      exact KC.ret ⟨rfl, _, (.tmp rfl (.tmp rfl (.tmp rfl .nil))), none, 0, 0, [], [], false, 6, rfl, m8.pick [0] (by decide) rfl, (by first | omega | (intro h; omega) | (simp only [List.length_nil, true_and, and_true, or_true, true_or] <;> omega)), (by first | omega | (intro h; omega) | (simp only [List.length_nil, true_and, and_true, or_true, true_or] <;> omega) | exact all_nil | assumption), (by first | omega | (intro h; omega) | (simp only [List.length_nil, true_and, and_true, or_true, true_or] <;> omega) | (exact fun h => absurd h (by omega)))⟩
    · refine KO.pv (PV.lssD rfl rfl (decide_eq_false h7)) rfl rfl ?_
      refine KO.pv (PV.move rfl) rfl rfl ?_
      refine KO.load1 ag3_B3 rfl (m4.row (i := 0) rfl) rfl rfl rfl ?_
      refine KO.pv (PV.move rfl) rfl rfl ?_
      refine KO.pv (PV.gtrD rfl rfl rfl) rfl rfl ?_
      refine KO.pv (PV.pickF rfl rfl rfl) rfl rfl ?_
      refine KO.nil ?_
      refine KC.condD rfl (fun h9 => ?_) (fun h9 => ?_)
      · refine KC.seq ?_
        refine KC.region ?_
        refine KO.pv (PV.assign rfl) rfl rfl ?_
        refine KO.pv (PV.assign rfl) rfl rfl ?_
        refine KO.pv (PV.assign rfl) rfl rfl ?_
        refine KO.nil ?_
        have m10 := m4.ownNil (C := (EI .i64))
        exact KC.ret ⟨rfl, _, (.tmp rfl (.tmp rfl (.tmp rfl .nil))), none, 0, 0, [], [], false, 6, rfl, m10.pick [0] (by decide) rfl, (by first | omega | (intro h; omega) | (simp only [List.length_nil, true_and, and_true, or_true, true_or] <;> omega)), (by first | omega | (intro h; omega) | (simp only [List.length_nil, true_and, and_true, or_true, true_or] <;> omega) | exact all_nil | assumption), (by first | omega | (intro h; omega) | (simp only [List.length_nil, true_and, and_true, or_true, true_or] <;> omega) | (exact fun h => absurd h (by omega)))⟩
      · refine KC.skip ?_
        refine KC.seq ?_
        refine KC.region ?_
        refine KO.pv (PV.move rfl) rfl rfl ?_
        refine KO.load1 ag3_B3 rfl (m4.row (i := 0) rfl) rfl rfl rfl ?_
        refine KO.pv (PV.mul rfl rfl (wrap64 (by omega) (by omega))) rfl rfl ?_
        refine KO.call rfl rfl rfl rfl (Contains_int H3 a_a n_a c_a _ (2 * x) (V.mem m4 h_a) (wrap64 (by omega) (by omega))) fun v11 H11 q11 => ?_
        obtain ⟨o11, hv11, mc11, p11_0, p11_1⟩ := q11
        dsimp only at hv11 mc11
        subst hv11
        have m12 := m4.seq mc11
        refine KO.pv (PV.move rfl) rfl rfl ?_
        rcases Bool.eq_false_or_eq_true o11 with h13 | h13
        · subst h13
          have p11_0t := p11_0 rfl
          refine KO.pv (PV.move rfl) rfl rfl ?_
          refine KO.load1 ag3_B3 rfl (m12.row (i := 0) rfl) rfl rfl rfl ?_
          refine KO.pv (PV.mul rfl rfl (wrap64 (by omega) (by omega))) rfl rfl ?_
          refine KO.pv (PV.add rfl rfl (wrap64 (by omega) (by omega))) rfl rfl ?_
          refine KO.call rfl rfl rfl rfl (Contains_int H11 a_b n_b c_b _ ((2 * x) + 1) (V.mem m12 h_b) (wrap64 (by omega) (by omega))) fun v14 H14 q14 => ?_
          obtain ⟨o14, hv14, mc14, p14_0, p14_1⟩ := q14
          dsimp only at hv14 mc14
          subst hv14
          have m15 := m12.seq mc14
          refine KO.pv (PV.pickT rfl rfl rfl) rfl rfl ?_
          refine KO.pv (PV.assign rfl) rfl rfl ?_
          refine KO.nil ?_
          refine KC.seq ?_
          refine KC.region ?_
          refine KO.pv (PV.move rfl) rfl rfl ?_
          refine KO.load1 ag3_B3 rfl (m15.row (i := 0) rfl) rfl rfl rfl ?_
          refine KO.pv (PV.mul rfl rfl (wrap64 (by omega) (by omega))) rfl rfl ?_
          refine KO.pv (PV.add rfl rfl (wrap64 (by omega) (by omega))) rfl rfl ?_
          refine KO.call rfl rfl rfl rfl (Contains_int H14 a_a n_a c_a _ ((2 * x) + 1) (V.mem m15 h_a) (wrap64 (by omega) (by omega))) fun v16 H16 q16 => ?_
          obtain ⟨o16, hv16, mc16, p16_0, p16_1⟩ := q16
          dsimp only at hv16 mc16
          subst hv16
          have m17 := m15.seq mc16
          refine KO.pv (PV.move rfl) rfl rfl ?_
          rcases Bool.eq_false_or_eq_true o16 with h18 | h18
          · subst h18
            have p16_0t := p16_0 rfl
            refine KO.pv (PV.move rfl) rfl rfl ?_
            refine KO.load1 ag3_B3 rfl (m17.row (i := 0) rfl) rfl rfl rfl ?_
            refine KO.pv (PV.mul rfl rfl (wrap64 (by omega) (by omega))) rfl rfl ?_
            refine KO.call rfl rfl rfl rfl (Contains_int H16 a_b n_b c_b _ (2 * x) (V.mem m17 h_b) (wrap64 (by omega) (by omega))) fun v19 H19 q19 => ?_
            obtain ⟨o19, hv19, mc19, p19_0, p19_1⟩ := q19
            dsimp only at hv19 mc19
            subst hv19
            have m20 := m17.seq mc19
            refine KO.pv (PV.pickT rfl rfl rfl) rfl rfl ?_
            refine KO.pv (PV.assign rfl) rfl rfl ?_
            refine KO.nil ?_
            refine KC.seq ?_
            refine KC.seq ?_
            refine KC.region ?_
            refine KO.pv (PV.move rfl) rfl rfl ?_
            rcases Bool.eq_false_or_eq_true o14 with h21 | h21
            · subst h21
              have p14_0t := p14_0 rfl
              refine KO.pv (PV.notB rfl rfl) rfl rfl ?_
              refine KO.pv (PV.move rfl) rfl rfl ?_
              refine KO.no rfl rfl rfl ?_
              refine KO.no rfl rfl rfl ?_
              refine KO.pv (PV.pickF rfl rfl rfl) rfl rfl ?_
              refine KO.nil ?_
              refine KC.condF rfl ?_
              refine KC.skip ?_
              refine KC.seq ?_
              refine KC.region ?_
              refine KO.pv (PV.move rfl) rfl rfl ?_
              refine KO.pv (PV.move rfl) rfl rfl ?_
              refine KO.buildSliceM m20 el25_B3 ez22_B3 rfl rfl (show _ = some [.slice a_a n_a c_a, .slice a_b n_b c_b] from rfl) rfl rfl fun H22 m23 => ?_
              refine KO.call rfl rfl rfl rfl (Concat_int H22 (some ⟨H19.next, 0, none⟩) 2 2 _ _ (m23.vrow (E := ES) (xs := [(a_a, n_a, c_a), (a_b, n_b, c_b)]) (i := 0) rfl (fun _ _ => trivial) rfl (by decide) (by decide)) (VV.cons (V.mem m23 h_a) (VV.cons (V.mem m23 h_b) VV.nil)) (by simp only [List.flatten_cons, List.flatten_nil, List.length_append, List.length_nil]; omega)) fun v24 H24 q24 => ?_
              obtain ⟨a24, n24, xs24, D24, hv24, mc24, p24_0⟩ := q24
              dsimp only at hv24 mc24
              subst hv24
              have m25 := m23.seq mc24
              have hab : ∀ u ∈ xs24, 2 ≤ u ∧ u / 2 ≤ v := by rw [p24_0]; simp only [List.flatten_cons, List.flatten_nil, List.append_nil]; exact all_app p3_0_l p3_0u_l
              have wf_all : ∀ u ∈ xs24, (EI .i64).wf u := by rw [p24_0]; simp only [List.flatten_cons, List.flatten_nil, List.append_nil]; exact all_app wf_a wf_b
              have hn : xs24.length = n24 := m25.lstLen (E := EI .i64) (i := 0) rfl
              have hn2 : xs24.length = n_a + n_b := by rw [p24_0]; simp only [List.flatten_cons, List.flatten_nil, List.length_append, List.length_nil]; omega
              refine KO.pv (PV.makeFunc rfl rfl) rfl rfl ?_
              refine KO.call rfl rfl rfl rfl (DeleteFunc_int H24 a24 n24 _ _ 90 [.pointer (some ⟨H.next, 0, none⟩)] (fun _ _ => True) (m25.res (i := 0) rfl) (m25.lt (i := 0) rfl) wf_all rfl (fun A mA u hu => cl_Resolve1 A u H.next _ (wf_all u hu) (mA.row0M (m25.blt (i := 2) rfl) (m25.notinRow (i := 2) (k := 0) rfl rfl (by decide)) (m25.row (i := 2) rfl)) (Nat.lt_of_lt_of_le (m25.blt (i := 2) rfl) mA.next) (hab u hu).1) (by first | omega | assumption)) fun v26 H26 q26 => ?_
              obtain ⟨k26, ys26, hv26, mc26, p26_0, p26_1, p26_2⟩ := q26
              dsimp only at hv26 mc26
              subst hv26
              have m27 := m25.seqR (i := 0) rfl mc26
              refine KO.pv (PV.assign rfl) rfl rfl ?_
              refine KO.nil ?_
              refine KC.seq ?_
              refine KC.region ?_
              refine KO.pv (PV.move rfl) rfl rfl ?_
              refine KO.pv (PV.move rfl) rfl rfl ?_
              refine KO.call rfl rfl rfl rfl (cl_Make H26 v a24 k26 n24 _ (wrap64 (by omega) (by omega)) (m27.vown (i := 0) rfl) (by first | omega | assumption)) fun v28 H28 q28 => ?_
              obtain ⟨a28, k28, n28, ys28, D28, o28, e28, hv28, mc28, p28_0, p28_1, p28_2, p28_3⟩ := q28
              dsimp only at hv28 mc28
              subst hv28
              have m29 := m27.seq mc28
              refine KO.pv (PV.extract rfl rfl) rfl rfl ?_
              refine KO.pv (PV.extract rfl rfl) rfl rfl ?_
              refine KO.pv (PV.extract rfl rfl) rfl rfl ?_
              refine KO.pv (PV.assign rfl) rfl rfl ?_
              refine KO.pv (PV.assign rfl) rfl rfl ?_
              refine KO.pv (PV.assign rfl) rfl rfl ?_
              refine KO.nil ?_
              exact KC.ret ⟨rfl, _, (.tmp rfl (.tmp rfl (.tmp rfl .nil))), a28, k28, n28, ys28, D28, o28, e28, rfl, m29.pick [0] (by decide) rfl, (by first | omega | (intro h; omega) | (simp only [List.length_nil, true_and, and_true, or_true, true_or] <;> omega)), (by first | omega | (intro h; omega) | (simp only [List.length_nil, true_and, and_true, or_true, true_or] <;> omega) | exact all_nil | assumption), (by first | omega | (intro h; omega) | (simp only [List.length_nil, true_and, and_true, or_true, true_or] <;> omega) | (exact fun h => absurd h (by omega)) | (exact fun h => ⟨by assumption, by assumption, (p28_2 h).2.2⟩))⟩
            · subst h21
              have p14_1t := p14_1 rfl
              refine KO.pv (PV.notB rfl rfl) rfl rfl ?_
              refine KO.pv (PV.move rfl) rfl rfl ?_
              refine KO.pv (PV.move rfl) rfl rfl ?_
              rcases Bool.eq_false_or_eq_true o19 with h30 | h30
              · subst h30
                have p19_0t := p19_0 rfl
                refine KO.pv (PV.notB rfl rfl) rfl rfl ?_
                refine KO.pv (PV.pickT rfl rfl rfl) rfl rfl ?_
                refine KO.nil ?_
                refine KC.condF rfl ?_
                refine KC.skip ?_
                refine KC.seq ?_
                refine KC.region ?_
                refine KO.pv (PV.move rfl) rfl rfl ?_
                refine KO.pv (PV.move rfl) rfl rfl ?_
                refine KO.buildSliceM m20 el25_B3 ez22_B3 rfl rfl (show _ = some [.slice a_a n_a c_a, .slice a_b n_b c_b] from rfl) rfl rfl fun H31 m32 => ?_
                refine KO.call rfl rfl rfl rfl (Concat_int H31 (some ⟨H19.next, 0, none⟩) 2 2 _ _ (m32.vrow (E := ES) (xs := [(a_a, n_a, c_a), (a_b, n_b, c_b)]) (i := 0) rfl (fun _ _ => trivial) rfl (by decide) (by decide)) (VV.cons (V.mem m32 h_a) (VV.cons (V.mem m32 h_b) VV.nil)) (by simp only [List.flatten_cons, List.flatten_nil, List.length_append, List.length_nil]; omega)) fun v33 H33 q33 => ?_
                obtain ⟨a33, n33, xs33, D33, hv33, mc33, p33_0⟩ := q33
                dsimp only at hv33 mc33
                subst hv33
                have m34 := m32.seq mc33
                have hab : ∀ u ∈ xs33, 2 ≤ u ∧ u / 2 ≤ v := by rw [p33_0]; simp only [List.flatten_cons, List.flatten_nil, List.append_nil]; exact all_app p3_0_l p3_0u_l
                have wf_all : ∀ u ∈ xs33, (EI .i64).wf u := by rw [p33_0]; simp only [List.flatten_cons, List.flatten_nil, List.append_nil]; exact all_app wf_a wf_b
                have hn : xs33.length = n33 := m34.lstLen (E := EI .i64) (i := 0) rfl
                have hn2 : xs33.length = n_a + n_b := by rw [p33_0]; simp only [List.flatten_cons, List.flatten_nil, List.length_append, List.length_nil]; omega
                refine KO.pv (PV.makeFunc rfl rfl) rfl rfl ?_
                refine KO.call rfl rfl rfl rfl (DeleteFunc_int H33 a33 n33 _ _ 90 [.pointer (some ⟨H.next, 0, none⟩)] (fun _ _ => True) (m34.res (i := 0) rfl) (m34.lt (i := 0) rfl) wf_all rfl (fun A mA u hu => cl_Resolve1 A u H.next _ (wf_all u hu) (mA.row0M (m34.blt (i := 2) rfl) (m34.notinRow (i := 2) (k := 0) rfl rfl (by decide)) (m34.row (i := 2) rfl)) (Nat.lt_of_lt_of_le (m34.blt (i := 2) rfl) mA.next) (hab u hu).1) (by first | omega | assumption)) fun v35 H35 q35 => ?_
                obtain ⟨k35, ys35, hv35, mc35, p35_0, p35_1, p35_2⟩ := q35
                dsimp only at hv35 mc35
                subst hv35
                have m36 := m34.seqR (i := 0) rfl mc35
                refine KO.pv (PV.assign rfl) rfl rfl ?_
                refine KO.nil ?_
                refine KC.seq ?_
                refine KC.region ?_
                refine KO.pv (PV.move rfl) rfl rfl ?_
                refine KO.pv (PV.move rfl) rfl rfl ?_
                refine KO.call rfl rfl rfl rfl (cl_Make H35 v a33 k35 n33 _ (wrap64 (by omega) (by omega)) (m36.vown (i := 0) rfl) (by first | omega | assumption)) fun v37 H37 q37 => ?_
                obtain ⟨a37, k37, n37, ys37, D37, o37, e37, hv37, mc37, p37_0, p37_1, p37_2, p37_3⟩ := q37
                dsimp only at hv37 mc37
                subst hv37
                have m38 := m36.seq mc37
                refine KO.pv (PV.extract rfl rfl) rfl rfl ?_
                refine KO.pv (PV.extract rfl rfl) rfl rfl ?_
                refine KO.pv (PV.extract rfl rfl) rfl rfl ?_
                refine KO.pv (PV.assign rfl) rfl rfl ?_
                refine KO.pv (PV.assign rfl) rfl rfl ?_
                refine KO.pv (PV.assign rfl) rfl rfl ?_
                refine KO.nil ?_
                exact KC.ret ⟨rfl, _, (.tmp rfl (.tmp rfl (.tmp rfl .nil))), a37, k37, n37, ys37, D37, o37, e37, rfl, m38.pick [0] (by decide) rfl, (by first | omega | (intro h; omega) | (simp only [List.length_nil, true_and, and_true, or_true, true_or] <;> omega)), (by first | omega | (intro h; omega) | (simp only [List.length_nil, true_and, and_true, or_true, true_or] <;> omega) | exact all_nil | assumption), (by first | omega | (intro h; omega) | (simp only [List.length_nil, true_and, and_true, or_true, true_or] <;> omega) | (exact fun h => absurd h (by omega)) | (exact fun h => ⟨by assumption, by assumption, (p37_2 h).2.2⟩))⟩
              · subst h30
                have p19_1t := p19_1 rfl
                refine KO.pv (PV.notB rfl rfl) rfl rfl ?_
                refine KO.pv (PV.pickT rfl rfl rfl) rfl rfl ?_
                refine KO.nil ?_
                refine KC.condT rfl ?_
                refine KC.seq ?_
                refine KC.region ?_
                refine KO.pv (PV.assign rfl) rfl rfl ?_
                refine KO.pv (PV.assign rfl) rfl rfl ?_
                refine KO.pv (PV.assign rfl) rfl rfl ?_
                refine KO.nil ?_
                have m39 := m20.ownNil (C := (EI .i64))
                exact KC.ret ⟨rfl, _, (.tmp rfl (.tmp rfl (.tmp rfl .nil))), none, 0, 0, [], [], false, 6, rfl, m39.pick [0] (by decide) rfl, (by first | omega | (intro h; omega) | (simp only [List.length_nil, true_and, and_true, or_true, true_or] <;> omega)), (by first | omega | (intro h; omega) | (simp only [List.length_nil, true_and, and_true, or_true, true_or] <;> omega) | exact all_nil | assumption), (by first | omega | (intro h; omega) | (simp only [List.length_nil, true_and, and_true, or_true, true_or] <;> omega) | (exact fun h => absurd h (by omega)))⟩
          · subst h18
            have p16_1t := p16_1 rfl
            refine KO.no rfl rfl rfl ?_
            refine KO.no rfl rfl rfl ?_
            refine KO.no rfl rfl rfl ?_
            refine KO.no rfl rfl rfl ?_
            refine KO.pv (PV.pickF rfl rfl rfl) rfl rfl ?_
            refine KO.pv (PV.assign rfl) rfl rfl ?_
            refine KO.nil ?_
            refine KC.seq ?_
            refine KC.seq ?_
            refine KC.region ?_
            refine KO.pv (PV.move rfl) rfl rfl ?_
            rcases Bool.eq_false_or_eq_true o14 with h40 | h40
            · subst h40
              have p14_0t := p14_0 rfl
              refine KO.pv (PV.notB rfl rfl) rfl rfl ?_
              refine KO.pv (PV.move rfl) rfl rfl ?_
              refine KO.no rfl rfl rfl ?_
              refine KO.no rfl rfl rfl ?_
              refine KO.pv (PV.pickF rfl rfl rfl) rfl rfl ?_
              refine KO.nil ?_
              refine KC.condF rfl ?_
              refine KC.skip ?_
              refine KC.seq ?_
              refine KC.region ?_
              refine KO.pv (PV.move rfl) rfl rfl ?_
              refine KO.pv (PV.move rfl) rfl rfl ?_
              refine KO.buildSliceM m17 el25_B3 ez22_B3 rfl rfl (show _ = some [.slice a_a n_a c_a, .slice a_b n_b c_b] from rfl) rfl rfl fun H41 m42 => ?_
              refine KO.call rfl rfl rfl rfl (Concat_int H41 (some ⟨H16.next, 0, none⟩) 2 2 _ _ (m42.vrow (E := ES) (xs := [(a_a, n_a, c_a), (a_b, n_b, c_b)]) (i := 0) rfl (fun _ _ => trivial) rfl (by decide) (by decide)) (VV.cons (V.mem m42 h_a) (VV.cons (V.mem m42 h_b) VV.nil)) (by simp only [List.flatten_cons, List.flatten_nil, List.length_append, List.length_nil]; omega)) fun v43 H43 q43 => ?_
              obtain ⟨a43, n43, xs43, D43, hv43, mc43, p43_0⟩ := q43
              dsimp only at hv43 mc43
              subst hv43
              have m44 := m42.seq mc43
              have hab : ∀ u ∈ xs43, 2 ≤ u ∧ u / 2 ≤ v := by rw [p43_0]; simp only [List.flatten_cons, List.flatten_nil, List.append_nil]; exact all_app p3_0_l p3_0u_l
              have wf_all : ∀ u ∈ xs43, (EI .i64).wf u := by rw [p43_0]; simp only [List.flatten_cons, List.flatten_nil, List.append_nil]; exact all_app wf_a wf_b
              have hn : xs43.length = n43 := m44.lstLen (E := EI .i64) (i := 0) rfl
              have hn2 : xs43.length = n_a + n_b := by rw [p43_0]; simp only [List.flatten_cons, List.flatten_nil, List.length_append, List.length_nil]; omega
              refine KO.pv (PV.makeFunc rfl rfl) rfl rfl ?_
              refine KO.call rfl rfl rfl rfl (DeleteFunc_int H43 a43 n43 _ _ 90 [.pointer (some ⟨H.next, 0, none⟩)] (fun _ _ => True) (m44.res (i := 0) rfl) (m44.lt (i := 0) rfl) wf_all rfl (fun A mA u hu => cl_Resolve1 A u H.next _ (wf_all u hu) (mA.row0M (m44.blt (i := 2) rfl) (m44.notinRow (i := 2) (k := 0) rfl rfl (by decide)) (m44.row (i := 2) rfl)) (Nat.lt_of_lt_of_le (m44.blt (i := 2) rfl) mA.next) (hab u hu).1) (by first | omega | assumption)) fun v45 H45 q45 => ?_
              obtain ⟨k45, ys45, hv45, mc45, p45_0, p45_1, p45_2⟩ := q45
              dsimp only at hv45 mc45
              subst hv45
              have m46 := m44.seqR (i := 0) rfl mc45
              refine KO.pv (PV.assign rfl) rfl rfl ?_
              refine KO.nil ?_
              refine KC.seq ?_
              refine KC.region ?_
              refine KO.pv (PV.move rfl) rfl rfl ?_
              refine KO.pv (PV.move rfl) rfl rfl ?_
              refine KO.call rfl rfl rfl rfl (cl_Make H45 v a43 k45 n43 _ (wrap64 (by omega) (by omega)) (m46.vown (i := 0) rfl) (by first | omega | assumption)) fun v47 H47 q47 => ?_
              obtain ⟨a47, k47, n47, ys47, D47, o47, e47, hv47, mc47, p47_0, p47_1, p47_2, p47_3⟩ := q47
              dsimp only at hv47 mc47
              subst hv47
              have m48 := m46.seq mc47
              refine KO.pv (PV.extract rfl rfl) rfl rfl ?_
              refine KO.pv (PV.extract rfl rfl) rfl rfl ?_
              refine KO.pv (PV.extract rfl rfl) rfl rfl ?_
              refine KO.pv (PV.assign rfl) rfl rfl ?_
              refine KO.pv (PV.assign rfl) rfl rfl ?_
              refine KO.pv (PV.assign rfl) rfl rfl ?_
              refine KO.nil ?_
              exact KC.ret ⟨rfl, _, (.tmp rfl (.tmp rfl (.tmp rfl .nil))), a47, k47, n47, ys47, D47, o47, e47, rfl, m48.pick [0] (by decide) rfl, (by first | omega | (intro h; omega) | (simp only [List.length_nil, true_and, and_true, or_true, true_or] <;> omega)), (by first | omega | (intro h; omega) | (simp only [List.length_nil, true_and, and_true, or_true, true_or] <;> omega) | exact all_nil | assumption), (by first | omega | (intro h; omega) | (simp only [List.length_nil, true_and, and_true, or_true, true_or] <;> omega) | (exact fun h => absurd h (by omega)) | (exact fun h => ⟨by assumption, by assumption, (p47_2 h).2.2⟩))⟩
            · subst h40
              have p14_1t := p14_1 rfl
              refine KO.pv (PV.notB rfl rfl) rfl rfl ?_
              refine KO.pv (PV.move rfl) rfl rfl ?_
              refine KO.pv (PV.move rfl) rfl rfl ?_
              refine KO.pv (PV.notB rfl rfl) rfl rfl ?_
              refine KO.pv (PV.pickT rfl rfl rfl) rfl rfl ?_
              refine KO.nil ?_
              refine KC.condT rfl ?_
              refine KC.seq ?_
              refine KC.region ?_
              refine KO.pv (PV.assign rfl) rfl rfl ?_
              refine KO.pv (PV.assign rfl) rfl rfl ?_
              refine KO.pv (PV.assign rfl) rfl rfl ?_
              refine KO.nil ?_
              have m49 := m17.ownNil (C := (EI .i64))
              exact KC.ret ⟨rfl, _, (.tmp rfl (.tmp rfl (.tmp rfl .nil))), none, 0, 0, [], [], false, 6, rfl, m49.pick [0] (by decide) rfl, (by first | omega | (intro h; omega) | (simp only [List.length_nil, true_and, and_true, or_true, true_or] <;> omega)), (by first | omega | (intro h; omega) | (simp only [List.length_nil, true_and, and_true, or_true, true_or] <;> omega) | exact all_nil | assumption), (by first | omega | (intro h; omega) | (simp only [List.length_nil, true_and, and_true, or_true, true_or] <;> omega) | (exact fun h => absurd h (by omega)))⟩
        · subst h13
          have p11_1t := p11_1 rfl
          refine KO.no rfl rfl rfl ?_
          refine KO.no rfl rfl rfl ?_
          refine KO.no rfl rfl rfl ?_
          refine KO.no rfl rfl rfl ?_
          refine KO.no rfl rfl rfl ?_
          refine KO.pv (PV.pickF rfl rfl rfl) rfl rfl ?_
          refine KO.pv (PV.assign rfl) rfl rfl ?_
          refine KO.nil ?_
          refine KC.seq ?_
          refine KC.region ?_
          refine KO.pv (PV.move rfl) rfl rfl ?_
          refine KO.load1 ag3_B3 rfl (m12.row (i := 0) rfl) rfl rfl rfl ?_
          refine KO.pv (PV.mul rfl rfl (wrap64 (by omega) (by omega))) rfl rfl ?_
          refine KO.pv (PV.add rfl rfl (wrap64 (by omega) (by omega))) rfl rfl ?_
          refine KO.call rfl rfl rfl rfl (Contains_int H11 a_a n_a c_a _ ((2 * x) + 1) (V.mem m12 h_a) (wrap64 (by omega) (by omega))) fun v50 H50 q50 => ?_
          obtain ⟨o50, hv50, mc50, p50_0, p50_1⟩ := q50
          dsimp only at hv50 mc50
          subst hv50
          have m51 := m12.seq mc50
          refine KO.pv (PV.move rfl) rfl rfl ?_
          rcases Bool.eq_false_or_eq_true o50 with h52 | h52
          · subst h52
            have p50_0t := p50_0 rfl
            refine KO.pv (PV.move rfl) rfl rfl ?_
            refine KO.load1 ag3_B3 rfl (m51.row (i := 0) rfl) rfl rfl rfl ?_
            refine KO.pv (PV.mul rfl rfl (wrap64 (by omega) (by omega))) rfl rfl ?_
            refine KO.call rfl rfl rfl rfl (Contains_int H50 a_b n_b c_b _ (2 * x) (V.mem m51 h_b) (wrap64 (by omega) (by omega))) fun v53 H53 q53 => ?_
            obtain ⟨o53, hv53, mc53, p53_0, p53_1⟩ := q53
            dsimp only at hv53 mc53
            subst hv53
            have m54 := m51.seq mc53
            refine KO.pv (PV.pickT rfl rfl rfl) rfl rfl ?_
            refine KO.pv (PV.assign rfl) rfl rfl ?_
            refine KO.nil ?_
            refine KC.seq ?_
            refine KC.seq ?_
            refine KC.region ?_
            refine KO.pv (PV.move rfl) rfl rfl ?_
            refine KO.pv (PV.notB rfl rfl) rfl rfl ?_
            refine KO.pv (PV.move rfl) rfl rfl ?_
            refine KO.pv (PV.move rfl) rfl rfl ?_
            rcases Bool.eq_false_or_eq_true o53 with h55 | h55
            · subst h55
              have p53_0t := p53_0 rfl
              refine KO.pv (PV.notB rfl rfl) rfl rfl ?_
              refine KO.pv (PV.pickT rfl rfl rfl) rfl rfl ?_
              refine KO.nil ?_
              refine KC.condF rfl ?_
              refine KC.skip ?_
              refine KC.seq ?_
              refine KC.region ?_
              refine KO.pv (PV.move rfl) rfl rfl ?_
              refine KO.pv (PV.move rfl) rfl rfl ?_
              refine KO.buildSliceM m54 el25_B3 ez22_B3 rfl rfl (show _ = some [.slice a_a n_a c_a, .slice a_b n_b c_b] from rfl) rfl rfl fun H56 m57 => ?_
              refine KO.call rfl rfl rfl rfl (Concat_int H56 (some ⟨H53.next, 0, none⟩) 2 2 _ _ (m57.vrow (E := ES) (xs := [(a_a, n_a, c_a), (a_b, n_b, c_b)]) (i := 0) rfl (fun _ _ => trivial) rfl (by decide) (by decide)) (VV.cons (V.mem m57 h_a) (VV.cons (V.mem m57 h_b) VV.nil)) (by simp only [List.flatten_cons, List.flatten_nil, List.length_append, List.length_nil]; omega)) fun v58 H58 q58 => ?_
              obtain ⟨a58, n58, xs58, D58, hv58, mc58, p58_0⟩ := q58
              dsimp only at hv58 mc58
              subst hv58
              have m59 := m57.seq mc58
              have hab : ∀ u ∈ xs58, 2 ≤ u ∧ u / 2 ≤ v := by rw [p58_0]; simp only [List.flatten_cons, List.flatten_nil, List.append_nil]; exact all_app p3_0_l p3_0u_l
              have wf_all : ∀ u ∈ xs58, (EI .i64).wf u := by rw [p58_0]; simp only [List.flatten_cons, List.flatten_nil, List.append_nil]; exact all_app wf_a wf_b
              have hn : xs58.length = n58 := m59.lstLen (E := EI .i64) (i := 0) rfl
              have hn2 : xs58.length = n_a + n_b := by rw [p58_0]; simp only [List.flatten_cons, List.flatten_nil, List.length_append, List.length_nil]; omega
              refine KO.pv (PV.makeFunc rfl rfl) rfl rfl ?_
              refine KO.call rfl rfl rfl rfl (DeleteFunc_int H58 a58 n58 _ _ 90 [.pointer (some ⟨H.next, 0, none⟩)] (fun _ _ => True) (m59.res (i := 0) rfl) (m59.lt (i := 0) rfl) wf_all rfl (fun A mA u hu => cl_Resolve1 A u H.next _ (wf_all u hu) (mA.row0M (m59.blt (i := 2) rfl) (m59.notinRow (i := 2) (k := 0) rfl rfl (by decide)) (m59.row (i := 2) rfl)) (Nat.lt_of_lt_of_le (m59.blt (i := 2) rfl) mA.next) (hab u hu).1) (by first | omega | assumption)) fun v60 H60 q60 => ?_
              obtain ⟨k60, ys60, hv60, mc60, p60_0, p60_1, p60_2⟩ := q60
              dsimp only at hv60 mc60
              subst hv60
              have m61 := m59.seqR (i := 0) rfl mc60
              refine KO.pv (PV.assign rfl) rfl rfl ?_
              refine KO.nil ?_
              refine KC.seq ?_
              refine KC.region ?_
              refine KO.pv (PV.move rfl) rfl rfl ?_
              refine KO.pv (PV.move rfl) rfl rfl ?_
              refine KO.call rfl rfl rfl rfl (cl_Make H60 v a58 k60 n58 _ (wrap64 (by omega) (by omega)) (m61.vown (i := 0) rfl) (by first | omega | assumption)) fun v62 H62 q62 => ?_
              obtain ⟨a62, k62, n62, ys62, D62, o62, e62, hv62, mc62, p62_0, p62_1, p62_2, p62_3⟩ := q62
              dsimp only at hv62 mc62
              subst hv62
              have m63 := m61.seq mc62
              refine KO.pv (PV.extract rfl rfl) rfl rfl ?_
              refine KO.pv (PV.extract rfl rfl) rfl rfl ?_
              refine KO.pv (PV.extract rfl rfl) rfl rfl ?_
              refine KO.pv (PV.assign rfl) rfl rfl ?_
              refine KO.pv (PV.assign rfl) rfl rfl ?_
              refine KO.pv (PV.assign rfl) rfl rfl ?_
              refine KO.nil ?_
              exact KC.ret ⟨rfl, _, (.tmp rfl (.tmp rfl (.tmp rfl .nil))), a62, k62, n62, ys62, D62, o62, e62, rfl, m63.pick [0] (by decide) rfl, (by first | omega | (intro h; omega) | (simp only [List.length_nil, true_and, and_true, or_true, true_or] <;> omega)), (by first | omega | (intro h; omega) | (simp only [List.length_nil, true_and, and_true, or_true, true_or] <;> omega) | exact all_nil | assumption), (by first | omega | (intro h; omega) | (simp only [List.length_nil, true_and, and_true, or_true, true_or] <;> omega) | (exact fun h => absurd h (by omega)) | (exact fun h => ⟨by assumption, by assumption, (p62_2 h).2.2⟩))⟩
            · subst h55
              have p53_1t := p53_1 rfl
              refine KO.pv (PV.notB rfl rfl) rfl rfl ?_
              refine KO.pv (PV.pickT rfl rfl rfl) rfl rfl ?_
              refine KO.nil ?_
              refine KC.condT rfl ?_
              refine KC.seq ?_
              refine KC.region ?_
              refine KO.pv (PV.assign rfl) rfl rfl ?_
              refine KO.pv (PV.assign rfl) rfl rfl ?_
              refine KO.pv (PV.assign rfl) rfl rfl ?_
              refine KO.nil ?_
              have m64 := m54.ownNil (C := (EI .i64))
              exact KC.ret ⟨rfl, _, (.tmp rfl (.tmp rfl (.tmp rfl .nil))), none, 0, 0, [], [], false, 6, rfl, m64.pick [0] (by decide) rfl, (by first | omega | (intro h; omega) | (simp only [List.length_nil, true_and, and_true, or_true, true_or] <;> omega)), (by first | omega | (intro h; omega) | (simp only [List.length_nil, true_and, and_true, or_true, true_or] <;> omega) | exact all_nil | assumption), (by first | omega | (intro h; omega) | (simp only [List.length_nil, true_and, and_true, or_true, true_or] <;> omega) | (exact fun h => absurd h (by omega)))⟩
          · subst h52
            have p50_1t := p50_1 rfl
            refine KO.no rfl rfl rfl ?_
            refine KO.no rfl rfl rfl ?_
            refine KO.no rfl rfl rfl ?_
            refine KO.no rfl rfl rfl ?_
            refine KO.pv (PV.pickF rfl rfl rfl) rfl rfl ?_
            refine KO.pv (PV.assign rfl) rfl rfl ?_
            refine KO.nil ?_
            refine KC.seq ?_
            refine KC.seq ?_
            refine KC.region ?_
            refine KO.pv (PV.move rfl) rfl rfl ?_
            refine KO.pv (PV.notB rfl rfl) rfl rfl ?_
            refine KO.pv (PV.move rfl) rfl rfl ?_
            refine KO.pv (PV.move rfl) rfl rfl ?_
            refine KO.pv (PV.notB rfl rfl) rfl rfl ?_
            refine KO.pv (PV.pickT rfl rfl rfl) rfl rfl ?_
            refine KO.nil ?_
            refine KC.condT rfl ?_
            refine KC.seq ?_
            refine KC.region ?_
            refine KO.pv (PV.assign rfl) rfl rfl ?_
            refine KO.pv (PV.assign rfl) rfl rfl ?_
            refine KO.pv (PV.assign rfl) rfl rfl ?_
            refine KO.nil ?_
            have m65 := m51.ownNil (C := (EI .i64))
            exact KC.ret ⟨rfl, _, (.tmp rfl (.tmp rfl (.tmp rfl .nil))), none, 0, 0, [], [], false, 6, rfl, m65.pick [0] (by decide) rfl, (by first | omega | (intro h; omega) | (simp only [List.length_nil, true_and, and_true, or_true, true_or] <;> omega)), (by first | omega | (intro h; omega) | (simp only [List.length_nil, true_and, and_true, or_true, true_or] <;> omega) | exact all_nil | assumption), (by first | omega | (intro h; omega) | (simp only [List.length_nil, true_and, and_true, or_true, true_or] <;> omega) | (exact fun h => absurd h (by omega)))⟩
end Go.Eng
