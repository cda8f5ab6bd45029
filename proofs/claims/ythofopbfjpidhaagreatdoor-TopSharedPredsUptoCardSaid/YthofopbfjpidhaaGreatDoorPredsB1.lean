/- Functions of the program and of the library keep their contracts. Conditions: none beyond each theorem's own. -/
import Derived.Test.YthofopbfjpidhaaGreatDoorF
import Derived.KernelRfl
set_option linter.all false
namespace Go.Eng
open Go Go.Proofs
theorem ag3_B1 : isAggT E0.P 3 = some false := by kernel_rfl
theorem sz3_B1 : sizeT E0.P 3 = some 1 := by kernel_rfl
theorem el24_B1 : elemT E0.P 24 = some 3 := by kernel_rfl
theorem ez3_B1 : elemZ E0.P 3 = some (1, [.int .i64 0]) := by kernel_rfl
theorem sb3_B1 : smallBytes E0.P 3 = true := by kernel_rfl
theorem un24_B1 : E0.P.underlying 24 = some (.slice 3) := by kernel_rfl
theorem Clone_int (H : AHeap) (a_s : Option Addr) (n_s c_s : Nat) (s : List Int) (h_s : V (EI .i64) H a_s n_s c_s s) (hm : n_s ≤ 330000000) : WF E0 111 [.slice a_s n_s c_s] H fun q => ∃ (a : Option Addr) (n : Nat) (xs : List Int) (D : List Nat), q.1 = .slice a n n ∧ Mem [] H q.2 [R.lst 3 1 a n (cells (EI .i64) xs) D] ∧ (xs = s) ∧ (n = n_s) ∧ (xs.length = n) ∧ (∀ u ∈ xs, (EI .i64).wf u) := by
  obtain ⟨len_s, cap_s, max_s, wf_s⟩ := h_s.len
  have m0 : Mem [] H H [] := Mem.start
  refine WF.kg Tryz.func111 rfl rfl ?_
  refine KC.seq ?_
  refine KC.region ?_
  refine KO.pv (PV.assign rfl) rfl rfl ?_
  refine KO.nil ?_
  refine KC.seq ?_
  refine KC.seq ?_
  refine KC.region ?_
  refine KO.pv (PV.move rfl) rfl rfl ?_
  obtain ⟨b1, qb1⟩ : ∃ b : Bool, isNone a_s = b := ⟨_, rfl⟩
  refine KO.pv (PV.eqNilB un24_B1 rfl qb1) rfl rfl ?_
  refine KO.nil ?_
  refine KC.cond rfl (fun h2 => ?_) (fun h2 => ?_)
  · subst h2
    obtain rfl := h_s.nil0 (by assumption)
    obtain rfl := List.length_eq_zero_iff.1 len_s
    refine KC.seq ?_
    refine KC.region ?_
    refine KO.pv (PV.assign rfl) rfl rfl ?_
    refine KO.nil ?_
    have m3 := m0.lnilC (EI .i64) (e := 3) none rfl
    exact KC.ret ⟨rfl, _, (.tmp rfl .nil), none, 0, [], [], rfl, m3.pick [0] (by decide) rfl, (by first | omega | (intro h; omega) | (simp only [List.length_nil, true_and, and_true, or_true, true_or] <;> omega) | rfl | (simp only [List.nil_append])), (by first | omega | (intro h; omega) | (simp only [List.length_nil, true_and, and_true, or_true, true_or] <;> omega)), (by first | omega | (intro h; omega) | (simp only [List.length_nil, true_and, and_true, or_true, true_or] <;> omega) | rfl | assumption), (by first | omega | (intro h; omega) | (simp only [List.length_nil, true_and, and_true, or_true, true_or] <;> omega) | exact wf_s | exact all_nil)⟩
  · subst h2
    refine KC.skip ?_
    refine KC.seq ?_
    refine KC.region ?_
    refine KO.buildSliceM m0 el24_B1 ez3_B1 rfl rfl (show _ = some [] from rfl) rfl rfl fun H4 m5 => ?_
    refine KO.pv (PV.move rfl) rfl rfl ?_
    have m6 := m5.lnilC (EI .i64) (e := 3) (some ⟨H.next, 0, none⟩) rfl
    refine KO.appendC0 (C := (EI .i64)) m6 (i := 0) rfl el24_B1 ez3_B1 sb3_B1 un24_B1 rfl rfl (V.new (V.mem m6 h_s)) (by first | omega | (simp only [splice, List.length_append, List.length_set, List.length_replicate, List.length_map, List.length_take, List.length_drop, List.length_cons, List.length_nil] <;> omega)) (by first | omega | (simp only [splice, List.length_append, List.length_set, List.length_replicate, List.length_map, List.length_take, List.length_drop, List.length_cons, List.length_nil] <;> omega)) rfl rfl fun a8 D9 H7 m10 => ?_
    refine KO.pv (PV.assign rfl) rfl rfl ?_
    refine KO.nil ?_
    exact KC.ret ⟨rfl, _, (.tmp rfl .nil), a8, n_s, s, D9, rfl, m10.pick [0] (by decide) rfl, (by first | omega | (intro h; omega) | (simp only [List.length_nil, true_and, and_true, or_true, true_or] <;> omega) | rfl | (simp only [List.nil_append])), (by first | omega | (intro h; omega) | (simp only [List.length_nil, true_and, and_true, or_true, true_or] <;> omega)), (by first | omega | (intro h; omega) | (simp only [List.length_nil, true_and, and_true, or_true, true_or] <;> omega) | rfl | assumption), (by first | omega | (intro h; omega) | (simp only [List.length_nil, true_and, and_true, or_true, true_or] <;> omega) | exact wf_s | exact all_nil)⟩
structure AsgOK (v : Int) (T S : List Int) : Prop where
  v0 : 0 ≤ v
  v1 : v ≤ 4000
  t : ∀ u ∈ T, 2 ≤ u ∧ u / 2 ≤ v
  td : ∀ (i j : Nat) (x y : Int), i < j → T[i]? = some x → T[j]? = some y → x / 2 ≠ y / 2
  s : ∀ u ∈ S, 0 ≤ u ∧ u < T.length
  n : (T.length : Int) ≤ v + 1
  m : S.length ≤ T.length
structure ClOK (v : Int) (c : List Int) : Prop where
  v0 : 0 ≤ v
  v1 : v ≤ 4000
  l : ∀ u ∈ c, 2 ≤ u ∧ u / 2 ≤ v
  lt : ∀ (i : Nat) x y, c[i]? = some x → c[i + 1]? = some y → x < y
  n : (c.length : Int) ≤ 2 * v + 2
theorem cl_known (H : AHeap) (v : Int) (l : Int) (w_v : IntKind.i64.wrap v = v) (w_l : IntKind.i64.wrap l = l) : WF E0 189 [.int .i64 v, .int .i64 l] H fun q => ∃ (o : Bool), q.1 = .bool o ∧ Mem [] H q.2 [] ∧ (o = true → 2 ≤ l ∧ l / 2 ≤ v) ∧ (o = false → ¬ (2 ≤ l ∧ l / 2 ≤ v)) := by
  obtain ⟨lo_v, hi_v⟩ := rangei64 w_v
  obtain ⟨lo_l, hi_l⟩ := rangei64 w_l
  have m0 : Mem [] H H [] := Mem.start
  refine WF.kg Tryz.func189 rfl rfl ?_
  refine KC.seq ?_
  refine KC.region ?_
  refine KO.pv (PV.assign rfl) rfl rfl ?_
  refine KO.nil ?_
  refine KC.seq ?_
  refine KC.region ?_
  refine KO.pv (PV.move rfl) rfl rfl ?_
  by_cases h1 : 2 ≤ l
  · refine KO.pv (PV.geqD rfl rfl (decide_eq_true h1)) rfl rfl ?_
    refine KO.pv (PV.move rfl) rfl rfl ?_
    refine KO.pv (PV.move rfl) rfl rfl ?_
    refine KO.pv (PV.quo rfl rfl (by omega) (quoN (by omega) (by omega))) rfl rfl ?_
    refine KO.pv (PV.move rfl) rfl rfl ?_
    refine KO.pv (PV.leqD rfl rfl rfl) rfl rfl ?_
    refine KO.pv (PV.pickT rfl rfl rfl) rfl rfl ?_
    refine KO.pv (PV.assign rfl) rfl rfl ?_
    refine KO.nil ?_
    exact KC.ret ⟨rfl, _, (.tmp rfl .nil), (decide ((l / 2) ≤ v)), rfl, m0.pick [] (by decide) rfl, (by first | omega | (intro h; omega) | (simp only [List.length_nil, true_and, and_true, or_true, true_or] <;> omega) | (exact fun h => by cases h) | (exact fun h => by have := of_decide_eq_true h; omega)), (by first | omega | (intro h; omega) | (simp only [List.length_nil, true_and, and_true, or_true, true_or] <;> omega) | (exact fun h => by cases h) | (exact fun h => by have := of_decide_eq_false h; omega))⟩
  · refine KO.pv (PV.geqD rfl rfl (decide_eq_false h1)) rfl rfl ?_
    refine KO.pv (PV.move rfl) rfl rfl ?_
    refine KO.no rfl rfl rfl ?_
    refine KO.no rfl rfl rfl ?_
    refine KO.no rfl rfl rfl ?_
    refine KO.no rfl rfl rfl ?_
    refine KO.pv (PV.pickF rfl rfl rfl) rfl rfl ?_
    refine KO.pv (PV.assign rfl) rfl rfl ?_
    refine KO.nil ?_
    exact KC.ret ⟨rfl, _, (.tmp rfl .nil), false, rfl, m0.pick [] (by decide) rfl, (by first | omega | (intro h; omega) | (simp only [List.length_nil, true_and, and_true, or_true, true_or] <;> omega) | (exact fun h => by cases h) | (exact fun h => by have := of_decide_eq_true h; omega)), (by first | omega | (intro h; omega) | (simp only [List.length_nil, true_and, and_true, or_true, true_or] <;> omega) | (exact fun h => by cases h) | (exact fun h => by have := of_decide_eq_false h; omega))⟩
theorem cl_Check (H : AHeap) (v : Int) (a_c : Option Addr) (n_c c_c : Nat) (c : List Int) (w_v : IntKind.i64.wrap v = v) (h_c : V (EI .i64) H a_c n_c c_c c) : WF E0 141 [.int .i64 v, .slice a_c n_c c_c] H fun q => ∃ (e : Int), q.1 = .int .i64 e ∧ Mem [] H q.2 [] ∧ (e = 0 → ClOK v c) ∧ (0 ≤ e ∧ e ≤ 100) := by
  obtain ⟨lo_v, hi_v⟩ := rangei64 w_v
  obtain ⟨len_c, cap_c, max_c, wf_c⟩ := h_c.len
  have m0 : Mem [] H H [] := Mem.start
  refine WF.kg Tryz.func141 rfl rfl ?_
  refine KC.seq ?_
  refine KC.region ?_
  refine KO.pv (PV.assign rfl) rfl rfl ?_
  refine KO.nil ?_
  refine KC.seq ?_
  refine KC.seq ?_
  refine KC.region ?_
  refine KO.pv (PV.move rfl) rfl rfl ?_
  by_cases h1 : v < 0
  · refine KO.pv (PV.lssD rfl rfl (decide_eq_true h1)) rfl rfl ?_
    refine KO.pv (PV.move rfl) rfl rfl ?_
    refine KO.no rfl rfl rfl ?_
    refine KO.no rfl rfl rfl ?_
    refine KO.pv (PV.pickT rfl rfl rfl) rfl rfl ?_
    refine KO.nil ?_
    refine KC.condT rfl ?_
    refine KC.seq ?_
    refine KC.region ?_
    refine KO.pv (PV.assign rfl) rfl rfl ?_
    refine KO.nil ?_
    exact KC.ret ⟨rfl, _, (.tmp rfl .nil), 2, rfl, m0.pick [] (by decide) rfl, (by first | omega | (intro h; omega) | (simp only [List.length_nil, true_and, and_true, or_true, true_or] <;> omega) | (exact fun _ => ⟨by omega, by omega, hpre.mem len_c (by omega), fun i x y hx hy => hin.m i x y (by have := (List.getElem?_eq_some_iff.1 hy).1; omega) hx hy, by have := hin.bound len_c (by omega) (v := 2 * v + 2) (fun u hu => by have := hpre.mem len_c (by omega) u hu; omega) (by omega); omega⟩)), (by first | omega | (intro h; omega) | (simp only [List.length_nil, true_and, and_true, or_true, true_or] <;> omega))⟩
  · refine KO.pv (PV.lssD rfl rfl (decide_eq_false h1)) rfl rfl ?_
    refine KO.pv (PV.move rfl) rfl rfl ?_
    refine KO.pv (PV.move rfl) rfl rfl ?_
    refine KO.pv (PV.gtrD rfl rfl rfl) rfl rfl ?_
    refine KO.pv (PV.pickF rfl rfl rfl) rfl rfl ?_
    refine KO.nil ?_
    refine KC.condD rfl (fun h2 => ?_) (fun h2 => ?_)
    · refine KC.seq ?_
      refine KC.region ?_
      refine KO.pv (PV.assign rfl) rfl rfl ?_
      refine KO.nil ?_
      exact KC.ret ⟨rfl, _, (.tmp rfl .nil), 2, rfl, m0.pick [] (by decide) rfl, (by first | omega | (intro h; omega) | (simp only [List.length_nil, true_and, and_true, or_true, true_or] <;> omega) | (exact fun _ => ⟨by omega, by omega, hpre.mem len_c (by omega), fun i x y hx hy => hin.m i x y (by have := (List.getElem?_eq_some_iff.1 hy).1; omega) hx hy, by have := hin.bound len_c (by omega) (v := 2 * v + 2) (fun u hu => by have := hpre.mem len_c (by omega) u hu; omega) (by omega); omega⟩)), (by first | omega | (intro h; omega) | (simp only [List.length_nil, true_and, and_true, or_true, true_or] <;> omega))⟩
    · refine KC.skip ?_
      refine KC.seq ?_
      refine KC.seq ?_
      refine KC.region ?_
      refine KO.pv (PV.move rfl) rfl rfl ?_
      refine KO.pv (PV.len un24_B1 rfl) rfl rfl ?_
      refine KO.pv (PV.move rfl) rfl rfl ?_
      refine KO.nil ?_
      refine KC.block ?_
      refine KC.sub (l' := [(0, .int .i64 v), (1, .slice a_c n_c c_c), (13, .slice a_c n_c c_c), (14, .int .i64 (n_c : Int)), (15, .int .i64 0)]) (.cons rfl (.cons rfl (.cons rfl (.cons rfl (.cons rfl .nil))))) ?_
      refine KC.loopN (fun kq lq A => ∃ (x15 : Int), kq = ((n_c : Int) - x15).toNat ∧ lq = [(0, .int .i64 v), (1, .slice a_c n_c c_c), (13, .slice a_c n_c c_c), (14, .int .i64 (n_c : Int)), (15, .int .i64 x15)] ∧ Mem [] H A [] ∧ (0 ≤ x15 ∧ x15 ≤ (n_c : Int)) ∧ (Ahead c x15 fun _ u => 2 ≤ u ∧ u / 2 ≤ v) ∧ (Incr 2 c x15)) ?_ (((n_c : Int) - 0).toNat) ⟨0, rfl, rfl, (m0.pick [] (by decide) rfl), (by first | omega | assumption | (constructor <;> omega)), Ahead.zero, Incr.zero⟩
      rintro kq lq A3 ⟨x15, rfl, rfl, m4, hr4, hpre, hin⟩
      refine KC.seq ?_
      refine KC.region ?_
      refine KO.pv (PV.lssD rfl rfl rfl) rfl rfl ?_
      refine KO.nil ?_
      refine KC.seq ?_
      refine KC.condD rfl (fun h5 => ?_) (fun h5 => ?_)
      · refine KC.skip ?_
        refine KC.seq ?_
        refine KC.block ?_
        refine KC.seq ?_
        refine KC.region ?_
        refine KO.pv (PV.move rfl) rfl rfl ?_
        obtain ⟨b6, o6, p6, r6, e6, ha6, hb6, hr6, hx6, hw6, hc6, ht6⟩ := V.at_ h_c (z := x15) (by omega) (by omega)
        have hc6_0 : r6.cs[o6 + (x15).toNat * 1 + 0]? = some (.int .i64 e6) := hc6 0 (by decide)
        have hw6 : IntKind.i64.wrap e6 = e6 := hw6
        obtain ⟨lo6, hi6⟩ := rangei64 hw6
        refine KO.pv (PV.indexAddrZ un24_B1 sz3_B1 rfl ha6 rfl (by omega) (by omega)) rfl rfl ?_
        refine KO.load1 ag3_B1 rfl (m4.row0 hb6 hr6) hc6_0 rfl rfl ?_
        refine KO.pv (PV.assign rfl) rfl rfl ?_
        refine KO.pv (PV.assign rfl) rfl rfl ?_
        refine KO.nil ?_
        refine KC.seq ?_
        refine KC.region ?_
        refine KO.pv (PV.move rfl) rfl rfl ?_
        refine KO.pv (PV.move rfl) rfl rfl ?_
        refine KO.call rfl rfl rfl rfl (cl_known A3 v e6 (wrap64 (by omega) (by omega)) (wrap64 (by omega) (by omega))) fun v7 H7 q7 => ?_
        obtain ⟨o7, hv7, mc7, p7_0, p7_1⟩ := q7
        dsimp only at hv7 mc7
        subst hv7
        have m8 := m4.seq mc7
        rcases Bool.eq_false_or_eq_true o7 with h9 | h9
        · subst h9
          have p7_0t := p7_0 rfl
          refine KO.pv (PV.notB rfl rfl) rfl rfl ?_
          refine KO.pv (PV.move rfl) rfl rfl ?_
          refine KO.pv (PV.move rfl) rfl rfl ?_
          by_cases h10 : 0 < x15
          · refine KO.pv (PV.gtrD rfl rfl (decide_eq_true h10)) rfl rfl ?_
            refine KO.pv (PV.move rfl) rfl rfl ?_
            refine KO.pv (PV.move rfl) rfl rfl ?_
            refine KO.pv (PV.move rfl) rfl rfl ?_
            refine KO.pv (PV.move rfl) rfl rfl ?_
            refine KO.pv (PV.sub rfl rfl (wrap64 (by omega) (by omega))) rfl rfl ?_
            obtain ⟨b11, o11, p11, r11, e11, ha11, hb11, hr11, hx11, hw11, hc11, ht11⟩ := V.at_ h_c (z := (x15 - 1)) (by omega) (by omega)
            have hc11_0 : r11.cs[o11 + ((x15 - 1)).toNat * 1 + 0]? = some (.int .i64 e11) := hc11 0 (by decide)
            have hw11 : IntKind.i64.wrap e11 = e11 := hw11
            obtain ⟨lo11, hi11⟩ := rangei64 hw11
            refine KO.pv (PV.indexAddrZ un24_B1 sz3_B1 rfl ha11 rfl (by omega) (by omega)) rfl rfl ?_
            refine KO.load1 ag3_B1 rfl (m8.row0 hb11 hr11) hc11_0 rfl rfl ?_
            by_cases h12 : e6 ≤ e11
            · refine KO.pv (PV.leqD rfl rfl (decide_eq_true h12)) rfl rfl ?_
              refine KO.pv (PV.move rfl) rfl rfl ?_
              refine KO.no rfl rfl rfl ?_
              refine KO.no rfl rfl rfl ?_
              refine KO.no rfl rfl rfl ?_
              refine KO.no rfl rfl rfl ?_
              refine KO.no rfl rfl rfl ?_
              refine KO.no rfl rfl rfl ?_
              refine KO.no rfl rfl rfl ?_
              refine KO.no rfl rfl rfl ?_
              refine KO.no rfl rfl rfl ?_
              refine KO.pv (PV.pickT rfl rfl rfl) rfl rfl ?_
              refine KO.pv (PV.pickT rfl rfl rfl) rfl rfl ?_
              refine KO.pv (PV.pickF rfl rfl rfl) rfl rfl ?_
              refine KO.nil ?_
              refine KC.condT rfl ?_
              refine KC.seq ?_
              refine KC.region ?_
              refine KO.pv (PV.assign rfl) rfl rfl ?_
              refine KO.nil ?_
              exact KC.ret ⟨rfl, _, (.tmp rfl .nil), 8, rfl, m8.pick [] (by decide) rfl, (by first | omega | (intro h; omega) | (simp only [List.length_nil, true_and, and_true, or_true, true_or] <;> omega) | (exact fun _ => ⟨by omega, by omega, hpre.mem len_c (by omega), fun i x y hx hy => hin.m i x y (by have := (List.getElem?_eq_some_iff.1 hy).1; omega) hx hy, by have := hin.bound len_c (by omega) (v := 2 * v + 2) (fun u hu => by have := hpre.mem len_c (by omega) u hu; omega) (by omega); omega⟩)), (by first | omega | (intro h; omega) | (simp only [List.length_nil, true_and, and_true, or_true, true_or] <;> omega))⟩
            · refine KO.pv (PV.leqD rfl rfl (decide_eq_false h12)) rfl rfl ?_
              refine KO.pv (PV.move rfl) rfl rfl ?_
              refine KO.pv (PV.move rfl) rfl rfl ?_
              refine KO.pv (PV.quo rfl rfl (by omega) (quoN (by omega) (by omega))) rfl rfl ?_
              refine KO.pv (PV.move rfl) rfl rfl ?_
              refine KO.pv (PV.move rfl) rfl rfl ?_
              refine KO.pv (PV.sub rfl rfl (wrap64 (by omega) (by omega))) rfl rfl ?_
              obtain ⟨b13, o13, p13, r13, e13, ha13, hb13, hr13, hx13, hw13, hc13, ht13⟩ := V.at_ h_c (z := (x15 - 1)) (by omega) (by omega)
              have hc13_0 : r13.cs[o13 + ((x15 - 1)).toNat * 1 + 0]? = some (.int .i64 e13) := hc13 0 (by decide)
              have hw13 : IntKind.i64.wrap e13 = e13 := hw13
              obtain ⟨lo13, hi13⟩ := rangei64 hw13
              have hq13 : e13 = e11 := Option.some.inj (hx13.symm.trans hx11)
              refine KO.pv (PV.indexAddrZ un24_B1 sz3_B1 rfl ha13 rfl (by omega) (by omega)) rfl rfl ?_
              refine KO.load1 ag3_B1 rfl (m8.row0 hb13 hr13) hc13_0 rfl rfl ?_
              have hg := hpre _ _ hx13 (by omega)
              refine KO.pv (PV.quo rfl rfl (by omega) (quoN (by omega) (by omega))) rfl rfl ?_
              refine KO.pv (PV.eqlD rfl rfl rfl) rfl rfl ?_
              refine KO.pv (PV.pickF rfl rfl rfl) rfl rfl ?_
              refine KO.pv (PV.pickT rfl rfl rfl) rfl rfl ?_
              refine KO.pv (PV.pickF rfl rfl rfl) rfl rfl ?_
              refine KO.nil ?_
              refine KC.condD rfl (fun h14 => ?_) (fun h14 => ?_)
              · refine KC.seq ?_
                refine KC.region ?_
                refine KO.pv (PV.assign rfl) rfl rfl ?_
                refine KO.nil ?_
                exact KC.ret ⟨rfl, _, (.tmp rfl .nil), 8, rfl, m8.pick [] (by decide) rfl, (by first | omega | (intro h; omega) | (simp only [List.length_nil, true_and, and_true, or_true, true_or] <;> omega) | (exact fun _ => ⟨by omega, by omega, hpre.mem len_c (by omega), fun i x y hx hy => hin.m i x y (by have := (List.getElem?_eq_some_iff.1 hy).1; omega) hx hy, by have := hin.bound len_c (by omega) (v := 2 * v + 2) (fun u hu => by have := hpre.mem len_c (by omega) u hu; omega) (by omega); omega⟩)), (by first | omega | (intro h; omega) | (simp only [List.length_nil, true_and, and_true, or_true, true_or] <;> omega))⟩
              · refine KC.skip ?_
                refine KC.region ?_
                refine KO.pv (PV.add rfl rfl (wrap64 (by omega) (by omega))) rfl rfl ?_
                refine KO.pv (PV.move rfl) rfl rfl ?_
                refine KO.nil ?_
                exact ⟨_, _, (by omega), (.cons rfl (.cons rfl (.cons rfl (.cons rfl (.cons rfl .nil))))), (x15 + 1), rfl, rfl, (m8.pick [] (by decide) rfl), (by first | omega | assumption | (constructor <;> omega)), (hpre.step (by assumption) (by omega) (by first | assumption | (constructor <;> omega))), (hin.step (by omega) (by assumption) (by omega) (fun hp => by first | (exfalso; omega) | exact ⟨_, by assumption, by omega⟩))⟩
          · refine KO.pv (PV.gtrD rfl rfl (decide_eq_false h10)) rfl rfl ?_
            refine KO.pv (PV.move rfl) rfl rfl ?_
            refine KO.no rfl rfl rfl ?_
            refine KO.no rfl rfl rfl ?_
            refine KO.no rfl rfl rfl ?_
            refine KO.no rfl rfl rfl ?_
            refine KO.no rfl rfl rfl ?_
            refine KO.no rfl rfl rfl ?_
            refine KO.no rfl rfl rfl ?_
            refine KO.no rfl rfl rfl ?_
            refine KO.no rfl rfl rfl ?_
            refine KO.no rfl rfl rfl ?_
            refine KO.no rfl rfl rfl ?_
            refine KO.no rfl rfl rfl ?_
            refine KO.no rfl rfl rfl ?_
            refine KO.no rfl rfl rfl ?_
            refine KO.no rfl rfl rfl ?_
            refine KO.no rfl rfl rfl ?_
            refine KO.no rfl rfl rfl ?_
            refine KO.no rfl rfl rfl ?_
            refine KO.pv (PV.pickF rfl rfl rfl) rfl rfl ?_
            refine KO.pv (PV.pickF rfl rfl rfl) rfl rfl ?_
            refine KO.nil ?_
            refine KC.condF rfl ?_
            refine KC.skip ?_
            refine KC.region ?_
            refine KO.pv (PV.add rfl rfl (wrap64 (by omega) (by omega))) rfl rfl ?_
            refine KO.pv (PV.move rfl) rfl rfl ?_
            refine KO.nil ?_
            exact ⟨_, _, (by omega), (.cons rfl (.cons rfl (.cons rfl (.cons rfl (.cons rfl .nil))))), (x15 + 1), rfl, rfl, (m8.pick [] (by decide) rfl), (by first | omega | assumption | (constructor <;> omega)), (hpre.step (by assumption) (by omega) (by first | assumption | (constructor <;> omega))), (hin.step (by omega) (by assumption) (by omega) (fun hp => by first | (exfalso; omega) | exact ⟨_, by assumption, by omega⟩))⟩
        · subst h9
          have p7_1t := p7_1 rfl
          refine KO.pv (PV.notB rfl rfl) rfl rfl ?_
          refine KO.pv (PV.move rfl) rfl rfl ?_
          refine KO.no rfl rfl rfl ?_
          refine KO.no rfl rfl rfl ?_
          refine KO.no rfl rfl rfl ?_
          refine KO.no rfl rfl rfl ?_
          refine KO.no rfl rfl rfl ?_
          refine KO.no rfl rfl rfl ?_
          refine KO.no rfl rfl rfl ?_
          refine KO.no rfl rfl rfl ?_
          refine KO.no rfl rfl rfl ?_
          refine KO.no rfl rfl rfl ?_
          refine KO.no rfl rfl rfl ?_
          refine KO.no rfl rfl rfl ?_
          refine KO.no rfl rfl rfl ?_
          refine KO.no rfl rfl rfl ?_
          refine KO.no rfl rfl rfl ?_
          refine KO.no rfl rfl rfl ?_
          refine KO.no rfl rfl rfl ?_
          refine KO.no rfl rfl rfl ?_
          refine KO.no rfl rfl rfl ?_
          refine KO.no rfl rfl rfl ?_
          refine KO.no rfl rfl rfl ?_
          refine KO.no rfl rfl rfl ?_
          refine KO.pv (PV.pickT rfl rfl rfl) rfl rfl ?_
          refine KO.nil ?_
          refine KC.condT rfl ?_
          refine KC.seq ?_
          refine KC.region ?_
          refine KO.pv (PV.assign rfl) rfl rfl ?_
          refine KO.nil ?_
          exact KC.ret ⟨rfl, _, (.tmp rfl .nil), 8, rfl, m8.pick [] (by decide) rfl, (by first | omega | (intro h; omega) | (simp only [List.length_nil, true_and, and_true, or_true, true_or] <;> omega) | (exact fun _ => ⟨by omega, by omega, hpre.mem len_c (by omega), fun i x y hx hy => hin.m i x y (by have := (List.getElem?_eq_some_iff.1 hy).1; omega) hx hy, by have := hin.bound len_c (by omega) (v := 2 * v + 2) (fun u hu => by have := hpre.mem len_c (by omega) u hu; omega) (by omega); omega⟩)), (by first | omega | (intro h; omega) | (simp only [List.length_nil, true_and, and_true, or_true, true_or] <;> omega))⟩
      · refine KC.exit ?_
        refine KC.seq ?_
        refine KC.region ?_
        refine KO.pv (PV.assign rfl) rfl rfl ?_
        refine KO.nil ?_
        exact KC.ret ⟨rfl, _, (.tmp rfl .nil), 0, rfl, m4.pick [] (by decide) rfl, (by first | omega | (intro h; omega) | (simp only [List.length_nil, true_and, and_true, or_true, true_or] <;> omega) | (exact fun _ => ⟨by omega, by omega, hpre.mem len_c (by omega), fun i x y hx hy => hin.m i x y (by have := (List.getElem?_eq_some_iff.1 hy).1; omega) hx hy, by have := hin.bound len_c (by omega) (v := 2 * v + 2) (fun u hu => by have := hpre.mem len_c (by omega) u hu; omega) (by omega); omega⟩)), (by first | omega | (intro h; omega) | (simp only [List.length_nil, true_and, and_true, or_true, true_or] <;> omega))⟩
end Go.Eng
