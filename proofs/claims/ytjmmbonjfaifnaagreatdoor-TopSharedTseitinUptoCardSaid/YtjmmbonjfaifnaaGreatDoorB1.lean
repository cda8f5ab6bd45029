/- Functions of the program and of the library keep their contracts. Conditions: none beyond each theorem's own. -/
import Derived.Test.YtjmmbonjfaifnaaGreatDoorF
import Derived.KernelRfl
set_option linter.all false
namespace Go.Eng
open Go Go.Proofs
theorem ag4_B1 : isAggT E0.P 4 = some false := by kernel_rfl
theorem ag3_B1 : isAggT E0.P 3 = some false := by kernel_rfl
theorem sz3_B1 : sizeT E0.P 3 = some 1 := by kernel_rfl
theorem ag22_B1 : isAggT E0.P 22 = some false := by kernel_rfl
theorem el22_B1 : elemT E0.P 22 = some 3 := by kernel_rfl
theorem ez3_B1 : elemZ E0.P 3 = some (1, [.int .i64 0]) := by kernel_rfl
theorem sb3_B1 : smallBytes E0.P 3 = true := by kernel_rfl
theorem un22_B1 : E0.P.underlying 22 = some (.slice 3) := by kernel_rfl
theorem sz22_B1 : sizeT E0.P 22 = some 1 := by kernel_rfl
theorem sz4_B1 : sizeT E0.P 4 = some 1 := by kernel_rfl
theorem fo24_0_B1 : foff E0.P 24 0 = some 0 := by kernel_rfl
theorem el46_B1 : elemT E0.P 46 = some 4 := by kernel_rfl
theorem ez4_B1 : elemZ E0.P 4 = some (1, [.bool false]) := by kernel_rfl
theorem sb4_B1 : smallBytes E0.P 4 = true := by kernel_rfl
theorem fo24_1_B1 : foff E0.P 24 1 = some 1 := by kernel_rfl
theorem un46_B1 : E0.P.underlying 46 = some (.slice 4) := by kernel_rfl
theorem fo24_2_B1 : foff E0.P 24 2 = some 2 := by kernel_rfl
theorem el129_B1 : elemT E0.P 129 = some 5 := by kernel_rfl
theorem ez5_B1 : elemZ E0.P 5 = some (1, [.int .u8 0]) := by kernel_rfl
theorem sb5_B1 : smallBytes E0.P 5 = true := by kernel_rfl
theorem un129_B1 : E0.P.underlying 129 = some (.slice 5) := by kernel_rfl
theorem sz5_B1 : sizeT E0.P 5 = some 1 := by kernel_rfl
theorem ag5_B1 : isAggT E0.P 5 = some false := by kernel_rfl
theorem un25_B1 : E0.P.underlying 25 = some (.slice 22) := by kernel_rfl
theorem ag24_B1 : isAggT E0.P 24 = some true := by kernel_rfl
theorem sz24_B1 : sizeT E0.P 24 = some 3 := by kernel_rfl
theorem zt24_B1 : zeroT E0.P 24 = some [.int .i64 0, .slice none 0 0, .slice none 0 0] := by kernel_rfl
theorem bl24__B1  : buildA E0.P 24 [] = some (.agg #[.int .i64 0, .slice none 0 0, .slice none 0 0]) := by kernel_rfl
theorem bl24_0i64_1s_2s_B1 (v0 : Int) (v1a : Option Addr) (v1n v1c : Nat) (v2a : Option Addr) (v2n v2c : Nat) : buildA E0.P 24 [(0, .int .i64 v0), (1, .slice v1a v1n v1c), (2, .slice v2a v2n v2c)] = some (.agg #[.int .i64 v0, .slice v1a v1n v1c, .slice v2a v2n v2c]) := by kernel_rfl
theorem sort_empty (a : Option Addr) (H : AHeap) : callA Eb 60 82 [.slice a 0 0] H = some (.tuple #[], H) := by kernel_rfl
theorem Sort_int (H : AHeap) (a_s : Option Addr) (n_s : Nat) (s : List Int) (D_s : List Nat) (h_s : (R.lst 3 1 a_s n_s (cells (EI .i64) s) D_s).ok H) (lt_s : ∀ j ∈ D_s, j < H.next) (wf_s : ∀ u ∈ s, (EI .i64).wf u) (hm : n_s ≤ 1000000000) : WF E0 82 [.slice a_s n_s n_s] H fun q => ∃ (ys : List Int), q.1 = .tuple #[] ∧ Mem D_s H q.2 [R.lst 3 1 a_s n_s (cells (EI .i64) ys) D_s] ∧ (ys.length = n_s) ∧ (∀ u, u ∈ ys ↔ u ∈ s) ∧ (ys.Pairwise (· ≤ ·)) ∧ (∀ u ∈ ys, (EI .i64).wf u) := by
  have m0 : Mem D_s H H [R.lst 3 1 a_s n_s (cells (EI .i64) s) D_s] := Mem.startR (r := R.lst 3 1 a_s n_s (cells (EI .i64) s) D_s) h_s (Gr.nd h_s) lt_s
  have hl : s.length = n_s := m0.lstLen (E := EI .i64) (i := 0) rfl
  have hfin : (mergeI s).length = n_s ∧ (∀ u, u ∈ mergeI s ↔ u ∈ s) ∧ (mergeI s).Pairwise (· ≤ ·) ∧ ∀ u ∈ mergeI s, (EI .i64).wf u := ⟨by rw [mergeI_length, hl], mergeI_mem s, mergeI_sorted s, fun u hu => wf_s u ((mergeI_mem s u).1 hu)⟩
  rcases Nat.eq_zero_or_pos n_s with h0 | h0
  · subst h0
    obtain rfl := List.length_eq_zero_iff.1 hl
    obtain ⟨r, hr, hq⟩ := evalA_of (E := Eb) (f := 82) (args := [.slice a_s 0 0]) (H := H) (Q := fun q => q = (.tuple #[], H)) ⟨60, _, sort_empty a_s H, rfl⟩
    subst hq
    exact WF.told (s := sortS Eb 82 mergeI) rfl (by simp only [sortS, if_pos]; exact hr) ⟨[], rfl, m0, rfl, fun u => Iff.rfl, .nil, fun u h => absurd h List.not_mem_nil⟩
  · exact (WF.sorts (g := mergeI) rfl mergeI_length h_s lt_s h0 hm).mono fun q hq => ⟨_, hq.1, hq.2, hfin⟩
theorem Clone_int (H : AHeap) (a_s : Option Addr) (n_s c_s : Nat) (s : List Int) (h_s : V (EI .i64) H a_s n_s c_s s) (hm : n_s ≤ 330000000) : WF E0 75 [.slice a_s n_s c_s] H fun q => ∃ (a : Option Addr) (n : Nat) (xs : List Int) (D : List Nat), q.1 = .slice a n n ∧ Mem [] H q.2 [R.lst 3 1 a n (cells (EI .i64) xs) D] ∧ (xs = s) ∧ (n = n_s) ∧ (xs.length = n) ∧ (∀ u ∈ xs, (EI .i64).wf u) := by
  obtain ⟨len_s, cap_s, max_s, wf_s⟩ := h_s.len
  have m0 : Mem [] H H [] := Mem.start
  refine WF.kg Tryz.func75 rfl rfl ?_
  refine KC.seq ?_
  refine KC.region ?_
  refine KO.pv (PV.assign rfl) rfl rfl ?_
  refine KO.nil ?_
  refine KC.seq ?_
  refine KC.seq ?_
  refine KC.region ?_
  refine KO.pv (PV.move rfl) rfl rfl ?_
  obtain ⟨b1, qb1⟩ : ∃ b : Bool, isNone a_s = b := ⟨_, rfl⟩
  refine KO.pv (PV.eqNilB un22_B1 rfl qb1) rfl rfl ?_
  refine KO.nil ?_
  refine KC.cond rfl (fun h2 => ?_) (fun h2 => ?_)
  · subst h2
    obtain rfl := h_s.nil0 (by assumption)
    obtain rfl := List.length_eq_zero_iff.1 len_s
    refine KC.seq ?_
    refine KC.region ?_
    refine KO.pv (PV.assign rfl) rfl rfl ?_
    refine KO.nil ?_
    have m3 := m0.lnilC (EI .i64) (e := 3) none rfl
    exact KC.ret ⟨rfl, _, (.tmp rfl .nil), none, 0, [], [], rfl, m3.pick [0] (by decide) rfl, (by first | omega | (intro h; omega) | (simp only [List.length_nil, true_and, and_true, or_true, true_or] <;> omega) | rfl | (simp only [List.nil_append])), (by first | omega | (intro h; omega) | (simp only [List.length_nil, true_and, and_true, or_true, true_or] <;> omega)), (by first | omega | (intro h; omega) | (simp only [List.length_nil, true_and, and_true, or_true, true_or] <;> omega) | rfl | assumption), (by first | omega | (intro h; omega) | (simp only [List.length_nil, true_and, and_true, or_true, true_or] <;> omega) | exact wf_s | exact all_nil)⟩
  · subst h2
    refine KC.skip ?_
    refine KC.seq ?_
    refine KC.region ?_
    refine KO.buildSliceM m0 el22_B1 ez3_B1 rfl rfl (show _ = some [] from rfl) rfl rfl fun H4 m5 => ?_
    refine KO.pv (PV.move rfl) rfl rfl ?_
    have m6 := m5.lnilC (EI .i64) (e := 3) (some ⟨H.next, 0, none⟩) rfl
    refine KO.appendC0 (C := (EI .i64)) m6 (i := 0) rfl el22_B1 ez3_B1 sb3_B1 un22_B1 rfl rfl (V.new (V.mem m6 h_s)) (by first | omega | (simp only [splice, List.length_append, List.length_set, List.length_replicate, List.length_map, List.length_take, List.length_drop, List.length_cons, List.length_nil] <;> omega)) (by first | omega | (simp only [splice, List.length_append, List.length_set, List.length_replicate, List.length_map, List.length_take, List.length_drop, List.length_cons, List.length_nil] <;> omega)) rfl rfl fun a8 D9 H7 m10 => ?_
    refine KO.pv (PV.assign rfl) rfl rfl ?_
    refine KO.nil ?_
    exact KC.ret ⟨rfl, _, (.tmp rfl .nil), a8, n_s, s, D9, rfl, m10.pick [0] (by decide) rfl, (by first | omega | (intro h; omega) | (simp only [List.length_nil, true_and, and_true, or_true, true_or] <;> omega) | rfl | (simp only [List.nil_append])), (by first | omega | (intro h; omega) | (simp only [List.length_nil, true_and, and_true, or_true, true_or] <;> omega)), (by first | omega | (intro h; omega) | (simp only [List.length_nil, true_and, and_true, or_true, true_or] <;> omega) | rfl | assumption), (by first | omega | (intro h; omega) | (simp only [List.length_nil, true_and, and_true, or_true, true_or] <;> omega) | exact wf_s | exact all_nil)⟩
theorem Index_int (H : AHeap) (a_s : Option Addr) (n_s c_s : Nat) (s : List Int) (v : Int) (h_s : V (EI .i64) H a_s n_s c_s s) (w_v : IntKind.i64.wrap v = v) : WF E0 93 [.slice a_s n_s c_s, .int .i64 v] H fun q => ∃ (z : Int), q.1 = .int .i64 z ∧ Mem [] H q.2 [] ∧ (-1 ≤ z ∧ z < n_s) ∧ (0 ≤ z → s[z.toNat]? = some v) ∧ (z < 0 → v ∉ s) := by
  obtain ⟨len_s, cap_s, max_s, wf_s⟩ := h_s.len
  obtain ⟨lo_v, hi_v⟩ := rangei64 w_v
  have m0 : Mem [] H H [] := Mem.start
  refine WF.kg Tryz.func93 rfl rfl ?_
  refine KC.seq ?_
  refine KC.region ?_
  refine KO.pv (PV.assign rfl) rfl rfl ?_
  refine KO.nil ?_
  refine KC.seq ?_
  refine KC.seq ?_
  refine KC.region ?_
  refine KO.pv (PV.move rfl) rfl rfl ?_
  refine KO.pv (PV.len un22_B1 rfl) rfl rfl ?_
  refine KO.pv (PV.move rfl) rfl rfl ?_
  refine KO.nil ?_
  refine KC.block ?_
  refine KC.sub (l' := [(0, .slice a_s n_s c_s), (1, .int .i64 v), (7, .int .i64 (n_s : Int)), (8, .int .i64 0)]) (.cons rfl (.cons rfl (.cons rfl (.cons rfl .nil)))) ?_
  refine KC.loopN (fun kq lq A => ∃ (x8 : Int), kq = ((n_s : Int) - x8).toNat ∧ lq = [(0, .slice a_s n_s c_s), (1, .int .i64 v), (7, .int .i64 (n_s : Int)), (8, .int .i64 x8)] ∧ Mem [] H A [] ∧ (0 ≤ x8 ∧ x8 ≤ (n_s : Int)) ∧ (Ahead s x8 fun _ u => u ≠ v)) ?_ (((n_s : Int) - 0).toNat) ⟨0, rfl, rfl, (m0.pick [] (by decide) rfl), (by first | omega | assumption | (constructor <;> omega)), Ahead.zero⟩
  rintro kq lq A1 ⟨x8, rfl, rfl, m2, hr2, hpre⟩
  refine KC.seq ?_
  refine KC.region ?_
  refine KO.pv (PV.lssD rfl rfl rfl) rfl rfl ?_
  refine KO.nil ?_
  refine KC.seq ?_
  refine KC.condD rfl (fun h3 => ?_) (fun h3 => ?_)
  · refine KC.skip ?_
    refine KC.seq ?_
    refine KC.block ?_
    refine KC.seq ?_
    refine KC.region ?_
    refine KO.pv (PV.move rfl) rfl rfl ?_
    refine KO.pv (PV.assign rfl) rfl rfl ?_
    refine KO.nil ?_
    refine KC.seq ?_
    refine KC.region ?_
    refine KO.pv (PV.move rfl) rfl rfl ?_
    refine KO.pv (PV.move rfl) rfl rfl ?_
    refine KO.pv (PV.move rfl) rfl rfl ?_
    obtain ⟨b4, o4, p4, r4, e4, ha4, hb4, hr4, hx4, hw4, hc4, ht4⟩ := V.at_ h_s (z := x8) (by omega) (by omega)
    have hc4_0 : r4.cs[o4 + (x8).toNat * 1 + 0]? = some (.int .i64 e4) := hc4 0 (by decide)
    have hw4 : IntKind.i64.wrap e4 = e4 := hw4
    obtain ⟨lo4, hi4⟩ := rangei64 hw4
    refine KO.pv (PV.indexAddrZ un22_B1 sz3_B1 rfl ha4 rfl (by omega) (by omega)) rfl rfl ?_
    refine KO.load1 ag3_B1 rfl (m2.row0 hb4 hr4) hc4_0 rfl rfl ?_
    refine KO.pv (PV.eqlD rfl rfl rfl) rfl rfl ?_
    refine KO.nil ?_
    refine KC.condD rfl (fun h5 => ?_) (fun h5 => ?_)
    · refine KC.seq ?_
      refine KC.region ?_
      refine KO.pv (PV.move rfl) rfl rfl ?_
      refine KO.pv (PV.assign rfl) rfl rfl ?_
      refine KO.nil ?_
      exact KC.ret ⟨rfl, _, (.tmp rfl .nil), x8, rfl, m2.pick [] (by decide) rfl, (by first | omega | (intro h; omega) | (simp only [List.length_nil, true_and, and_true, or_true, true_or] <;> omega)), (by first | omega | (intro h; omega) | (simp only [List.length_nil, true_and, and_true, or_true, true_or] <;> omega) | (exact fun _ => by subst_vars; assumption) | (exact fun h => by omega)), (by first | omega | (intro h; omega) | (simp only [List.length_nil, true_and, and_true, or_true, true_or] <;> omega) | (exact fun h => by omega) | (exact fun _ hm => hpre.mem len_s (by omega) v hm rfl))⟩
    · refine KC.skip ?_
      refine KC.region ?_
      refine KO.pv (PV.add rfl rfl (wrap64 (by omega) (by omega))) rfl rfl ?_
      refine KO.pv (PV.move rfl) rfl rfl ?_
      refine KO.nil ?_
      exact ⟨_, _, (by omega), (.cons rfl (.cons rfl (.cons rfl (.cons rfl .nil)))), (x8 + 1), rfl, rfl, (m2.pick [] (by decide) rfl), (by first | omega | assumption | (constructor <;> omega)), (hpre.step (by assumption) (by omega) (by first | omega | (intro hh; simp_all)))⟩
  · refine KC.exit ?_
    refine KC.seq ?_
    refine KC.region ?_
    refine KO.pv (PV.assign rfl) rfl rfl ?_
    refine KO.nil ?_
    exact KC.ret ⟨rfl, _, (.tmp rfl .nil), (-1), rfl, m2.pick [] (by decide) rfl, (by first | omega | (intro h; omega) | (simp only [List.length_nil, true_and, and_true, or_true, true_or] <;> omega)), (by first | omega | (intro h; omega) | (simp only [List.length_nil, true_and, and_true, or_true, true_or] <;> omega) | (exact fun _ => by subst_vars; assumption) | (exact fun h => by omega)), (by first | omega | (intro h; omega) | (simp only [List.length_nil, true_and, and_true, or_true, true_or] <;> omega) | (exact fun h => by omega) | (exact fun _ hm => hpre.mem len_s (by omega) v hm rfl))⟩
theorem Contains_int (H : AHeap) (a_s : Option Addr) (n_s c_s : Nat) (s : List Int) (v : Int) (h_s : V (EI .i64) H a_s n_s c_s s) (w_v : IntKind.i64.wrap v = v) : WF E0 87 [.slice a_s n_s c_s, .int .i64 v] H fun q => ∃ (o : Bool), q.1 = .bool o ∧ Mem [] H q.2 [] ∧ (o = true → v ∈ s) ∧ (o = false → v ∉ s) := by
  obtain ⟨len_s, cap_s, max_s, wf_s⟩ := h_s.len
  obtain ⟨lo_v, hi_v⟩ := rangei64 w_v
  have m0 : Mem [] H H [] := Mem.start
  refine WF.kg Tryz.func87 rfl rfl ?_
  refine KC.seq ?_
  refine KC.region ?_
  refine KO.pv (PV.assign rfl) rfl rfl ?_
  refine KO.nil ?_
  refine KC.seq ?_
  refine KC.region ?_
  refine KO.pv (PV.move rfl) rfl rfl ?_
  refine KO.pv (PV.move rfl) rfl rfl ?_
  refine KO.call rfl rfl rfl rfl (Index_int H a_s n_s c_s _ v (V.mem m0 h_s) (wrap64 (by omega) (by omega))) fun v1 H1 q1 => ?_
  obtain ⟨z1, hv1, mc1, p1_0, p1_1, p1_2⟩ := q1
  dsimp only at hv1 mc1
  subst hv1
  have m2 := m0.seq mc1
  refine KO.pv (PV.geqD rfl rfl rfl) rfl rfl ?_
  refine KO.pv (PV.assign rfl) rfl rfl ?_
  refine KO.nil ?_
  exact KC.ret ⟨rfl, _, (.tmp rfl .nil), (decide (0 ≤ z1)), rfl, m2.pick [] (by decide) rfl, (by first | omega | (intro h; omega) | (simp only [List.length_nil, true_and, and_true, or_true, true_or] <;> omega) | (exact fun h => List.mem_of_getElem? (p1_1 (by have := of_decide_eq_true h; omega)))), (by first | omega | (intro h; omega) | (simp only [List.length_nil, true_and, and_true, or_true, true_or] <;> omega) | (exact fun h => p1_2 (by have := of_decide_eq_false h; omega)))⟩
/-- What a passed check tells of an assignment. -/
structure AsgOK (v : Int) (T S : List Int) : Prop where
  v0 : 0 ≤ v
  v1 : v ≤ 4000
  t : ∀ u ∈ T, 2 ≤ u ∧ u / 2 ≤ v
  td : ∀ (i j : Nat) (x y : Int), i < j → T[i]? = some x → T[j]? = some y → x / 2 ≠ y / 2
  s : ∀ u ∈ S, 0 ≤ u ∧ u < T.length
  n : (T.length : Int) ≤ v + 1
  m : S.length ≤ T.length

theorem asg_known (H : AHeap) (v : Int) (l : Int) (w_v : IntKind.i64.wrap v = v) (w_l : IntKind.i64.wrap l = l) : WF E0 108 [.int .i64 v, .int .i64 l] H fun q => ∃ (o : Bool), q.1 = .bool o ∧ Mem [] H q.2 [] ∧ (o = true → 2 ≤ l ∧ l / 2 ≤ v) ∧ (o = false → ¬ (2 ≤ l ∧ l / 2 ≤ v)) := by
  obtain ⟨lo_v, hi_v⟩ := rangei64 w_v
  obtain ⟨lo_l, hi_l⟩ := rangei64 w_l
  have m0 : Mem [] H H [] := Mem.start
  refine WF.kg Tryz.func108 rfl rfl ?_
  refine KC.seq ?_
  refine KC.region ?_
  refine KO.pv (PV.assign rfl) rfl rfl ?_
  refine KO.nil ?_
  refine KC.seq ?_
  refine KC.region ?_
  refine KO.pv (PV.move rfl) rfl rfl ?_
  by_cases h1 : 2 ≤ l
  · refine KO.pv (PV.geqD rfl rfl (decide_eq_true h1)) rfl rfl ?_
    refine KO.pv (PV.move rfl) rfl rfl ?_
    refine KO.pv (PV.move rfl) rfl rfl ?_
    refine KO.pv (PV.quo rfl rfl (by omega) (quoN (by omega) (by omega))) rfl rfl ?_
    refine KO.pv (PV.move rfl) rfl rfl ?_
    refine KO.pv (PV.leqD rfl rfl rfl) rfl rfl ?_
    refine KO.pv (PV.pickT rfl rfl rfl) rfl rfl ?_
    refine KO.pv (PV.assign rfl) rfl rfl ?_
    refine KO.nil ?_
    exact KC.ret ⟨rfl, _, (.tmp rfl .nil), (decide ((l / 2) ≤ v)), rfl, m0.pick [] (by decide) rfl, (by first | omega | (intro h; omega) | (simp only [List.length_nil, true_and, and_true, or_true, true_or] <;> omega) | (exact fun h => by cases h) | (exact fun h => by have := of_decide_eq_true h; omega)), (by first | omega | (intro h; omega) | (simp only [List.length_nil, true_and, and_true, or_true, true_or] <;> omega) | (exact fun h => by cases h) | (exact fun h => by have := of_decide_eq_false h; omega))⟩
  · refine KO.pv (PV.geqD rfl rfl (decide_eq_false h1)) rfl rfl ?_
    refine KO.pv (PV.move rfl) rfl rfl ?_
    refine KO.no rfl rfl rfl ?_
    refine KO.no rfl rfl rfl ?_
    refine KO.no rfl rfl rfl ?_
    refine KO.no rfl rfl rfl ?_
    refine KO.pv (PV.pickF rfl rfl rfl) rfl rfl ?_
    refine KO.pv (PV.assign rfl) rfl rfl ?_
    refine KO.nil ?_
    exact KC.ret ⟨rfl, _, (.tmp rfl .nil), false, rfl, m0.pick [] (by decide) rfl, (by first | omega | (intro h; omega) | (simp only [List.length_nil, true_and, and_true, or_true, true_or] <;> omega) | (exact fun h => by cases h) | (exact fun h => by have := of_decide_eq_true h; omega)), (by first | omega | (intro h; omega) | (simp only [List.length_nil, true_and, and_true, or_true, true_or] <;> omega) | (exact fun h => by cases h) | (exact fun h => by have := of_decide_eq_false h; omega))⟩
theorem asg_Check (H : AHeap) (av : Int) (a_aT : Option Addr) (n_aT c_aT : Nat) (aT : List Int) (a_aS : Option Addr) (n_aS c_aS : Nat) (aS : List Int) (w_av : IntKind.i64.wrap av = av) (h_aT : V (EI .i64) H a_aT n_aT c_aT aT) (h_aS : V (EI .i64) H a_aS n_aS c_aS aS) : WF E0 72 [.agg #[.int .i64 av, .slice a_aT n_aT c_aT, .slice a_aS n_aS c_aS]] H fun q => ∃ (e : Int), q.1 = .int .i64 e ∧ Mem [] H q.2 [] ∧ (e = 0 → AsgOK av aT aS) ∧ (e = 0 ∨ e = 8) := by
  obtain ⟨lo_av, hi_av⟩ := rangei64 w_av
  obtain ⟨len_aT, cap_aT, max_aT, wf_aT⟩ := h_aT.len
  obtain ⟨len_aS, cap_aS, max_aS, wf_aS⟩ := h_aS.len
  have m0 : Mem [] H H [] := Mem.start
  refine WF.kg Tryz.func72 rfl rfl ?_
  refine KC.seq ?_
  refine KC.region ?_
  refine KO.boxM m0 rfl rfl (show _ = [.int .i64 av, .slice a_aT n_aT c_aT, .slice a_aS n_aS c_aS] from rfl) rfl rfl fun H1 m2 => ?_
  refine KO.pv (PV.assign rfl) rfl rfl ?_
  refine KO.nil ?_
  refine KC.seq ?_
  refine KC.seq ?_
  refine KC.region ?_
  refine KO.pv (PV.fieldAddr fo24_0_B1 rfl) rfl rfl ?_
  refine KO.load1 ag3_B1 rfl (m2.row (i := 0) rfl) rfl rfl rfl ?_
  by_cases h3 : av < 0
  · refine KO.pv (PV.lssD rfl rfl (decide_eq_true h3)) rfl rfl ?_
    refine KO.pv (PV.move rfl) rfl rfl ?_
    refine KO.no rfl rfl rfl ?_
    refine KO.no rfl rfl rfl ?_
    refine KO.no rfl rfl rfl ?_
    refine KO.pv (PV.pickT rfl rfl rfl) rfl rfl ?_
    refine KO.nil ?_
    refine KC.condT rfl ?_
    refine KC.seq ?_
    refine KC.region ?_
    refine KO.pv (PV.assign rfl) rfl rfl ?_
    refine KO.nil ?_
    exact KC.ret ⟨rfl, _, (.tmp rfl .nil), 8, rfl, m2.pick [] (by decide) rfl, (by first | omega | (intro h; omega) | (simp only [List.length_nil, true_and, and_true, or_true, true_or] <;> omega) | (exact fun _ => ⟨by omega, by omega, hpre.mem len_aT (by omega), fun i j x y hij hi hj => hmk.d i j x y hij (by have := (List.getElem?_eq_some_iff.1 hj).1; omega) hi hj, fun u hu => by have := hps.mem len_aS (by omega) u hu; omega, by omega, by have := hin.bound len_aS (by omega) (v := (n_aT : Int)) (fun u hu => by have := hps.mem len_aS (by omega) u hu; omega) (by omega); omega⟩)), (by first | omega | (intro h; omega) | (simp only [List.length_nil, true_and, and_true, or_true, true_or] <;> omega) | (exact .inl rfl) | (exact .inr rfl))⟩
  · refine KO.pv (PV.lssD rfl rfl (decide_eq_false h3)) rfl rfl ?_
    refine KO.pv (PV.move rfl) rfl rfl ?_
    refine KO.pv (PV.fieldAddr fo24_0_B1 rfl) rfl rfl ?_
    refine KO.load1 ag3_B1 rfl (m2.row (i := 0) rfl) rfl rfl rfl ?_
    refine KO.pv (PV.gtrD rfl rfl rfl) rfl rfl ?_
    refine KO.pv (PV.pickF rfl rfl rfl) rfl rfl ?_
    refine KO.nil ?_
    refine KC.condD rfl (fun h4 => ?_) (fun h4 => ?_)
    · refine KC.seq ?_
      refine KC.region ?_
      refine KO.pv (PV.assign rfl) rfl rfl ?_
      refine KO.nil ?_
      exact KC.ret ⟨rfl, _, (.tmp rfl .nil), 8, rfl, m2.pick [] (by decide) rfl, (by first | omega | (intro h; omega) | (simp only [List.length_nil, true_and, and_true, or_true, true_or] <;> omega) | (exact fun _ => ⟨by omega, by omega, hpre.mem len_aT (by omega), fun i j x y hij hi hj => hmk.d i j x y hij (by have := (List.getElem?_eq_some_iff.1 hj).1; omega) hi hj, fun u hu => by have := hps.mem len_aS (by omega) u hu; omega, by omega, by have := hin.bound len_aS (by omega) (v := (n_aT : Int)) (fun u hu => by have := hps.mem len_aS (by omega) u hu; omega) (by omega); omega⟩)), (by first | omega | (intro h; omega) | (simp only [List.length_nil, true_and, and_true, or_true, true_or] <;> omega) | (exact .inl rfl) | (exact .inr rfl))⟩
    · refine KC.skip ?_
      refine KC.seq ?_
      refine KC.region ?_
      refine KO.pv (PV.fieldAddr fo24_0_B1 rfl) rfl rfl ?_
      refine KO.load1 ag3_B1 rfl (m2.row (i := 0) rfl) rfl rfl rfl ?_
      refine KO.pv (PV.add rfl rfl (wrap64 (by omega) (by omega))) rfl rfl ?_
      refine KO.makeSliceM (C := EB) false m2 el46_B1 ez4_B1 sb4_B1 rfl rfl (by omega) (by omega) (by omega) rfl rfl fun H5 m6 => ?_
      refine KO.pv (PV.assign rfl) rfl rfl ?_
      refine KO.nil ?_
      refine KC.seq ?_
      refine KC.seq ?_
      refine KC.region ?_
      refine KO.pv (PV.fieldAddr fo24_1_B1 rfl) rfl rfl ?_
      refine KO.load1 ag22_B1 rfl (m6.row (i := 1) rfl) rfl rfl rfl ?_
      refine KO.pv (PV.len un22_B1 rfl) rfl rfl ?_
      refine KO.pv (PV.move rfl) rfl rfl ?_
      refine KO.nil ?_
      refine KC.block ?_
      refine KC.sub (l' := [(1, .pointer (some ⟨H.next, 0, none⟩)), (3, .slice (some ⟨H1.next, 0, none⟩) (((av + 1)).toNat) (((av + 1)).toNat)), (21, .slice a_aT n_aT c_aT), (22, .int .i64 (n_aT : Int)), (23, .int .i64 0)]) (.cons rfl (.cons rfl (.cons rfl (.cons rfl (.cons rfl .nil))))) ?_
      refine KC.loopN (fun kq lq A => ∃ (x23 : Int) (l3 : List Bool), kq = ((n_aT : Int) - x23).toNat ∧ lq = [(1, .pointer (some ⟨H.next, 0, none⟩)), (3, .slice (some ⟨H1.next, 0, none⟩) (((av + 1)).toNat) (((av + 1)).toNat)), (21, .slice a_aT n_aT c_aT), (22, .int .i64 (n_aT : Int)), (23, .int .i64 x23)] ∧ Mem [] H A [R.row H1.next 4 true (cells EB l3), R.row H.next 24 true [.int .i64 av, .slice a_aT n_aT c_aT, .slice a_aS n_aS c_aS]] ∧ (0 ≤ x23 ∧ x23 ≤ (n_aT : Int)) ∧ (Ahead aT x23 fun _ u => 2 ≤ u ∧ u / 2 ≤ av) ∧ (Marked aT x23 l3) ∧ ((l3.count true : Int) = x23) ∧ (l3.length = ((av + 1)).toNat)) ?_ (((n_aT : Int) - 0).toNat) ⟨0, (List.replicate (((av + 1)).toNat) false), rfl, rfl, (m6.pick [0, 1] (by decide) rfl), (by first | omega | assumption | (constructor <;> omega)), Ahead.zero, Marked.zero, (by simp [List.count_replicate]), (by first | omega | (simp only [splice, List.length_append, List.length_set, List.length_replicate, List.length_map, List.length_take, List.length_drop, List.length_cons, List.length_nil] <;> omega))⟩
      rintro kq lq A7 ⟨x23, l3, rfl, rfl, m8, hr5, hpre, hmk, hct, hl_l3⟩
      refine KC.seq ?_
      refine KC.region ?_
      refine KO.pv (PV.lssD rfl rfl rfl) rfl rfl ?_
      refine KO.nil ?_
      refine KC.seq ?_
      refine KC.condD rfl (fun h9 => ?_) (fun h9 => ?_)
      · refine KC.skip ?_
        refine KC.seq ?_
        refine KC.block ?_
        refine KC.seq ?_
        refine KC.region ?_
        obtain ⟨b10, o10, p10, r10, e10, ha10, hb10, hr10, hx10, hw10, hc10, ht10⟩ := V.at_ h_aT (z := x23) (by omega) (by omega)
        have hc10_0 : r10.cs[o10 + (x23).toNat * 1 + 0]? = some (.int .i64 e10) := hc10 0 (by decide)
        have hw10 : IntKind.i64.wrap e10 = e10 := hw10
        obtain ⟨lo10, hi10⟩ := rangei64 hw10
        refine KO.pv (PV.indexAddrZ un22_B1 sz3_B1 rfl ha10 rfl (by omega) (by omega)) rfl rfl ?_
        refine KO.load1 ag3_B1 rfl (m8.row0 hb10 hr10) hc10_0 rfl rfl ?_
        refine KO.pv (PV.assign rfl) rfl rfl ?_
        refine KO.nil ?_
        refine KC.seq ?_
        refine KC.seq ?_
        refine KC.region ?_
        refine KO.pv (PV.fieldAddr fo24_0_B1 rfl) rfl rfl ?_
        refine KO.load1 ag3_B1 rfl (m8.row (i := 1) rfl) rfl rfl rfl ?_
        refine KO.pv (PV.move rfl) rfl rfl ?_
        refine KO.call rfl rfl rfl rfl (asg_known A7 av e10 (wrap64 (by omega) (by omega)) (wrap64 (by omega) (by omega))) fun v11 H11 q11 => ?_
        obtain ⟨o11, hv11, mc11, p11_0, p11_1⟩ := q11
        dsimp only at hv11 mc11
        subst hv11
        have m12 := m8.seq mc11
        rcases Bool.eq_false_or_eq_true o11 with h13 | h13
        · subst h13
          have p11_0t := p11_0 rfl
          refine KO.pv (PV.notB rfl rfl) rfl rfl ?_
          refine KO.pv (PV.move rfl) rfl rfl ?_
          refine KO.pv (PV.move rfl) rfl rfl ?_
          refine KO.pv (PV.move rfl) rfl rfl ?_
          refine KO.pv (PV.quo rfl rfl (by omega) (quoN (by omega) (by omega))) rfl rfl ?_
          refine KO.pv (PV.indexAddrZ un46_B1 sz4_B1 rfl rfl rfl (by omega) (by omega)) rfl rfl ?_
          obtain ⟨e15, hx15⟩ : ∃ x, (l3)[((e10 / 2)).toNat]? = some x := ⟨_, List.getElem?_eq_getElem (by first | omega | (simp only [splice, List.length_append, List.length_set, List.length_replicate, List.length_map, List.length_take, List.length_drop, List.length_cons, List.length_nil] <;> omega))⟩
          refine KO.load1 ag4_B1 rfl (m12.row (i := 0) rfl) (cells_at1 hx15 rfl) rfl rfl ?_
          refine KO.pv (PV.pickF rfl rfl rfl) rfl rfl ?_
          refine KO.nil ?_
          refine KC.cond rfl (fun h16 => ?_) (fun h16 => ?_)
          · subst h16
            refine KC.seq ?_
            refine KC.region ?_
            refine KO.pv (PV.assign rfl) rfl rfl ?_
            refine KO.nil ?_
            exact KC.ret ⟨rfl, _, (.tmp rfl .nil), 8, rfl, m12.pick [] (by decide) rfl, (by first | omega | (intro h; omega) | (simp only [List.length_nil, true_and, and_true, or_true, true_or] <;> omega) | (exact fun _ => ⟨by omega, by omega, hpre.mem len_aT (by omega), fun i j x y hij hi hj => hmk.d i j x y hij (by have := (List.getElem?_eq_some_iff.1 hj).1; omega) hi hj, fun u hu => by have := hps.mem len_aS (by omega) u hu; omega, by omega, by have := hin.bound len_aS (by omega) (v := (n_aT : Int)) (fun u hu => by have := hps.mem len_aS (by omega) u hu; omega) (by omega); omega⟩)), (by first | omega | (intro h; omega) | (simp only [List.length_nil, true_and, and_true, or_true, true_or] <;> omega) | (exact .inl rfl) | (exact .inr rfl))⟩
          · subst h16
            refine KC.skip ?_
            refine KC.region ?_
            refine KO.pv (PV.move rfl) rfl rfl ?_
            refine KO.pv (PV.move rfl) rfl rfl ?_
            refine KO.pv (PV.quo rfl rfl (by omega) (quoN (by omega) (by omega))) rfl rfl ?_
            refine KO.pv (PV.indexAddrZ un46_B1 sz4_B1 rfl rfl rfl (by omega) (by omega)) rfl rfl ?_
            refine KO.storeM m12 (i := 0) rfl sz4_B1 rfl rfl rfl (cells_room (C := EB) (xs := l3) (i := ((e10 / 2)).toNat) (by first | omega | (simp only [splice, List.length_append, List.length_set, List.length_replicate, List.length_map, List.length_take, List.length_drop, List.length_cons, List.length_nil] <;> omega)) rfl) (cells_put0 (C := EB) (xs := l3) (i := ((e10 / 2)).toNat) true (by first | omega | (simp only [splice, List.length_append, List.length_set, List.length_replicate, List.length_map, List.length_take, List.length_drop, List.length_cons, List.length_nil] <;> omega))) rfl fun H18 m19 => ?_
            refine KO.nil ?_
            refine KC.region ?_
            refine KO.pv (PV.add rfl rfl (wrap64 (by omega) (by omega))) rfl rfl ?_
            refine KO.pv (PV.move rfl) rfl rfl ?_
            refine KO.nil ?_
            exact ⟨_, _, (by omega), (.cons rfl (.cons rfl (.cons rfl (.cons rfl (.cons rfl .nil))))), (x23 + 1), (l3.set (((e10 / 2)).toNat) true), rfl, rfl, (m19.pick [0, 1] (by decide) rfl), (by first | omega | assumption | (constructor <;> omega)), (hpre.step (by assumption) (by omega) (by first | assumption | (constructor <;> omega))), (hmk.step (by omega) (by assumption) (by assumption)), (by rw [count_mark (by assumption)]; omega), (by first | omega | (simp only [splice, List.length_append, List.length_set, List.length_replicate, List.length_map, List.length_take, List.length_drop, List.length_cons, List.length_nil] <;> omega))⟩
        · subst h13
          have p11_1t := p11_1 rfl
          refine KO.pv (PV.notB rfl rfl) rfl rfl ?_
          refine KO.pv (PV.move rfl) rfl rfl ?_
          refine KO.no rfl rfl rfl ?_
          refine KO.no rfl rfl rfl ?_
          refine KO.no rfl rfl rfl ?_
          refine KO.no rfl rfl rfl ?_
          refine KO.no rfl rfl rfl ?_
          refine KO.pv (PV.pickT rfl rfl rfl) rfl rfl ?_
          refine KO.nil ?_
          refine KC.condT rfl ?_
          refine KC.seq ?_
          refine KC.region ?_
          refine KO.pv (PV.assign rfl) rfl rfl ?_
          refine KO.nil ?_
          exact KC.ret ⟨rfl, _, (.tmp rfl .nil), 8, rfl, m12.pick [] (by decide) rfl, (by first | omega | (intro h; omega) | (simp only [List.length_nil, true_and, and_true, or_true, true_or] <;> omega) | (exact fun _ => ⟨by omega, by omega, hpre.mem len_aT (by omega), fun i j x y hij hi hj => hmk.d i j x y hij (by have := (List.getElem?_eq_some_iff.1 hj).1; omega) hi hj, fun u hu => by have := hps.mem len_aS (by omega) u hu; omega, by omega, by have := hin.bound len_aS (by omega) (v := (n_aT : Int)) (fun u hu => by have := hps.mem len_aS (by omega) u hu; omega) (by omega); omega⟩)), (by first | omega | (intro h; omega) | (simp only [List.length_nil, true_and, and_true, or_true, true_or] <;> omega) | (exact .inl rfl) | (exact .inr rfl))⟩
      · refine KC.exit ?_
        have hcl := List.count_le_length (a := true) (l := l3)
        refine KC.seq ?_
        refine KC.seq ?_
        refine KC.region ?_
        refine KO.pv (PV.fieldAddr fo24_2_B1 rfl) rfl rfl ?_
        refine KO.load1 ag22_B1 rfl (m8.row (i := 1) rfl) rfl rfl rfl ?_
        refine KO.pv (PV.len un22_B1 rfl) rfl rfl ?_
        refine KO.pv (PV.move rfl) rfl rfl ?_
        refine KO.nil ?_
        refine KC.block ?_
        refine KC.sub (l' := [(1, .pointer (some ⟨H.next, 0, none⟩)), (45, .slice a_aS n_aS c_aS), (46, .int .i64 (n_aS : Int)), (47, .int .i64 0)]) (.cons rfl (.cons rfl (.cons rfl (.cons rfl .nil)))) ?_
        refine KC.loopN (fun kq lq A => ∃ (x47 : Int), kq = ((n_aS : Int) - x47).toNat ∧ lq = [(1, .pointer (some ⟨H.next, 0, none⟩)), (45, .slice a_aS n_aS c_aS), (46, .int .i64 (n_aS : Int)), (47, .int .i64 x47)] ∧ Mem [] H A [R.row H.next 24 true [.int .i64 av, .slice a_aT n_aT c_aT, .slice a_aS n_aS c_aS]] ∧ (0 ≤ x47 ∧ x47 ≤ (n_aS : Int)) ∧ (Ahead aS x47 fun _ u => 0 ≤ u ∧ u < n_aT) ∧ (Incr 0 aS x47)) ?_ (((n_aS : Int) - 0).toNat) ⟨0, rfl, rfl, (m8.pick [1] (by decide) rfl), (by first | omega | assumption | (constructor <;> omega)), Ahead.zero, Incr.zero⟩
        rintro kq lq A20 ⟨x47, rfl, rfl, m21, hr12, hps, hin⟩
        refine KC.seq ?_
        refine KC.region ?_
        refine KO.pv (PV.lssD rfl rfl rfl) rfl rfl ?_
        refine KO.nil ?_
        refine KC.seq ?_
        refine KC.condD rfl (fun h22 => ?_) (fun h22 => ?_)
        · refine KC.skip ?_
          refine KC.seq ?_
          refine KC.block ?_
          refine KC.seq ?_
          refine KC.region ?_
          refine KO.pv (PV.move rfl) rfl rfl ?_
          obtain ⟨b23, o23, p23, r23, e23, ha23, hb23, hr23, hx23, hw23, hc23, ht23⟩ := V.at_ h_aS (z := x47) (by omega) (by omega)
          have hc23_0 : r23.cs[o23 + (x47).toNat * 1 + 0]? = some (.int .i64 e23) := hc23 0 (by decide)
          have hw23 : IntKind.i64.wrap e23 = e23 := hw23
          obtain ⟨lo23, hi23⟩ := rangei64 hw23
          refine KO.pv (PV.indexAddrZ un22_B1 sz3_B1 rfl ha23 rfl (by omega) (by omega)) rfl rfl ?_
          refine KO.load1 ag3_B1 rfl (m21.row0 hb23 hr23) hc23_0 rfl rfl ?_
          refine KO.pv (PV.assign rfl) rfl rfl ?_
          refine KO.pv (PV.assign rfl) rfl rfl ?_
          refine KO.nil ?_
          refine KC.seq ?_
          refine KC.region ?_
          refine KO.pv (PV.move rfl) rfl rfl ?_
          by_cases h24 : e23 < 0
          · refine KO.pv (PV.lssD rfl rfl (decide_eq_true h24)) rfl rfl ?_
            refine KO.pv (PV.move rfl) rfl rfl ?_
            refine KO.no rfl rfl rfl ?_
            refine KO.no rfl rfl rfl ?_
            refine KO.no rfl rfl rfl ?_
            refine KO.no rfl rfl rfl ?_
            refine KO.no rfl rfl rfl ?_
            refine KO.pv (PV.pickT rfl rfl rfl) rfl rfl ?_
            refine KO.pv (PV.move rfl) rfl rfl ?_
            refine KO.no rfl rfl rfl ?_
            refine KO.no rfl rfl rfl ?_
            refine KO.no rfl rfl rfl ?_
            refine KO.no rfl rfl rfl ?_
            refine KO.no rfl rfl rfl ?_
            refine KO.no rfl rfl rfl ?_
            refine KO.no rfl rfl rfl ?_
            refine KO.no rfl rfl rfl ?_
            refine KO.no rfl rfl rfl ?_
            refine KO.no rfl rfl rfl ?_
            refine KO.no rfl rfl rfl ?_
            refine KO.no rfl rfl rfl ?_
            refine KO.pv (PV.pickT rfl rfl rfl) rfl rfl ?_
            refine KO.nil ?_
            refine KC.condT rfl ?_
            refine KC.seq ?_
            refine KC.region ?_
            refine KO.pv (PV.assign rfl) rfl rfl ?_
            refine KO.nil ?_
            exact KC.ret ⟨rfl, _, (.tmp rfl .nil), 8, rfl, m21.pick [] (by decide) rfl, (by first | omega | (intro h; omega) | (simp only [List.length_nil, true_and, and_true, or_true, true_or] <;> omega) | (exact fun _ => ⟨by omega, by omega, hpre.mem len_aT (by omega), fun i j x y hij hi hj => hmk.d i j x y hij (by have := (List.getElem?_eq_some_iff.1 hj).1; omega) hi hj, fun u hu => by have := hps.mem len_aS (by omega) u hu; omega, by omega, by have := hin.bound len_aS (by omega) (v := (n_aT : Int)) (fun u hu => by have := hps.mem len_aS (by omega) u hu; omega) (by omega); omega⟩)), (by first | omega | (intro h; omega) | (simp only [List.length_nil, true_and, and_true, or_true, true_or] <;> omega) | (exact .inl rfl) | (exact .inr rfl))⟩
          · refine KO.pv (PV.lssD rfl rfl (decide_eq_false h24)) rfl rfl ?_
            refine KO.pv (PV.move rfl) rfl rfl ?_
            refine KO.pv (PV.move rfl) rfl rfl ?_
            refine KO.pv (PV.fieldAddr fo24_1_B1 rfl) rfl rfl ?_
            refine KO.load1 ag22_B1 rfl (m21.row (i := 0) rfl) rfl rfl rfl ?_
            refine KO.pv (PV.len un22_B1 rfl) rfl rfl ?_
            by_cases h25 : (n_aT : Int) ≤ e23
            · refine KO.pv (PV.geqD rfl rfl (decide_eq_true h25)) rfl rfl ?_
              refine KO.pv (PV.pickF rfl rfl rfl) rfl rfl ?_
              refine KO.pv (PV.move rfl) rfl rfl ?_
              refine KO.no rfl rfl rfl ?_
              refine KO.no rfl rfl rfl ?_
              refine KO.no rfl rfl rfl ?_
              refine KO.no rfl rfl rfl ?_
              refine KO.no rfl rfl rfl ?_
              refine KO.no rfl rfl rfl ?_
              refine KO.no rfl rfl rfl ?_
              refine KO.no rfl rfl rfl ?_
              refine KO.no rfl rfl rfl ?_
              refine KO.no rfl rfl rfl ?_
              refine KO.no rfl rfl rfl ?_
              refine KO.no rfl rfl rfl ?_
              refine KO.pv (PV.pickT rfl rfl rfl) rfl rfl ?_
              refine KO.nil ?_
              refine KC.condT rfl ?_
              refine KC.seq ?_
              refine KC.region ?_
              refine KO.pv (PV.assign rfl) rfl rfl ?_
              refine KO.nil ?_
              exact KC.ret ⟨rfl, _, (.tmp rfl .nil), 8, rfl, m21.pick [] (by decide) rfl, (by first | omega | (intro h; omega) | (simp only [List.length_nil, true_and, and_true, or_true, true_or] <;> omega) | (exact fun _ => ⟨by omega, by omega, hpre.mem len_aT (by omega), fun i j x y hij hi hj => hmk.d i j x y hij (by have := (List.getElem?_eq_some_iff.1 hj).1; omega) hi hj, fun u hu => by have := hps.mem len_aS (by omega) u hu; omega, by omega, by have := hin.bound len_aS (by omega) (v := (n_aT : Int)) (fun u hu => by have := hps.mem len_aS (by omega) u hu; omega) (by omega); omega⟩)), (by first | omega | (intro h; omega) | (simp only [List.length_nil, true_and, and_true, or_true, true_or] <;> omega) | (exact .inl rfl) | (exact .inr rfl))⟩
            · refine KO.pv (PV.geqD rfl rfl (decide_eq_false h25)) rfl rfl ?_
              refine KO.pv (PV.pickF rfl rfl rfl) rfl rfl ?_
              refine KO.pv (PV.move rfl) rfl rfl ?_
              refine KO.pv (PV.move rfl) rfl rfl ?_
              by_cases h26 : 0 < x47
              · refine KO.pv (PV.gtrD rfl rfl (decide_eq_true h26)) rfl rfl ?_
                refine KO.pv (PV.move rfl) rfl rfl ?_
                refine KO.pv (PV.move rfl) rfl rfl ?_
                refine KO.pv (PV.fieldAddr fo24_2_B1 rfl) rfl rfl ?_
                refine KO.load1 ag22_B1 rfl (m21.row (i := 0) rfl) rfl rfl rfl ?_
                refine KO.pv (PV.move rfl) rfl rfl ?_
                refine KO.pv (PV.sub rfl rfl (wrap64 (by omega) (by omega))) rfl rfl ?_
                obtain ⟨b27, o27, p27, r27, e27, ha27, hb27, hr27, hx27, hw27, hc27, ht27⟩ := V.at_ h_aS (z := (x47 - 1)) (by omega) (by omega)
                have hc27_0 : r27.cs[o27 + ((x47 - 1)).toNat * 1 + 0]? = some (.int .i64 e27) := hc27 0 (by decide)
                have hw27 : IntKind.i64.wrap e27 = e27 := hw27
                obtain ⟨lo27, hi27⟩ := rangei64 hw27
                refine KO.pv (PV.indexAddrZ un22_B1 sz3_B1 rfl ha27 rfl (by omega) (by omega)) rfl rfl ?_
                refine KO.load1 ag3_B1 rfl (m21.row0 hb27 hr27) hc27_0 rfl rfl ?_
                refine KO.pv (PV.leqD rfl rfl rfl) rfl rfl ?_
                refine KO.pv (PV.pickT rfl rfl rfl) rfl rfl ?_
                refine KO.pv (PV.pickF rfl rfl rfl) rfl rfl ?_
                refine KO.nil ?_
                refine KC.condD rfl (fun h28 => ?_) (fun h28 => ?_)
                · refine KC.seq ?_
                  refine KC.region ?_
                  refine KO.pv (PV.assign rfl) rfl rfl ?_
                  refine KO.nil ?_
                  exact KC.ret ⟨rfl, _, (.tmp rfl .nil), 8, rfl, m21.pick [] (by decide) rfl, (by first | omega | (intro h; omega) | (simp only [List.length_nil, true_and, and_true, or_true, true_or] <;> omega) | (exact fun _ => ⟨by omega, by omega, hpre.mem len_aT (by omega), fun i j x y hij hi hj => hmk.d i j x y hij (by have := (List.getElem?_eq_some_iff.1 hj).1; omega) hi hj, fun u hu => by have := hps.mem len_aS (by omega) u hu; omega, by omega, by have := hin.bound len_aS (by omega) (v := (n_aT : Int)) (fun u hu => by have := hps.mem len_aS (by omega) u hu; omega) (by omega); omega⟩)), (by first | omega | (intro h; omega) | (simp only [List.length_nil, true_and, and_true, or_true, true_or] <;> omega) | (exact .inl rfl) | (exact .inr rfl))⟩
                · refine KC.skip ?_
                  refine KC.region ?_
                  refine KO.pv (PV.add rfl rfl (wrap64 (by omega) (by omega))) rfl rfl ?_
                  refine KO.pv (PV.move rfl) rfl rfl ?_
                  refine KO.nil ?_
                  exact ⟨_, _, (by omega), (.cons rfl (.cons rfl (.cons rfl (.cons rfl .nil)))), (x47 + 1), rfl, rfl, (m21.pick [0] (by decide) rfl), (by first | omega | assumption | (constructor <;> omega)), (hps.step (by assumption) (by omega) (by first | assumption | (constructor <;> omega))), (hin.step (by omega) (by assumption) (by omega) (fun hp => by first | (exfalso; omega) | exact ⟨_, by assumption, by omega⟩))⟩
              · refine KO.pv (PV.gtrD rfl rfl (decide_eq_false h26)) rfl rfl ?_
                refine KO.pv (PV.move rfl) rfl rfl ?_
                refine KO.no rfl rfl rfl ?_
                refine KO.no rfl rfl rfl ?_
                refine KO.no rfl rfl rfl ?_
                refine KO.no rfl rfl rfl ?_
                refine KO.no rfl rfl rfl ?_
                refine KO.no rfl rfl rfl ?_
                refine KO.no rfl rfl rfl ?_
                refine KO.no rfl rfl rfl ?_
                refine KO.pv (PV.pickF rfl rfl rfl) rfl rfl ?_
                refine KO.pv (PV.pickF rfl rfl rfl) rfl rfl ?_
                refine KO.nil ?_
                refine KC.condF rfl ?_
                refine KC.skip ?_
                refine KC.region ?_
                refine KO.pv (PV.add rfl rfl (wrap64 (by omega) (by omega))) rfl rfl ?_
                refine KO.pv (PV.move rfl) rfl rfl ?_
                refine KO.nil ?_
                exact ⟨_, _, (by omega), (.cons rfl (.cons rfl (.cons rfl (.cons rfl .nil)))), (x47 + 1), rfl, rfl, (m21.pick [0] (by decide) rfl), (by first | omega | assumption | (constructor <;> omega)), (hps.step (by assumption) (by omega) (by first | assumption | (constructor <;> omega))), (hin.step (by omega) (by assumption) (by omega) (fun hp => by first | (exfalso; omega) | exact ⟨_, by assumption, by omega⟩))⟩
        · refine KC.exit ?_
          refine KC.seq ?_
          refine KC.region ?_
          refine KO.pv (PV.assign rfl) rfl rfl ?_
          refine KO.nil ?_
          exact KC.ret ⟨rfl, _, (.tmp rfl .nil), 0, rfl, m21.pick [] (by decide) rfl, (by first | omega | (intro h; omega) | (simp only [List.length_nil, true_and, and_true, or_true, true_or] <;> omega) | (exact fun _ => ⟨by omega, by omega, hpre.mem len_aT (by omega), fun i j x y hij hi hj => hmk.d i j x y hij (by have := (List.getElem?_eq_some_iff.1 hj).1; omega) hi hj, fun u hu => by have := hps.mem len_aS (by omega) u hu; omega, by omega, by have := hin.bound len_aS (by omega) (v := (n_aT : Int)) (fun u hu => by have := hps.mem len_aS (by omega) u hu; omega) (by omega); omega⟩)), (by first | omega | (intro h; omega) | (simp only [List.length_nil, true_and, and_true, or_true, true_or] <;> omega) | (exact .inl rfl) | (exact .inr rfl))⟩
/-- What a passed check tells of a clause. -/
structure ClOK (v : Int) (c : List Int) : Prop where
  v0 : 0 ≤ v
  v1 : v ≤ 4000
  l : ∀ u ∈ c, 2 ≤ u ∧ u / 2 ≤ v
  lt : ∀ (i : Nat) x y, c[i]? = some x → c[i + 1]? = some y → x < y
  n : (c.length : Int) ≤ 2 * v + 2

theorem cl_known (H : AHeap) (v : Int) (l : Int) (w_v : IntKind.i64.wrap v = v) (w_l : IntKind.i64.wrap l = l) : WF E0 81 [.int .i64 v, .int .i64 l] H fun q => ∃ (o : Bool), q.1 = .bool o ∧ Mem [] H q.2 [] ∧ (o = true → 2 ≤ l ∧ l / 2 ≤ v) ∧ (o = false → ¬ (2 ≤ l ∧ l / 2 ≤ v)) := by
  obtain ⟨lo_v, hi_v⟩ := rangei64 w_v
  obtain ⟨lo_l, hi_l⟩ := rangei64 w_l
  have m0 : Mem [] H H [] := Mem.start
  refine WF.kg Tryz.func81 rfl rfl ?_
  refine KC.seq ?_
  refine KC.region ?_
  refine KO.pv (PV.assign rfl) rfl rfl ?_
  refine KO.nil ?_
  refine KC.seq ?_
  refine KC.region ?_
  refine KO.pv (PV.move rfl) rfl rfl ?_
  by_cases h1 : 2 ≤ l
  · refine KO.pv (PV.geqD rfl rfl (decide_eq_true h1)) rfl rfl ?_
    refine KO.pv (PV.move rfl) rfl rfl ?_
    refine KO.pv (PV.move rfl) rfl rfl ?_
    refine KO.pv (PV.quo rfl rfl (by omega) (quoN (by omega) (by omega))) rfl rfl ?_
    refine KO.pv (PV.move rfl) rfl rfl ?_
    refine KO.pv (PV.leqD rfl rfl rfl) rfl rfl ?_
    refine KO.pv (PV.pickT rfl rfl rfl) rfl rfl ?_
    refine KO.pv (PV.assign rfl) rfl rfl ?_
    refine KO.nil ?_
    exact KC.ret ⟨rfl, _, (.tmp rfl .nil), (decide ((l / 2) ≤ v)), rfl, m0.pick [] (by decide) rfl, (by first | omega | (intro h; omega) | (simp only [List.length_nil, true_and, and_true, or_true, true_or] <;> omega) | (exact fun h => by cases h) | (exact fun h => by have := of_decide_eq_true h; omega)), (by first | omega | (intro h; omega) | (simp only [List.length_nil, true_and, and_true, or_true, true_or] <;> omega) | (exact fun h => by cases h) | (exact fun h => by have := of_decide_eq_false h; omega))⟩
  · refine KO.pv (PV.geqD rfl rfl (decide_eq_false h1)) rfl rfl ?_
    refine KO.pv (PV.move rfl) rfl rfl ?_
    refine KO.no rfl rfl rfl ?_
    refine KO.no rfl rfl rfl ?_
    refine KO.no rfl rfl rfl ?_
    refine KO.no rfl rfl rfl ?_
    refine KO.pv (PV.pickF rfl rfl rfl) rfl rfl ?_
    refine KO.pv (PV.assign rfl) rfl rfl ?_
    refine KO.nil ?_
    exact KC.ret ⟨rfl, _, (.tmp rfl .nil), false, rfl, m0.pick [] (by decide) rfl, (by first | omega | (intro h; omega) | (simp only [List.length_nil, true_and, and_true, or_true, true_or] <;> omega) | (exact fun h => by cases h) | (exact fun h => by have := of_decide_eq_true h; omega)), (by first | omega | (intro h; omega) | (simp only [List.length_nil, true_and, and_true, or_true, true_or] <;> omega) | (exact fun h => by cases h) | (exact fun h => by have := of_decide_eq_false h; omega))⟩
theorem cl_Check (H : AHeap) (v : Int) (a_c : Option Addr) (n_c c_c : Nat) (c : List Int) (w_v : IntKind.i64.wrap v = v) (h_c : V (EI .i64) H a_c n_c c_c c) : WF E0 22 [.int .i64 v, .slice a_c n_c c_c] H fun q => ∃ (e : Int), q.1 = .int .i64 e ∧ Mem [] H q.2 [] ∧ (e = 0 → ClOK v c) ∧ (0 ≤ e ∧ e ≤ 100) := by
  obtain ⟨lo_v, hi_v⟩ := rangei64 w_v
  obtain ⟨len_c, cap_c, max_c, wf_c⟩ := h_c.len
  have m0 : Mem [] H H [] := Mem.start
  refine WF.kg Tryz.func22 rfl rfl ?_
  refine KC.seq ?_
  refine KC.region ?_
  refine KO.pv (PV.assign rfl) rfl rfl ?_
  refine KO.nil ?_
  refine KC.seq ?_
  refine KC.seq ?_
  refine KC.region ?_
  refine KO.pv (PV.move rfl) rfl rfl ?_
  by_cases h1 : v < 0
  · refine KO.pv (PV.lssD rfl rfl (decide_eq_true h1)) rfl rfl ?_
    refine KO.pv (PV.move rfl) rfl rfl ?_
    refine KO.no rfl rfl rfl ?_
    refine KO.no rfl rfl rfl ?_
    refine KO.pv (PV.pickT rfl rfl rfl) rfl rfl ?_
    refine KO.nil ?_
    refine KC.condT rfl ?_
    refine KC.seq ?_
    refine KC.region ?_
    refine KO.pv (PV.assign rfl) rfl rfl ?_
    refine KO.nil ?_
    exact KC.ret ⟨rfl, _, (.tmp rfl .nil), 2, rfl, m0.pick [] (by decide) rfl, (by first | omega | (intro h; omega) | (simp only [List.length_nil, true_and, and_true, or_true, true_or] <;> omega) | (exact fun _ => ⟨by omega, by omega, hpre.mem len_c (by omega), fun i x y hx hy => hin.m i x y (by have := (List.getElem?_eq_some_iff.1 hy).1; omega) hx hy, by have := hin.bound len_c (by omega) (v := 2 * v + 2) (fun u hu => by have := hpre.mem len_c (by omega) u hu; omega) (by omega); omega⟩)), (by first | omega | (intro h; omega) | (simp only [List.length_nil, true_and, and_true, or_true, true_or] <;> omega))⟩
  · refine KO.pv (PV.lssD rfl rfl (decide_eq_false h1)) rfl rfl ?_
    refine KO.pv (PV.move rfl) rfl rfl ?_
    refine KO.pv (PV.move rfl) rfl rfl ?_
    refine KO.pv (PV.gtrD rfl rfl rfl) rfl rfl ?_
    refine KO.pv (PV.pickF rfl rfl rfl) rfl rfl ?_
    refine KO.nil ?_
    refine KC.condD rfl (fun h2 => ?_) (fun h2 => ?_)
    · refine KC.seq ?_
      refine KC.region ?_
      refine KO.pv (PV.assign rfl) rfl rfl ?_
      refine KO.nil ?_
      exact KC.ret ⟨rfl, _, (.tmp rfl .nil), 2, rfl, m0.pick [] (by decide) rfl, (by first | omega | (intro h; omega) | (simp only [List.length_nil, true_and, and_true, or_true, true_or] <;> omega) | (exact fun _ => ⟨by omega, by omega, hpre.mem len_c (by omega), fun i x y hx hy => hin.m i x y (by have := (List.getElem?_eq_some_iff.1 hy).1; omega) hx hy, by have := hin.bound len_c (by omega) (v := 2 * v + 2) (fun u hu => by have := hpre.mem len_c (by omega) u hu; omega) (by omega); omega⟩)), (by first | omega | (intro h; omega) | (simp only [List.length_nil, true_and, and_true, or_true, true_or] <;> omega))⟩
    · refine KC.skip ?_
      refine KC.seq ?_
      refine KC.seq ?_
      refine KC.region ?_
      refine KO.pv (PV.move rfl) rfl rfl ?_
      refine KO.pv (PV.len un22_B1 rfl) rfl rfl ?_
      refine KO.pv (PV.move rfl) rfl rfl ?_
      refine KO.nil ?_
      refine KC.block ?_
      refine KC.sub (l' := [(0, .int .i64 v), (1, .slice a_c n_c c_c), (13, .slice a_c n_c c_c), (14, .int .i64 (n_c : Int)), (15, .int .i64 0)]) (.cons rfl (.cons rfl (.cons rfl (.cons rfl (.cons rfl .nil))))) ?_
      refine KC.loopN (fun kq lq A => ∃ (x15 : Int), kq = ((n_c : Int) - x15).toNat ∧ lq = [(0, .int .i64 v), (1, .slice a_c n_c c_c), (13, .slice a_c n_c c_c), (14, .int .i64 (n_c : Int)), (15, .int .i64 x15)] ∧ Mem [] H A [] ∧ (0 ≤ x15 ∧ x15 ≤ (n_c : Int)) ∧ (Ahead c x15 fun _ u => 2 ≤ u ∧ u / 2 ≤ v) ∧ (Incr 2 c x15)) ?_ (((n_c : Int) - 0).toNat) ⟨0, rfl, rfl, (m0.pick [] (by decide) rfl), (by first | omega | assumption | (constructor <;> omega)), Ahead.zero, Incr.zero⟩
      rintro kq lq A3 ⟨x15, rfl, rfl, m4, hr4, hpre, hin⟩
      refine KC.seq ?_
      refine KC.region ?_
      refine KO.pv (PV.lssD rfl rfl rfl) rfl rfl ?_
      refine KO.nil ?_
      refine KC.seq ?_
      refine KC.condD rfl (fun h5 => ?_) (fun h5 => ?_)
      · refine KC.skip ?_
        refine KC.seq ?_
        refine KC.block ?_
        refine KC.seq ?_
        refine KC.region ?_
        refine KO.pv (PV.move rfl) rfl rfl ?_
        obtain ⟨b6, o6, p6, r6, e6, ha6, hb6, hr6, hx6, hw6, hc6, ht6⟩ := V.at_ h_c (z := x15) (by omega) (by omega)
        have hc6_0 : r6.cs[o6 + (x15).toNat * 1 + 0]? = some (.int .i64 e6) := hc6 0 (by decide)
        have hw6 : IntKind.i64.wrap e6 = e6 := hw6
        obtain ⟨lo6, hi6⟩ := rangei64 hw6
        refine KO.pv (PV.indexAddrZ un22_B1 sz3_B1 rfl ha6 rfl (by omega) (by omega)) rfl rfl ?_
        refine KO.load1 ag3_B1 rfl (m4.row0 hb6 hr6) hc6_0 rfl rfl ?_
        refine KO.pv (PV.assign rfl) rfl rfl ?_
        refine KO.pv (PV.assign rfl) rfl rfl ?_
        refine KO.nil ?_
        refine KC.seq ?_
        refine KC.region ?_
        refine KO.pv (PV.move rfl) rfl rfl ?_
        refine KO.pv (PV.move rfl) rfl rfl ?_
        refine KO.call rfl rfl rfl rfl (cl_known A3 v e6 (wrap64 (by omega) (by omega)) (wrap64 (by omega) (by omega))) fun v7 H7 q7 => ?_
        obtain ⟨o7, hv7, mc7, p7_0, p7_1⟩ := q7
        dsimp only at hv7 mc7
        subst hv7
        have m8 := m4.seq mc7
        rcases Bool.eq_false_or_eq_true o7 with h9 | h9
        · subst h9
          have p7_0t := p7_0 rfl
          refine KO.pv (PV.notB rfl rfl) rfl rfl ?_
          refine KO.pv (PV.move rfl) rfl rfl ?_
          refine KO.pv (PV.move rfl) rfl rfl ?_
          by_cases h10 : 0 < x15
          · refine KO.pv (PV.gtrD rfl rfl (decide_eq_true h10)) rfl rfl ?_
            refine KO.pv (PV.move rfl) rfl rfl ?_
            refine KO.pv (PV.move rfl) rfl rfl ?_
            refine KO.pv (PV.move rfl) rfl rfl ?_
            refine KO.pv (PV.move rfl) rfl rfl ?_
            refine KO.pv (PV.sub rfl rfl (wrap64 (by omega) (by omega))) rfl rfl ?_
            obtain ⟨b11, o11, p11, r11, e11, ha11, hb11, hr11, hx11, hw11, hc11, ht11⟩ := V.at_ h_c (z := (x15 - 1)) (by omega) (by omega)
            have hc11_0 : r11.cs[o11 + ((x15 - 1)).toNat * 1 + 0]? = some (.int .i64 e11) := hc11 0 (by decide)
            have hw11 : IntKind.i64.wrap e11 = e11 := hw11
            obtain ⟨lo11, hi11⟩ := rangei64 hw11
            refine KO.pv (PV.indexAddrZ un22_B1 sz3_B1 rfl ha11 rfl (by omega) (by omega)) rfl rfl ?_
            refine KO.load1 ag3_B1 rfl (m8.row0 hb11 hr11) hc11_0 rfl rfl ?_
            by_cases h12 : e6 ≤ e11
            · refine KO.pv (PV.leqD rfl rfl (decide_eq_true h12)) rfl rfl ?_
              refine KO.pv (PV.move rfl) rfl rfl ?_
              refine KO.no rfl rfl rfl ?_
              refine KO.no rfl rfl rfl ?_
              refine KO.no rfl rfl rfl ?_
              refine KO.no rfl rfl rfl ?_
              refine KO.no rfl rfl rfl ?_
              refine KO.no rfl rfl rfl ?_
              refine KO.no rfl rfl rfl ?_
              refine KO.no rfl rfl rfl ?_
              refine KO.no rfl rfl rfl ?_
              refine KO.pv (PV.pickT rfl rfl rfl) rfl rfl ?_
              refine KO.pv (PV.pickT rfl rfl rfl) rfl rfl ?_
              refine KO.pv (PV.pickF rfl rfl rfl) rfl rfl ?_
              refine KO.nil ?_
              refine KC.condT rfl ?_
              refine KC.seq ?_
              refine KC.region ?_
              refine KO.pv (PV.assign rfl) rfl rfl ?_
              refine KO.nil ?_
              exact KC.ret ⟨rfl, _, (.tmp rfl .nil), 8, rfl, m8.pick [] (by decide) rfl, (by first | omega | (intro h; omega) | (simp only [List.length_nil, true_and, and_true, or_true, true_or] <;> omega) | (exact fun _ => ⟨by omega, by omega, hpre.mem len_c (by omega), fun i x y hx hy => hin.m i x y (by have := (List.getElem?_eq_some_iff.1 hy).1; omega) hx hy, by have := hin.bound len_c (by omega) (v := 2 * v + 2) (fun u hu => by have := hpre.mem len_c (by omega) u hu; omega) (by omega); omega⟩)), (by first | omega | (intro h; omega) | (simp only [List.length_nil, true_and, and_true, or_true, true_or] <;> omega))⟩
            · refine KO.pv (PV.leqD rfl rfl (decide_eq_false h12)) rfl rfl ?_
              refine KO.pv (PV.move rfl) rfl rfl ?_
              refine KO.pv (PV.move rfl) rfl rfl ?_
              refine KO.pv (PV.quo rfl rfl (by omega) (quoN (by omega) (by omega))) rfl rfl ?_
              refine KO.pv (PV.move rfl) rfl rfl ?_
              refine KO.pv (PV.move rfl) rfl rfl ?_
              refine KO.pv (PV.sub rfl rfl (wrap64 (by omega) (by omega))) rfl rfl ?_
              obtain ⟨b13, o13, p13, r13, e13, ha13, hb13, hr13, hx13, hw13, hc13, ht13⟩ := V.at_ h_c (z := (x15 - 1)) (by omega) (by omega)
              have hc13_0 : r13.cs[o13 + ((x15 - 1)).toNat * 1 + 0]? = some (.int .i64 e13) := hc13 0 (by decide)
              have hw13 : IntKind.i64.wrap e13 = e13 := hw13
              obtain ⟨lo13, hi13⟩ := rangei64 hw13
              have hq13 : e13 = e11 := Option.some.inj (hx13.symm.trans hx11)
              refine KO.pv (PV.indexAddrZ un22_B1 sz3_B1 rfl ha13 rfl (by omega) (by omega)) rfl rfl ?_
              refine KO.load1 ag3_B1 rfl (m8.row0 hb13 hr13) hc13_0 rfl rfl ?_
              have hg := hpre _ _ hx13 (by omega)
              refine KO.pv (PV.quo rfl rfl (by omega) (quoN (by omega) (by omega))) rfl rfl ?_
              refine KO.pv (PV.eqlD rfl rfl rfl) rfl rfl ?_
              refine KO.pv (PV.pickF rfl rfl rfl) rfl rfl ?_
              refine KO.pv (PV.pickT rfl rfl rfl) rfl rfl ?_
              refine KO.pv (PV.pickF rfl rfl rfl) rfl rfl ?_
              refine KO.nil ?_
              refine KC.condD rfl (fun h14 => ?_) (fun h14 => ?_)
              · refine KC.seq ?_
                refine KC.region ?_
                refine KO.pv (PV.assign rfl) rfl rfl ?_
                refine KO.nil ?_
                exact KC.ret ⟨rfl, _, (.tmp rfl .nil), 8, rfl, m8.pick [] (by decide) rfl, (by first | omega | (intro h; omega) | (simp only [List.length_nil, true_and, and_true, or_true, true_or] <;> omega) | (exact fun _ => ⟨by omega, by omega, hpre.mem len_c (by omega), fun i x y hx hy => hin.m i x y (by have := (List.getElem?_eq_some_iff.1 hy).1; omega) hx hy, by have := hin.bound len_c (by omega) (v := 2 * v + 2) (fun u hu => by have := hpre.mem len_c (by omega) u hu; omega) (by omega); omega⟩)), (by first | omega | (intro h; omega) | (simp only [List.length_nil, true_and, and_true, or_true, true_or] <;> omega))⟩
              · refine KC.skip ?_
                refine KC.region ?_
                refine KO.pv (PV.add rfl rfl (wrap64 (by omega) (by omega))) rfl rfl ?_
                refine KO.pv (PV.move rfl) rfl rfl ?_
                refine KO.nil ?_
                exact ⟨_, _, (by omega), (.cons rfl (.cons rfl (.cons rfl (.cons rfl (.cons rfl .nil))))), (x15 + 1), rfl, rfl, (m8.pick [] (by decide) rfl), (by first | omega | assumption | (constructor <;> omega)), (hpre.step (by assumption) (by omega) (by first | assumption | (constructor <;> omega))), (hin.step (by omega) (by assumption) (by omega) (fun hp => by first | (exfalso; omega) | exact ⟨_, by assumption, by omega⟩))⟩
          · refine KO.pv (PV.gtrD rfl rfl (decide_eq_false h10)) rfl rfl ?_
            refine KO.pv (PV.move rfl) rfl rfl ?_
            refine KO.no rfl rfl rfl ?_
            refine KO.no rfl rfl rfl ?_
            refine KO.no rfl rfl rfl ?_
            refine KO.no rfl rfl rfl ?_
            refine KO.no rfl rfl rfl ?_
            refine KO.no rfl rfl rfl ?_
            refine KO.no rfl rfl rfl ?_
            refine KO.no rfl rfl rfl ?_
            refine KO.no rfl rfl rfl ?_
            refine KO.no rfl rfl rfl ?_
            refine KO.no rfl rfl rfl ?_
            refine KO.no rfl rfl rfl ?_
            refine KO.no rfl rfl rfl ?_
            refine KO.no rfl rfl rfl ?_
            refine KO.no rfl rfl rfl ?_
            refine KO.no rfl rfl rfl ?_
            refine KO.no rfl rfl rfl ?_
            refine KO.no rfl rfl rfl ?_
            refine KO.pv (PV.pickF rfl rfl rfl) rfl rfl ?_
            refine KO.pv (PV.pickF rfl rfl rfl) rfl rfl ?_
            refine KO.nil ?_
            refine KC.condF rfl ?_
            refine KC.skip ?_
            refine KC.region ?_
            refine KO.pv (PV.add rfl rfl (wrap64 (by omega) (by omega))) rfl rfl ?_
            refine KO.pv (PV.move rfl) rfl rfl ?_
            refine KO.nil ?_
            exact ⟨_, _, (by omega), (.cons rfl (.cons rfl (.cons rfl (.cons rfl (.cons rfl .nil))))), (x15 + 1), rfl, rfl, (m8.pick [] (by decide) rfl), (by first | omega | assumption | (constructor <;> omega)), (hpre.step (by assumption) (by omega) (by first | assumption | (constructor <;> omega))), (hin.step (by omega) (by assumption) (by omega) (fun hp => by first | (exfalso; omega) | exact ⟨_, by assumption, by omega⟩))⟩
        · subst h9
          have p7_1t := p7_1 rfl
          refine KO.pv (PV.notB rfl rfl) rfl rfl ?_
          refine KO.pv (PV.move rfl) rfl rfl ?_
          refine KO.no rfl rfl rfl ?_
          refine KO.no rfl rfl rfl ?_
          refine KO.no rfl rfl rfl ?_
          refine KO.no rfl rfl rfl ?_
          refine KO.no rfl rfl rfl ?_
          refine KO.no rfl rfl rfl ?_
          refine KO.no rfl rfl rfl ?_
          refine KO.no rfl rfl rfl ?_
          refine KO.no rfl rfl rfl ?_
          refine KO.no rfl rfl rfl ?_
          refine KO.no rfl rfl rfl ?_
          refine KO.no rfl rfl rfl ?_
          refine KO.no rfl rfl rfl ?_
          refine KO.no rfl rfl rfl ?_
          refine KO.no rfl rfl rfl ?_
          refine KO.no rfl rfl rfl ?_
          refine KO.no rfl rfl rfl ?_
          refine KO.no rfl rfl rfl ?_
          refine KO.no rfl rfl rfl ?_
          refine KO.no rfl rfl rfl ?_
          refine KO.no rfl rfl rfl ?_
          refine KO.no rfl rfl rfl ?_
          refine KO.pv (PV.pickT rfl rfl rfl) rfl rfl ?_
          refine KO.nil ?_
          refine KC.condT rfl ?_
          refine KC.seq ?_
          refine KC.region ?_
          refine KO.pv (PV.assign rfl) rfl rfl ?_
          refine KO.nil ?_
          exact KC.ret ⟨rfl, _, (.tmp rfl .nil), 8, rfl, m8.pick [] (by decide) rfl, (by first | omega | (intro h; omega) | (simp only [List.length_nil, true_and, and_true, or_true, true_or] <;> omega) | (exact fun _ => ⟨by omega, by omega, hpre.mem len_c (by omega), fun i x y hx hy => hin.m i x y (by have := (List.getElem?_eq_some_iff.1 hy).1; omega) hx hy, by have := hin.bound len_c (by omega) (v := 2 * v + 2) (fun u hu => by have := hpre.mem len_c (by omega) u hu; omega) (by omega); omega⟩)), (by first | omega | (intro h; omega) | (simp only [List.length_nil, true_and, and_true, or_true, true_or] <;> omega))⟩
      · refine KC.exit ?_
        refine KC.seq ?_
        refine KC.region ?_
        refine KO.pv (PV.assign rfl) rfl rfl ?_
        refine KO.nil ?_
        exact KC.ret ⟨rfl, _, (.tmp rfl .nil), 0, rfl, m4.pick [] (by decide) rfl, (by first | omega | (intro h; omega) | (simp only [List.length_nil, true_and, and_true, or_true, true_or] <;> omega) | (exact fun _ => ⟨by omega, by omega, hpre.mem len_c (by omega), fun i x y hx hy => hin.m i x y (by have := (List.getElem?_eq_some_iff.1 hy).1; omega) hx hy, by have := hin.bound len_c (by omega) (v := 2 * v + 2) (fun u hu => by have := hpre.mem len_c (by omega) u hu; omega) (by omega); omega⟩)), (by first | omega | (intro h; omega) | (simp only [List.length_nil, true_and, and_true, or_true, true_or] <;> omega))⟩
theorem unit_values (H : AHeap) (av : Int) (a_aT : Option Addr) (n_aT c_aT : Nat) (aT : List Int) (a_aS : Option Addr) (n_aS c_aS : Nat) (aS : List Int) (w_av : IntKind.i64.wrap av = av) (h_aT : V (EI .i64) H a_aT n_aT c_aT aT) (h_aS : V (EI .i64) H a_aS n_aS c_aS aS) (ok : AsgOK av aT aS) : WF E0 74 [.agg #[.int .i64 av, .slice a_aT n_aT c_aT, .slice a_aS n_aS c_aS]] H fun q => ∃ (b : Nat) (n : Nat) (xs : List Int), q.1 = .slice (some ⟨b, 0, none⟩) n n ∧ Mem [] H q.2 [R.row b 5 true (cells (EI .u8) xs)] ∧ ((n : Int) = 2 * av + 2) ∧ (xs.length = n) ∧ (∀ u ∈ xs, (EI .u8).wf u) := by
  obtain ⟨lo_av, hi_av⟩ := rangei64 w_av
  obtain ⟨len_aT, cap_aT, max_aT, wf_aT⟩ := h_aT.len
  obtain ⟨len_aS, cap_aS, max_aS, wf_aS⟩ := h_aS.len
  obtain ⟨ok_v0, ok_v1, ok_t, ok_td, ok_s, ok_n, ok_m⟩ := id ok
  have m0 : Mem [] H H [] := Mem.start
  refine WF.kg Tryz.func74 rfl rfl ?_
  refine KC.seq ?_
  refine KC.region ?_
  refine KO.boxM m0 rfl rfl (show _ = [.int .i64 av, .slice a_aT n_aT c_aT, .slice a_aS n_aS c_aS] from rfl) rfl rfl fun H1 m2 => ?_
  refine KO.pv (PV.assign rfl) rfl rfl ?_
  refine KO.nil ?_
  refine KC.seq ?_
  refine KC.region ?_
  refine KO.pv (PV.fieldAddr fo24_0_B1 rfl) rfl rfl ?_
  refine KO.load1 ag3_B1 rfl (m2.row (i := 0) rfl) rfl rfl rfl ?_
  refine KO.pv (PV.mul rfl rfl (wrap64 (by omega) (by omega))) rfl rfl ?_
  refine KO.pv (PV.add rfl rfl (wrap64 (by omega) (by omega))) rfl rfl ?_
  refine KO.makeSliceM (C := (EI .u8)) 0 m2 el129_B1 ez5_B1 sb5_B1 rfl rfl (by omega) (by omega) (by omega) rfl rfl fun H3 m4 => ?_
  refine KO.pv (PV.assign rfl) rfl rfl ?_
  refine KO.nil ?_
  refine KC.seq ?_
  refine KC.seq ?_
  refine KC.region ?_
  refine KO.pv (PV.move rfl) rfl rfl ?_
  refine KO.pv (PV.len un129_B1 rfl) rfl rfl ?_
  refine KO.pv (PV.move rfl) rfl rfl ?_
  refine KO.nil ?_
  refine KC.block ?_
  refine KC.sub (l' := [(1, .pointer (some ⟨H.next, 0, none⟩)), (3, .slice (some ⟨H1.next, 0, none⟩) ((((2 * av) + 2)).toNat) ((((2 * av) + 2)).toNat)), (13, .int .i64 ((((2 * av) + 2)).toNat : Int)), (14, .int .i64 0)]) (.cons rfl (.cons rfl (.cons rfl (.cons rfl .nil)))) ?_
  refine KC.loopN (fun kq lq A => ∃ (x14 : Int) (l3 : List Int), kq = (((((2 * av) + 2)).toNat : Int) - x14).toNat ∧ lq = [(1, .pointer (some ⟨H.next, 0, none⟩)), (3, .slice (some ⟨H1.next, 0, none⟩) ((((2 * av) + 2)).toNat) ((((2 * av) + 2)).toNat)), (13, .int .i64 ((((2 * av) + 2)).toNat : Int)), (14, .int .i64 x14)] ∧ Mem [] H A [R.row H1.next 5 true (cells (EI .u8) l3), R.row H.next 24 true [.int .i64 av, .slice a_aT n_aT c_aT, .slice a_aS n_aS c_aS]] ∧ (0 ≤ x14 ∧ x14 ≤ ((((2 * av) + 2)).toNat : Int)) ∧ (l3.length = (((2 * av) + 2)).toNat) ∧ (∀ u ∈ l3, (EI .u8).wf u)) ?_ ((((((2 * av) + 2)).toNat : Int) - 0).toNat) ⟨0, (List.replicate ((((2 * av) + 2)).toNat) 0), rfl, rfl, (m4.pick [0, 1] (by decide) rfl), (by first | omega | assumption | (constructor <;> omega)), (by first | omega | (simp only [splice, List.length_append, List.length_set, List.length_replicate, List.length_map, List.length_take, List.length_drop, List.length_cons, List.length_nil] <;> omega)), (all_rep (wfu8 (by omega) (by omega)))⟩
  rintro kq lq A5 ⟨x14, l3, rfl, rfl, m6, hr3, hl_l3, hw_l3⟩
  refine KC.seq ?_
  refine KC.region ?_
  refine KO.pv (PV.lssD rfl rfl rfl) rfl rfl ?_
  refine KO.nil ?_
  refine KC.seq ?_
  refine KC.condD rfl (fun h7 => ?_) (fun h7 => ?_)
  · refine KC.skip ?_
    refine KC.seq ?_
    refine KC.block ?_
    refine KC.seq ?_
    refine KC.region ?_
    refine KO.pv (PV.move rfl) rfl rfl ?_
    refine KO.pv (PV.assign rfl) rfl rfl ?_
    refine KO.nil ?_
    refine KC.region ?_
    refine KO.pv (PV.move rfl) rfl rfl ?_
    refine KO.pv (PV.move rfl) rfl rfl ?_
    refine KO.pv (PV.indexAddrZ un129_B1 sz5_B1 rfl rfl rfl (by omega) (by omega)) rfl rfl ?_
    refine KO.storeM m6 (i := 0) rfl sz5_B1 rfl rfl rfl (cells_room (C := (EI .u8)) (xs := l3) (i := (x14).toNat) (by first | omega | (simp only [splice, List.length_append, List.length_set, List.length_replicate, List.length_map, List.length_take, List.length_drop, List.length_cons, List.length_nil] <;> omega)) rfl) (cells_put0 (C := (EI .u8)) (xs := l3) (i := (x14).toNat) 2 (by first | omega | (simp only [splice, List.length_append, List.length_set, List.length_replicate, List.length_map, List.length_take, List.length_drop, List.length_cons, List.length_nil] <;> omega))) rfl fun H9 m10 => ?_
    refine KO.nil ?_
    refine KC.region ?_
    refine KO.pv (PV.add rfl rfl (wrap64 (by omega) (by omega))) rfl rfl ?_
    refine KO.pv (PV.move rfl) rfl rfl ?_
    refine KO.nil ?_
    exact ⟨_, _, (by omega), (.cons rfl (.cons rfl (.cons rfl (.cons rfl .nil)))), (x14 + 1), (l3.set ((x14).toNat) 2), rfl, rfl, (m10.pick [0, 1] (by decide) rfl), (by first | omega | assumption | (constructor <;> omega)), (by first | omega | (simp only [splice, List.length_append, List.length_set, List.length_replicate, List.length_map, List.length_take, List.length_drop, List.length_cons, List.length_nil] <;> omega)), (all_set hw_l3 (wfu8 (by omega) (by omega)))⟩
  · refine KC.exit ?_
    refine KC.seq ?_
    refine KC.seq ?_
    refine KC.region ?_
    refine KO.pv (PV.fieldAddr fo24_1_B1 rfl) rfl rfl ?_
    refine KO.load1 ag22_B1 rfl (m6.row (i := 1) rfl) rfl rfl rfl ?_
    refine KO.pv (PV.len un22_B1 rfl) rfl rfl ?_
    refine KO.pv (PV.move rfl) rfl rfl ?_
    refine KO.nil ?_
    refine KC.block ?_
    refine KC.sub (l' := [(3, .slice (some ⟨H1.next, 0, none⟩) ((((2 * av) + 2)).toNat) ((((2 * av) + 2)).toNat)), (22, .slice a_aT n_aT c_aT), (23, .int .i64 (n_aT : Int)), (24, .int .i64 0)]) (.cons rfl (.cons rfl (.cons rfl (.cons rfl .nil)))) ?_
    refine KC.loopN (fun kq lq A => ∃ (x24 : Int) (l3 : List Int), kq = ((n_aT : Int) - x24).toNat ∧ lq = [(3, .slice (some ⟨H1.next, 0, none⟩) ((((2 * av) + 2)).toNat) ((((2 * av) + 2)).toNat)), (22, .slice a_aT n_aT c_aT), (23, .int .i64 (n_aT : Int)), (24, .int .i64 x24)] ∧ Mem [] H A [R.row H1.next 5 true (cells (EI .u8) l3)] ∧ (0 ≤ x24 ∧ x24 ≤ (n_aT : Int)) ∧ (l3.length = (((2 * av) + 2)).toNat) ∧ (∀ u ∈ l3, (EI .u8).wf u)) ?_ (((n_aT : Int) - 0).toNat) ⟨0, l3, rfl, rfl, (m6.pick [0] (by decide) rfl), (by first | omega | assumption | (constructor <;> omega)), (by first | omega | (simp only [splice, List.length_append, List.length_set, List.length_replicate, List.length_map, List.length_take, List.length_drop, List.length_cons, List.length_nil] <;> omega)), hw_l3⟩
    rintro kq lq A11 ⟨x24, l3, rfl, rfl, m12, hr8, hl_l3, hw_l3⟩
    refine KC.seq ?_
    refine KC.region ?_
    refine KO.pv (PV.lssD rfl rfl rfl) rfl rfl ?_
    refine KO.nil ?_
    refine KC.seq ?_
    refine KC.condD rfl (fun h13 => ?_) (fun h13 => ?_)
    · refine KC.skip ?_
      refine KC.seq ?_
      refine KC.block ?_
      refine KC.seq ?_
      refine KC.region ?_
      obtain ⟨b14, o14, p14, r14, e14, ha14, hb14, hr14, hx14, hw14, hc14, ht14⟩ := V.at_ h_aT (z := x24) (by omega) (by omega)
      have hc14_0 : r14.cs[o14 + (x24).toNat * 1 + 0]? = some (.int .i64 e14) := hc14 0 (by decide)
      have hw14 : IntKind.i64.wrap e14 = e14 := hw14
      obtain ⟨lo14, hi14⟩ := rangei64 hw14
      have gok_t_14 := ok_t _ (List.mem_of_getElem? hx14)
      have t14 := ok.t _ (List.mem_of_getElem? hx14)
      refine KO.pv (PV.indexAddrZ un22_B1 sz3_B1 rfl ha14 rfl (by omega) (by omega)) rfl rfl ?_
      refine KO.load1 ag3_B1 rfl (m12.row0 hb14 hr14) hc14_0 rfl rfl ?_
      refine KO.pv (PV.assign rfl) rfl rfl ?_
      refine KO.nil ?_
      refine KC.region ?_
      refine KO.pv (PV.move rfl) rfl rfl ?_
      refine KO.pv (PV.move rfl) rfl rfl ?_
      refine KO.pv (PV.move rfl) rfl rfl ?_
      refine KO.pv (PV.move rfl) rfl rfl ?_
      obtain ⟨x15, dx15, rx15, zx15, qx15⟩ := xor1 (e14) (by omega) (by omega)
      refine KO.pv (PV.xor1 rfl rfl qx15) rfl rfl ?_
      refine KO.pv (PV.indexAddrZ un129_B1 sz5_B1 rfl rfl rfl (by omega) (by omega)) rfl rfl ?_
      refine KO.storeM m12 (i := 0) rfl sz5_B1 rfl rfl rfl (cells_room (C := (EI .u8)) (xs := l3) (i := (e14).toNat) (by first | omega | (simp only [splice, List.length_append, List.length_set, List.length_replicate, List.length_map, List.length_take, List.length_drop, List.length_cons, List.length_nil] <;> omega)) rfl) (cells_put0 (C := (EI .u8)) (xs := l3) (i := (e14).toNat) 1 (by first | omega | (simp only [splice, List.length_append, List.length_set, List.length_replicate, List.length_map, List.length_take, List.length_drop, List.length_cons, List.length_nil] <;> omega))) rfl fun H17 m18 => ?_
      refine KO.pv (PV.indexAddrZ un129_B1 sz5_B1 rfl rfl rfl (by omega) (by omega)) rfl rfl ?_
      refine KO.storeM m18 (i := 0) rfl sz5_B1 rfl rfl rfl (cells_room (C := (EI .u8)) (xs := (l3.set ((e14).toNat) 1)) (i := (x15).toNat) (by first | omega | (simp only [splice, List.length_append, List.length_set, List.length_replicate, List.length_map, List.length_take, List.length_drop, List.length_cons, List.length_nil] <;> omega)) rfl) (cells_put0 (C := (EI .u8)) (xs := (l3.set ((e14).toNat) 1)) (i := (x15).toNat) 0 (by first | omega | (simp only [splice, List.length_append, List.length_set, List.length_replicate, List.length_map, List.length_take, List.length_drop, List.length_cons, List.length_nil] <;> omega))) rfl fun H20 m21 => ?_
      refine KO.nil ?_
      refine KC.region ?_
      refine KO.pv (PV.add rfl rfl (wrap64 (by omega) (by omega))) rfl rfl ?_
      refine KO.pv (PV.move rfl) rfl rfl ?_
      refine KO.nil ?_
      exact ⟨_, _, (by omega), (.cons rfl (.cons rfl (.cons rfl (.cons rfl .nil)))), (x24 + 1), ((l3.set ((e14).toNat) 1).set ((x15).toNat) 0), rfl, rfl, (m21.pick [0] (by decide) rfl), (by first | omega | assumption | (constructor <;> omega)), (by first | omega | (simp only [splice, List.length_append, List.length_set, List.length_replicate, List.length_map, List.length_take, List.length_drop, List.length_cons, List.length_nil] <;> omega)), (all_set (all_set hw_l3 (wfu8 (by omega) (by omega))) (wfu8 (by omega) (by omega)))⟩
    · refine KC.exit ?_
      refine KC.seq ?_
      refine KC.region ?_
      refine KO.pv (PV.move rfl) rfl rfl ?_
      refine KO.pv (PV.assign rfl) rfl rfl ?_
      refine KO.nil ?_
      exact KC.ret ⟨rfl, _, (.tmp rfl .nil), H1.next, ((((2 * av) + 2)).toNat), l3, rfl, m12.pick [0] (by decide) rfl, (by first | omega | (intro h; omega) | (simp only [List.length_nil, true_and, and_true, or_true, true_or] <;> omega)), (by first | omega | (intro h; omega) | (simp only [List.length_nil, true_and, and_true, or_true, true_or] <;> omega)), (by first | omega | (intro h; omega) | (simp only [List.length_nil, true_and, and_true, or_true, true_or] <;> omega))⟩
theorem unit_state (H : AHeap) (a_v : Option Addr) (n_v c_v : Nat) (v : List Int) (a_c : Option Addr) (n_c c_c : Nat) (c : List Int) (h_v : V (EI .u8) H a_v n_v c_v v) (h_c : V (EI .i64) H a_c n_c c_c c) (hc : ∀ u ∈ c, 2 ≤ u ∧ u < n_v) : WF E0 73 [.slice a_v n_v c_v, .slice a_c n_c c_c] H fun q => ∃ (s : Int) (lit : Int), q.1 = .tuple #[.int .u8 s, .int .i64 lit] ∧ Mem [] H q.2 [] ∧ (0 ≤ s ∧ s ≤ 3) ∧ (s = 3 → 2 ≤ lit ∧ lit < n_v ∧ v[lit.toNat]? = some 2) ∧ (-1 ≤ lit ∧ lit < 9223372036854775807) := by
  obtain ⟨len_v, cap_v, max_v, wf_v⟩ := h_v.len
  obtain ⟨len_c, cap_c, max_c, wf_c⟩ := h_c.len
  have m0 : Mem [] H H [] := Mem.start
  refine WF.kg Tryz.func73 rfl rfl ?_
  refine KC.seq ?_
  refine KC.region ?_
  refine KO.pv (PV.assign rfl) rfl rfl ?_
  refine KO.pv (PV.assign rfl) rfl rfl ?_
  refine KO.nil ?_
  refine KC.seq ?_
  refine KC.region ?_
  refine KO.pv (PV.assign rfl) rfl rfl ?_
  refine KO.pv (PV.assign rfl) rfl rfl ?_
  refine KO.nil ?_
  refine KC.seq ?_
  refine KC.seq ?_
  refine KC.region ?_
  refine KO.pv (PV.move rfl) rfl rfl ?_
  refine KO.pv (PV.len un22_B1 rfl) rfl rfl ?_
  refine KO.pv (PV.move rfl) rfl rfl ?_
  refine KO.nil ?_
  refine KC.block ?_
  refine KC.sub (l' := [(0, .slice a_v n_v c_v), (6, .int .i64 0), (7, .int .i64 0), (10, .slice a_c n_c c_c), (11, .int .i64 (n_c : Int)), (12, .int .i64 0)]) (.cons rfl (.cons rfl (.cons rfl (.cons rfl (.cons rfl (.cons rfl .nil)))))) ?_
  refine KC.loopN (fun kq lq A => ∃ (x6 : Int) (x7 : Int) (x12 : Int), kq = ((n_c : Int) - x12).toNat ∧ lq = [(0, .slice a_v n_v c_v), (6, .int .i64 x6), (7, .int .i64 x7), (10, .slice a_c n_c c_c), (11, .int .i64 (n_c : Int)), (12, .int .i64 x12)] ∧ Mem [] H A [] ∧ (0 ≤ x12 ∧ x12 ≤ (n_c : Int)) ∧ (0 ≤ x7 ∧ x7 ≤ x12) ∧ (0 ≤ x6 ∧ x6 < 9223372036854775807) ∧ (0 < x7 → 2 ≤ x6 ∧ x6 < n_v ∧ v[x6.toNat]? = some 2)) ?_ (((n_c : Int) - 0).toNat) ⟨0, 0, 0, rfl, rfl, (m0.pick [] (by decide) rfl), (by first | omega | assumption | (constructor <;> omega)), (by first | omega | assumption | (constructor <;> omega)), (by first | omega | (simp only [splice, List.length_append, List.length_set, List.length_replicate, List.length_map, List.length_take, List.length_drop, List.length_cons, List.length_nil] <;> omega)), (fun h => by omega)⟩
  rintro kq lq A1 ⟨x6, x7, x12, rfl, rfl, m2, hr3, hi3_0, hx6, hf⟩
  refine KC.seq ?_
  refine KC.region ?_
  refine KO.pv (PV.lssD rfl rfl rfl) rfl rfl ?_
  refine KO.nil ?_
  refine KC.seq ?_
  refine KC.condD rfl (fun h3 => ?_) (fun h3 => ?_)
  · refine KC.skip ?_
    refine KC.seq ?_
    refine KC.block ?_
    refine KC.seq ?_
    refine KC.region ?_
    obtain ⟨b4, o4, p4, r4, e4, ha4, hb4, hr4, hx4, hw4, hc4, ht4⟩ := V.at_ h_c (z := x12) (by omega) (by omega)
    have hc4_0 : r4.cs[o4 + (x12).toNat * 1 + 0]? = some (.int .i64 e4) := hc4 0 (by decide)
    have hw4 : IntKind.i64.wrap e4 = e4 := hw4
    obtain ⟨lo4, hi4⟩ := rangei64 hw4
    have b4 := hc _ (List.mem_of_getElem? hx4)
    refine KO.pv (PV.indexAddrZ un22_B1 sz3_B1 rfl ha4 rfl (by omega) (by omega)) rfl rfl ?_
    refine KO.load1 ag3_B1 rfl (m2.row0 hb4 hr4) hc4_0 rfl rfl ?_
    refine KO.pv (PV.assign rfl) rfl rfl ?_
    refine KO.nil ?_
    refine KC.seq ?_
    refine KC.region ?_
    refine KO.pv (PV.move rfl) rfl rfl ?_
    refine KO.pv (PV.move rfl) rfl rfl ?_
    obtain ⟨b5, o5, p5, r5, e5, ha5, hb5, hr5, hx5, hw5, hc5, ht5⟩ := V.at_ h_v (z := e4) (by omega) (by omega)
    have hc5_0 : r5.cs[o5 + (e4).toNat * 1 + 0]? = some (.int .u8 e5) := hc5 0 (by decide)
    have hw5 : IntKind.u8.wrap e5 = e5 := hw5
    obtain ⟨lo5, hi5⟩ := rangeu8 hw5
    refine KO.pv (PV.indexAddrZ un129_B1 sz5_B1 rfl ha5 rfl (by omega) (by omega)) rfl rfl ?_
    refine KO.load1 ag5_B1 rfl (m2.row0 hb5 hr5) hc5_0 rfl rfl ?_
    refine KO.nil ?_
    refine KC.block ?_
    refine KC.seq ?_
    refine KC.region ?_
    refine KO.pv (PV.eqlD rfl rfl rfl) rfl rfl ?_
    refine KO.pv (PV.assign rfl) rfl rfl ?_
    refine KO.nil ?_
    refine KC.condD rfl (fun h6 => ?_) (fun h6 => ?_)
    · refine KC.seq ?_
      refine KC.region ?_
      refine KO.pv (PV.assign rfl) rfl rfl ?_
      refine KO.pv (PV.assign rfl) rfl rfl ?_
      refine KO.nil ?_
      exact KC.ret ⟨rfl, _, (.tmp rfl (.tmp rfl .nil)), 1, 0, rfl, m2.pick [] (by decide) rfl, (by first | omega | (intro h; omega) | (simp only [List.length_nil, true_and, and_true, or_true, true_or] <;> omega)), (by first | omega | (intro h; omega) | (simp only [List.length_nil, true_and, and_true, or_true, true_or] <;> omega) | (exact fun _ => hf (by omega))), (by first | omega | (intro h; omega) | (simp only [List.length_nil, true_and, and_true, or_true, true_or] <;> omega))⟩
    · refine KC.seq ?_
      refine KC.region ?_
      refine KO.pv (PV.eqlD rfl rfl rfl) rfl rfl ?_
      refine KO.pv (PV.assign rfl) rfl rfl ?_
      refine KO.nil ?_
      refine KC.condD rfl (fun h7 => ?_) (fun h7 => ?_)
      · refine KC.seq ?_
        refine KC.region ?_
        refine KO.pv (PV.move rfl) rfl rfl ?_
        refine KO.pv (PV.assign rfl) rfl rfl ?_
        refine KO.nil ?_
        refine KC.region ?_
        refine KO.pv (PV.move rfl) rfl rfl ?_
        refine KO.pv (PV.add rfl rfl (wrap64 (by omega) (by omega))) rfl rfl ?_
        refine KO.pv (PV.assign rfl) rfl rfl ?_
        refine KO.nil ?_
        refine KC.region ?_
        refine KO.pv (PV.add rfl rfl (wrap64 (by omega) (by omega))) rfl rfl ?_
        refine KO.pv (PV.move rfl) rfl rfl ?_
        refine KO.nil ?_
        exact ⟨_, _, (by omega), (.cons rfl (.cons rfl (.cons rfl (.cons rfl (.cons rfl (.cons rfl .nil)))))), e4, (x7 + 1), (x12 + 1), rfl, rfl, (m2.pick [] (by decide) rfl), (by first | omega | assumption | (constructor <;> omega)), (by first | omega | assumption | (constructor <;> omega)), (by first | omega | (simp only [splice, List.length_append, List.length_set, List.length_replicate, List.length_map, List.length_take, List.length_drop, List.length_cons, List.length_nil] <;> omega)), (by first | exact hf | (intro _; refine ⟨by omega, by omega, ?_⟩; subst_vars; assumption))⟩
      · refine KC.skip ?_
        refine KC.region ?_
        refine KO.pv (PV.add rfl rfl (wrap64 (by omega) (by omega))) rfl rfl ?_
        refine KO.pv (PV.move rfl) rfl rfl ?_
        refine KO.nil ?_
        exact ⟨_, _, (by omega), (.cons rfl (.cons rfl (.cons rfl (.cons rfl (.cons rfl (.cons rfl .nil)))))), x6, x7, (x12 + 1), rfl, rfl, (m2.pick [] (by decide) rfl), (by first | omega | assumption | (constructor <;> omega)), (by first | omega | assumption | (constructor <;> omega)), (by first | omega | (simp only [splice, List.length_append, List.length_set, List.length_replicate, List.length_map, List.length_take, List.length_drop, List.length_cons, List.length_nil] <;> omega)), (by first | exact hf | (intro _; refine ⟨by omega, by omega, ?_⟩; subst_vars; assumption))⟩
  · refine KC.exit ?_
    refine KC.seq ?_
    refine KC.seq ?_
    refine KC.region ?_
    refine KO.pv (PV.move rfl) rfl rfl ?_
    refine KO.nil ?_
    refine KC.block ?_
    refine KC.seq ?_
    refine KC.region ?_
    refine KO.pv (PV.eqlD rfl rfl rfl) rfl rfl ?_
    refine KO.pv (PV.assign rfl) rfl rfl ?_
    refine KO.nil ?_
    refine KC.condD rfl (fun h8 => ?_) (fun h8 => ?_)
    · refine KC.seq ?_
      refine KC.region ?_
      refine KO.pv (PV.assign rfl) rfl rfl ?_
      refine KO.pv (PV.assign rfl) rfl rfl ?_
      refine KO.nil ?_
      exact KC.ret ⟨rfl, _, (.tmp rfl (.tmp rfl .nil)), 0, 0, rfl, m2.pick [] (by decide) rfl, (by first | omega | (intro h; omega) | (simp only [List.length_nil, true_and, and_true, or_true, true_or] <;> omega)), (by first | omega | (intro h; omega) | (simp only [List.length_nil, true_and, and_true, or_true, true_or] <;> omega) | (exact fun _ => hf (by omega))), (by first | omega | (intro h; omega) | (simp only [List.length_nil, true_and, and_true, or_true, true_or] <;> omega))⟩
    · refine KC.seq ?_
      refine KC.region ?_
      refine KO.pv (PV.eqlD rfl rfl rfl) rfl rfl ?_
      refine KO.pv (PV.assign rfl) rfl rfl ?_
      refine KO.nil ?_
      refine KC.condD rfl (fun h9 => ?_) (fun h9 => ?_)
      · refine KC.seq ?_
        refine KC.region ?_
        refine KO.pv (PV.move rfl) rfl rfl ?_
        refine KO.pv (PV.assign rfl) rfl rfl ?_
        refine KO.pv (PV.assign rfl) rfl rfl ?_
        refine KO.nil ?_
        exact KC.ret ⟨rfl, _, (.tmp rfl (.tmp rfl .nil)), 3, x6, rfl, m2.pick [] (by decide) rfl, (by first | omega | (intro h; omega) | (simp only [List.length_nil, true_and, and_true, or_true, true_or] <;> omega)), (by first | omega | (intro h; omega) | (simp only [List.length_nil, true_and, and_true, or_true, true_or] <;> omega) | (exact fun _ => hf (by omega))), (by first | omega | (intro h; omega) | (simp only [List.length_nil, true_and, and_true, or_true, true_or] <;> omega))⟩
      · refine KC.skip ?_
        refine KC.seq ?_
        refine KC.region ?_
        refine KO.pv (PV.assign rfl) rfl rfl ?_
        refine KO.pv (PV.assign rfl) rfl rfl ?_
        refine KO.nil ?_
        exact KC.ret ⟨rfl, _, (.tmp rfl (.tmp rfl .nil)), 2, 0, rfl, m2.pick [] (by decide) rfl, (by first | omega | (intro h; omega) | (simp only [List.length_nil, true_and, and_true, or_true, true_or] <;> omega)), (by first | omega | (intro h; omega) | (simp only [List.length_nil, true_and, and_true, or_true, true_or] <;> omega) | (exact fun _ => hf (by omega))), (by first | omega | (intro h; omega) | (simp only [List.length_nil, true_and, and_true, or_true, true_or] <;> omega))⟩
theorem unit_next (H : AHeap) (a_v : Option Addr) (n_v c_v : Nat) (v : List Int) (a_l : Option Addr) (n_l c_l : Nat) (v_l : List (Option Addr × Nat × Nat)) (l : List (List Int)) (h_v : V (EI .u8) H a_v n_v c_v v) (h_l : V ES H a_l n_l c_l v_l) (i_l : VV (EI .i64) H v_l l) (hl : ∀ c ∈ l, ∀ u ∈ c, 2 ≤ u ∧ u < n_v) : WF E0 76 [.slice a_v n_v c_v, .slice a_l n_l c_l] H fun q => ∃ (ix : Int) (lit : Int), q.1 = .tuple #[.int .i64 ix, .int .i64 lit] ∧ Mem [] H q.2 [] ∧ (-1 ≤ ix ∧ ix < n_l) ∧ (lit = 0 ∨ 2 ≤ lit ∧ lit < n_v ∧ v[lit.toNat]? = some 2) := by
  obtain ⟨len_v, cap_v, max_v, wf_v⟩ := h_v.len
  obtain ⟨len_l, cap_l, max_l, wf_l⟩ := h_l.len
  have len2_l := i_l.1
  have len3_l : l.length = n_l := by omega
  have m0 : Mem [] H H [] := Mem.start
  refine WF.kg Tryz.func76 rfl rfl ?_
  refine KC.seq ?_
  refine KC.region ?_
  refine KO.pv (PV.assign rfl) rfl rfl ?_
  refine KO.pv (PV.assign rfl) rfl rfl ?_
  refine KO.nil ?_
  refine KC.seq ?_
  refine KC.region ?_
  refine KO.pv (PV.assign rfl) rfl rfl ?_
  refine KO.nil ?_
  refine KC.seq ?_
  refine KC.seq ?_
  refine KC.region ?_
  refine KO.pv (PV.move rfl) rfl rfl ?_
  refine KO.pv (PV.len un25_B1 rfl) rfl rfl ?_
  refine KO.pv (PV.move rfl) rfl rfl ?_
  refine KO.nil ?_
  refine KC.block ?_
  refine KC.sub (l' := [(0, .slice a_v n_v c_v), (6, .int .i64 0), (11, .slice a_l n_l c_l), (12, .int .i64 (n_l : Int)), (13, .int .i64 0)]) (.cons rfl (.cons rfl (.cons rfl (.cons rfl (.cons rfl .nil))))) ?_
  refine KC.loopN (fun kq lq A => ∃ (x6 : Int) (x13 : Int), kq = ((n_l : Int) - x13).toNat ∧ lq = [(0, .slice a_v n_v c_v), (6, .int .i64 x6), (11, .slice a_l n_l c_l), (12, .int .i64 (n_l : Int)), (13, .int .i64 x13)] ∧ Mem [] H A [] ∧ (0 ≤ x13 ∧ x13 ≤ (n_l : Int)) ∧ (x6 = 0 ∨ 2 ≤ x6 ∧ x6 < n_v ∧ v[x6.toNat]? = some 2)) ?_ (((n_l : Int) - 0).toNat) ⟨0, 0, rfl, rfl, (m0.pick [] (by decide) rfl), (by first | omega | assumption | (constructor <;> omega)), (.inl rfl)⟩
  rintro kq lq A1 ⟨x6, x13, rfl, rfl, m2, hr3, hf⟩
  refine KC.seq ?_
  refine KC.region ?_
  refine KO.pv (PV.lssD rfl rfl rfl) rfl rfl ?_
  refine KO.nil ?_
  refine KC.seq ?_
  refine KC.condD rfl (fun h3 => ?_) (fun h3 => ?_)
  · refine KC.skip ?_
    refine KC.seq ?_
    refine KC.block ?_
    refine KC.seq ?_
    refine KC.region ?_
    refine KO.pv (PV.move rfl) rfl rfl ?_
    obtain ⟨b4, o4, p4, r4, e4, ha4, hb4, hr4, hx4, hw4, hc4, ht4⟩ := V.at_ h_l (z := x13) (by omega) (by omega)
    have hc4_0 : r4.cs[o4 + (x13).toNat * 1 + 0]? = some (.slice e4.1 e4.2.1 e4.2.2) := hc4 0 (by decide)
    obtain ⟨xs4, hxs4, hV4⟩ := VV.at_ i_l hx4
    obtain ⟨len4, cap4, max4, wf4⟩ := hV4.len
    have b4 := hl _ (List.mem_of_getElem? hxs4)
    refine KO.pv (PV.indexAddrZ un25_B1 sz22_B1 rfl ha4 rfl (by omega) (by omega)) rfl rfl ?_
    refine KO.load1 ag22_B1 rfl (m2.row0 hb4 hr4) hc4_0 rfl rfl ?_
    refine KO.pv (PV.assign rfl) rfl rfl ?_
    refine KO.pv (PV.assign rfl) rfl rfl ?_
    refine KO.nil ?_
    refine KC.seq ?_
    refine KC.region ?_
    refine KO.pv (PV.move rfl) rfl rfl ?_
    refine KO.pv (PV.move rfl) rfl rfl ?_
    refine KO.call rfl rfl rfl rfl (unit_state A1 a_v n_v c_v _ e4.1 e4.2.1 e4.2.2 _ (V.mem m2 h_v) (V.mem m2 hV4) (by assumption)) fun v5 H5 q5 => ?_
    obtain ⟨s5, lit5, hv5, mc5, p5_0, p5_1, p5_2⟩ := q5
    dsimp only at hv5 mc5
    subst hv5
    have m6 := m2.seq mc5
    refine KO.pv (PV.move rfl) rfl rfl ?_
    refine KO.pv (PV.extract rfl rfl) rfl rfl ?_
    refine KO.pv (PV.extract rfl rfl) rfl rfl ?_
    refine KO.pv (PV.assign rfl) rfl rfl ?_
    refine KO.pv (PV.assign rfl) rfl rfl ?_
    refine KO.nil ?_
    refine KC.seq ?_
    refine KC.seq ?_
    refine KC.region ?_
    refine KO.pv (PV.move rfl) rfl rfl ?_
    refine KO.pv (PV.eqlD rfl rfl rfl) rfl rfl ?_
    refine KO.nil ?_
    refine KC.condD rfl (fun h7 => ?_) (fun h7 => ?_)
    · refine KC.seq ?_
      refine KC.region ?_
      refine KO.pv (PV.move rfl) rfl rfl ?_
      refine KO.pv (PV.assign rfl) rfl rfl ?_
      refine KO.pv (PV.assign rfl) rfl rfl ?_
      refine KO.nil ?_
      exact KC.ret ⟨rfl, _, (.tmp rfl (.tmp rfl .nil)), x13, 0, rfl, m6.pick [] (by decide) rfl, (by first | omega | (intro h; omega) | (simp only [List.length_nil, true_and, and_true, or_true, true_or] <;> omega)), (by first | omega | (intro h; omega) | (simp only [List.length_nil, true_and, and_true, or_true, true_or] <;> omega) | exact hf)⟩
    · refine KC.skip ?_
      refine KC.seq ?_
      refine KC.region ?_
      refine KO.pv (PV.move rfl) rfl rfl ?_
      by_cases h8 : s5 = 3
      · refine KO.pv (PV.eqlD rfl rfl (decide_eq_true h8)) rfl rfl ?_
        refine KO.pv (PV.move rfl) rfl rfl ?_
        refine KO.pv (PV.move rfl) rfl rfl ?_
        refine KO.pv (PV.eqlD rfl rfl rfl) rfl rfl ?_
        refine KO.pv (PV.pickT rfl rfl rfl) rfl rfl ?_
        refine KO.nil ?_
        refine KC.condD rfl (fun h9 => ?_) (fun h9 => ?_)
        · refine KC.region ?_
          refine KO.pv (PV.move rfl) rfl rfl ?_
          refine KO.pv (PV.assign rfl) rfl rfl ?_
          refine KO.nil ?_
          refine KC.region ?_
          refine KO.pv (PV.add rfl rfl (wrap64 (by omega) (by omega))) rfl rfl ?_
          refine KO.pv (PV.move rfl) rfl rfl ?_
          refine KO.nil ?_
          exact ⟨_, _, (by omega), (.cons rfl (.cons rfl (.cons rfl (.cons rfl (.cons rfl .nil))))), lit5, (x13 + 1), rfl, rfl, (m6.pick [] (by decide) rfl), (by first | omega | assumption | (constructor <;> omega)), (by first | exact hf | exact .inr (p5_1 (by omega)))⟩
        · refine KC.skip ?_
          refine KC.region ?_
          refine KO.pv (PV.add rfl rfl (wrap64 (by omega) (by omega))) rfl rfl ?_
          refine KO.pv (PV.move rfl) rfl rfl ?_
          refine KO.nil ?_
          exact ⟨_, _, (by omega), (.cons rfl (.cons rfl (.cons rfl (.cons rfl (.cons rfl .nil))))), x6, (x13 + 1), rfl, rfl, (m6.pick [] (by decide) rfl), (by first | omega | assumption | (constructor <;> omega)), (by first | exact hf | exact .inr (p5_1 (by omega)))⟩
      · refine KO.pv (PV.eqlD rfl rfl (decide_eq_false h8)) rfl rfl ?_
        refine KO.pv (PV.move rfl) rfl rfl ?_
        refine KO.no rfl rfl rfl ?_
        refine KO.no rfl rfl rfl ?_
        refine KO.pv (PV.pickF rfl rfl rfl) rfl rfl ?_
        refine KO.nil ?_
        refine KC.condF rfl ?_
        refine KC.skip ?_
        refine KC.region ?_
        refine KO.pv (PV.add rfl rfl (wrap64 (by omega) (by omega))) rfl rfl ?_
        refine KO.pv (PV.move rfl) rfl rfl ?_
        refine KO.nil ?_
        exact ⟨_, _, (by omega), (.cons rfl (.cons rfl (.cons rfl (.cons rfl (.cons rfl .nil))))), x6, (x13 + 1), rfl, rfl, (m6.pick [] (by decide) rfl), (by first | omega | assumption | (constructor <;> omega)), (by first | exact hf | exact .inr (p5_1 (by omega)))⟩
  · refine KC.exit ?_
    refine KC.seq ?_
    refine KC.region ?_
    refine KO.pv (PV.move rfl) rfl rfl ?_
    refine KO.pv (PV.assign rfl) rfl rfl ?_
    refine KO.pv (PV.assign rfl) rfl rfl ?_
    refine KO.nil ?_
    exact KC.ret ⟨rfl, _, (.tmp rfl (.tmp rfl .nil)), (-1), x6, rfl, m2.pick [] (by decide) rfl, (by first | omega | (intro h; omega) | (simp only [List.length_nil, true_and, and_true, or_true, true_or] <;> omega)), (by first | omega | (intro h; omega) | (simp only [List.length_nil, true_and, and_true, or_true, true_or] <;> omega) | exact hf)⟩
theorem unit_State (H : AHeap) (av : Int) (a_aT : Option Addr) (n_aT c_aT : Nat) (aT : List Int) (a_aS : Option Addr) (n_aS c_aS : Nat) (aS : List Int) (a_c : Option Addr) (n_c c_c : Nat) (c : List Int) (w_av : IntKind.i64.wrap av = av) (h_aT : V (EI .i64) H a_aT n_aT c_aT aT) (h_aS : V (EI .i64) H a_aS n_aS c_aS aS) (h_c : V (EI .i64) H a_c n_c c_c c) : WF E0 12 [.agg #[.int .i64 av, .slice a_aT n_aT c_aT, .slice a_aS n_aS c_aS], .slice a_c n_c c_c] H fun q => ∃ (s : Int) (lit : Int) (e : Int), q.1 = .tuple #[.int .u8 s, .int .i64 lit, .int .i64 e] ∧ Mem [] H q.2 [] ∧ (0 ≤ s ∧ s ≤ 3) ∧ (e = 0 → AsgOK av aT aS ∧ ClOK av c) := by
  obtain ⟨lo_av, hi_av⟩ := rangei64 w_av
  obtain ⟨len_aT, cap_aT, max_aT, wf_aT⟩ := h_aT.len
  obtain ⟨len_aS, cap_aS, max_aS, wf_aS⟩ := h_aS.len
  obtain ⟨len_c, cap_c, max_c, wf_c⟩ := h_c.len
  have m0 : Mem [] H H [] := Mem.start
  refine WF.kg Tryz.func12 rfl rfl ?_
  refine KC.seq ?_
  refine KC.region ?_
  refine KO.boxM m0 rfl rfl (show _ = [.int .i64 av, .slice a_aT n_aT c_aT, .slice a_aS n_aS c_aS] from rfl) rfl rfl fun H1 m2 => ?_
  refine KO.pv (PV.assign rfl) rfl rfl ?_
  refine KO.pv (PV.assign rfl) rfl rfl ?_
  refine KO.pv (PV.assign rfl) rfl rfl ?_
  refine KO.nil ?_
  refine KC.seq ?_
  refine KC.seq ?_
  refine KC.region ?_
  refine KO.loadN ag24_B1 sz24_B1 rfl (m2.row (i := 0) rfl) (takeN_of (p := [.int .i64 av, .slice a_aT n_aT c_aT, .slice a_aS n_aS c_aS]) rfl rfl) rfl rfl ?_
  refine KO.call rfl rfl rfl rfl (asg_Check H1 av a_aT n_aT c_aT _ a_aS n_aS c_aS _ (wrap64 (by omega) (by omega)) (V.mem m2 h_aT) (V.mem m2 h_aS)) fun v3 H3 q3 => ?_
  obtain ⟨e3, hv3, mc3, p3_0, p3_1⟩ := q3
  dsimp only at hv3 mc3
  subst hv3
  have m4 := m2.seq mc3
  refine KO.pv (PV.assign rfl) rfl rfl ?_
  refine KO.nil ?_
  refine KC.seq ?_
  refine KC.region ?_
  refine KO.pv (PV.move rfl) rfl rfl ?_
  refine KO.pv (PV.neqD rfl rfl rfl) rfl rfl ?_
  refine KO.nil ?_
  refine KC.condD rfl (fun h5 => ?_) (fun h5 => ?_)
  · refine KC.seq ?_
    refine KC.region ?_
    refine KO.pv (PV.move rfl) rfl rfl ?_
    refine KO.pv (PV.assign rfl) rfl rfl ?_
    refine KO.pv (PV.assign rfl) rfl rfl ?_
    refine KO.pv (PV.assign rfl) rfl rfl ?_
    refine KO.nil ?_
    exact KC.ret ⟨rfl, _, (.tmp rfl (.tmp rfl (.tmp rfl .nil))), 0, 0, e3, rfl, m4.pick [] (by decide) rfl, (by first | omega | (intro h; omega) | (simp only [List.length_nil, true_and, and_true, or_true, true_or] <;> omega)), (by first | omega | (intro h; omega) | (simp only [List.length_nil, true_and, and_true, or_true, true_or] <;> omega) | (exact fun _ => ⟨by assumption, by assumption⟩))⟩
  · have p3_0t := p3_0 (by omega)
    obtain ⟨p3_0_v0, p3_0_v1, p3_0_t, p3_0_td, p3_0_s, p3_0_n, p3_0_m⟩ := id p3_0t
    refine KC.skip ?_
    refine KC.seq ?_
    refine KC.seq ?_
    refine KC.region ?_
    refine KO.pv (PV.fieldAddr fo24_0_B1 rfl) rfl rfl ?_
    refine KO.load1 ag3_B1 rfl (m4.row (i := 0) rfl) rfl rfl rfl ?_
    refine KO.pv (PV.move rfl) rfl rfl ?_
    refine KO.call rfl rfl rfl rfl (cl_Check H3 av a_c n_c c_c _ (wrap64 (by omega) (by omega)) (V.mem m4 h_c)) fun v6 H6 q6 => ?_
    obtain ⟨e6, hv6, mc6, p6_0, p6_1⟩ := q6
    dsimp only at hv6 mc6
    subst hv6
    have m7 := m4.seq mc6
    refine KO.pv (PV.assign rfl) rfl rfl ?_
    refine KO.nil ?_
    refine KC.seq ?_
    refine KC.region ?_
    refine KO.pv (PV.move rfl) rfl rfl ?_
    refine KO.pv (PV.neqD rfl rfl rfl) rfl rfl ?_
    refine KO.nil ?_
    refine KC.condD rfl (fun h8 => ?_) (fun h8 => ?_)
    · refine KC.seq ?_
      refine KC.region ?_
      refine KO.pv (PV.move rfl) rfl rfl ?_
      refine KO.pv (PV.assign rfl) rfl rfl ?_
      refine KO.pv (PV.assign rfl) rfl rfl ?_
      refine KO.pv (PV.assign rfl) rfl rfl ?_
      refine KO.nil ?_
      exact KC.ret ⟨rfl, _, (.tmp rfl (.tmp rfl (.tmp rfl .nil))), 0, 0, e6, rfl, m7.pick [] (by decide) rfl, (by first | omega | (intro h; omega) | (simp only [List.length_nil, true_and, and_true, or_true, true_or] <;> omega)), (by first | omega | (intro h; omega) | (simp only [List.length_nil, true_and, and_true, or_true, true_or] <;> omega) | (exact fun _ => ⟨by assumption, by assumption⟩))⟩
    · have p6_0t := p6_0 (by omega)
      obtain ⟨p6_0_v0, p6_0_v1, p6_0_l, p6_0_lt, p6_0_n⟩ := id p6_0t
      refine KC.skip ?_
      refine KC.seq ?_
      refine KC.region ?_
      refine KO.loadN ag24_B1 sz24_B1 rfl (m7.row (i := 0) rfl) (takeN_of (p := [.int .i64 av, .slice a_aT n_aT c_aT, .slice a_aS n_aS c_aS]) rfl rfl) rfl rfl ?_
      refine KO.call rfl rfl rfl rfl (unit_values H6 av a_aT n_aT c_aT _ a_aS n_aS c_aS _ (wrap64 (by omega) (by omega)) (V.mem m7 h_aT) (V.mem m7 h_aS) (by assumption)) fun v9 H9 q9 => ?_
      obtain ⟨b9, n9, xs9, hv9, mc9, p9_0, p9_1, p9_2⟩ := q9
      dsimp only at hv9 mc9
      subst hv9
      have m10 := m7.seq mc9
      refine KO.pv (PV.move rfl) rfl rfl ?_
      refine KO.call rfl rfl rfl rfl (unit_state H9 (some ⟨b9, 0, none⟩) n9 n9 _ a_c n_c c_c _ (m10.vrow (i := 0) rfl (by assumption) (by first | omega | (simp only [splice, List.length_append, List.length_set, List.length_replicate, List.length_map, List.length_take, List.length_drop, List.length_cons, List.length_nil] <;> omega)) (by omega) (by omega)) (V.mem m10 h_c) (fun u hu => by have := p6_0_l u hu; omega)) fun v11 H11 q11 => ?_
      obtain ⟨s11, lit11, hv11, mc11, p11_0, p11_1, p11_2⟩ := q11
      dsimp only at hv11 mc11
      subst hv11
      have m12 := m10.seq mc11
      refine KO.pv (PV.move rfl) rfl rfl ?_
      refine KO.pv (PV.extract rfl rfl) rfl rfl ?_
      refine KO.pv (PV.extract rfl rfl) rfl rfl ?_
      refine KO.pv (PV.assign rfl) rfl rfl ?_
      refine KO.pv (PV.assign rfl) rfl rfl ?_
      refine KO.nil ?_
      refine KC.seq ?_
      refine KC.region ?_
      refine KO.pv (PV.move rfl) rfl rfl ?_
      refine KO.pv (PV.move rfl) rfl rfl ?_
      refine KO.pv (PV.assign rfl) rfl rfl ?_
      refine KO.pv (PV.assign rfl) rfl rfl ?_
      refine KO.pv (PV.assign rfl) rfl rfl ?_
      refine KO.nil ?_
      exact KC.ret ⟨rfl, _, (.tmp rfl (.tmp rfl (.tmp rfl .nil))), s11, lit11, 0, rfl, m12.pick [] (by decide) rfl, (by first | omega | (intro h; omega) | (simp only [List.length_nil, true_and, and_true, or_true, true_or] <;> omega)), (by first | omega | (intro h; omega) | (simp only [List.length_nil, true_and, and_true, or_true, true_or] <;> omega) | (exact fun _ => ⟨by assumption, by assumption⟩))⟩
theorem unit_Run (H : AHeap) (av : Int) (a_aT : Option Addr) (n_aT c_aT : Nat) (aT : List Int) (a_aS : Option Addr) (n_aS c_aS : Nat) (aS : List Int) (a_l : Option Addr) (n_l c_l : Nat) (v_l : List (Option Addr × Nat × Nat)) (l : List (List Int)) (w_av : IntKind.i64.wrap av = av) (h_aT : V (EI .i64) H a_aT n_aT c_aT aT) (h_aS : V (EI .i64) H a_aS n_aS c_aS aS) (h_l : V ES H a_l n_l c_l v_l) (i_l : VV (EI .i64) H v_l l) : WF E0 14 [.agg #[.int .i64 av, .slice a_aT n_aT c_aT, .slice a_aS n_aS c_aS], .slice a_l n_l c_l] H fun q => ∃ (rv : Int) (a1 : Option Addr) (n1 : Nat) (x1 : List Int) (D1 : List Nat) (a2 : Option Addr) (n2 : Nat) (x2 : List Int) (D2 : List Nat) (ix : Int) (e : Int), q.1 = .tuple #[.agg #[.int .i64 rv, .slice a1 n1 n1, .slice a2 n2 n2], .int .i64 ix, .int .i64 e] ∧ Mem [] H q.2 [R.lst 3 1 a1 n1 (cells (EI .i64) x1) D1, R.lst 3 1 a2 n2 (cells (EI .i64) x2) D2] ∧ (0 ≤ rv ∧ rv ≤ 4000 ∧ n1 ≤ 13000 ∧ n2 ≤ 13000 ∧ x1.length = n1 ∧ x2.length = n2 ∧ -1 ≤ ix ∧ (ix < n_l ∨ ix = 0)) ∧ (∀ u ∈ x1, (EI .i64).wf u) ∧ (∀ u ∈ x2, (EI .i64).wf u) ∧ (e = 0 → AsgOK av aT aS ∧ rv = av ∧ x2 = aS ∧ n_aT ≤ n1 ∧ (∀ u ∈ x1, 2 ≤ u ∧ u / 2 ≤ av) ∧ ix < n_l ∧ ∀ c ∈ l, ClOK av c) := by
  obtain ⟨lo_av, hi_av⟩ := rangei64 w_av
  obtain ⟨len_aT, cap_aT, max_aT, wf_aT⟩ := h_aT.len
  obtain ⟨len_aS, cap_aS, max_aS, wf_aS⟩ := h_aS.len
  obtain ⟨len_l, cap_l, max_l, wf_l⟩ := h_l.len
  have len2_l := i_l.1
  have len3_l : l.length = n_l := by omega
  have m0 : Mem [] H H [] := Mem.start
  refine WF.kg Tryz.func14 rfl rfl ?_
  refine KC.seq ?_
  refine KC.region ?_
  refine KO.boxM m0 rfl rfl (show _ = [.int .i64 av, .slice a_aT n_aT c_aT, .slice a_aS n_aS c_aS] from rfl) rfl rfl fun H1 m2 => ?_
  refine KO.allocM m2 zt24_B1 rfl rfl fun H3 m4 => ?_
  refine KO.pv (PV.assign rfl) rfl rfl ?_
  refine KO.pv (PV.assign rfl) rfl rfl ?_
  refine KO.nil ?_
  refine KC.seq ?_
  refine KC.seq ?_
  refine KC.region ?_
  refine KO.loadN ag24_B1 sz24_B1 rfl (m4.row (i := 1) rfl) (takeN_of (p := [.int .i64 av, .slice a_aT n_aT c_aT, .slice a_aS n_aS c_aS]) rfl rfl) rfl rfl ?_
  refine KO.call rfl rfl rfl rfl (asg_Check H3 av a_aT n_aT c_aT _ a_aS n_aS c_aS _ (wrap64 (by omega) (by omega)) (V.mem m4 h_aT) (V.mem m4 h_aS)) fun v5 H5 q5 => ?_
  obtain ⟨e5, hv5, mc5, p5_0, p5_1⟩ := q5
  dsimp only at hv5 mc5
  subst hv5
  have m6 := m4.seq mc5
  refine KO.pv (PV.assign rfl) rfl rfl ?_
  refine KO.nil ?_
  refine KC.seq ?_
  refine KC.region ?_
  refine KO.pv (PV.move rfl) rfl rfl ?_
  refine KO.pv (PV.neqD rfl rfl rfl) rfl rfl ?_
  refine KO.nil ?_
  refine KC.condD rfl (fun h7 => ?_) (fun h7 => ?_)
  · refine KC.seq ?_
    refine KC.region ?_
    refine KO.pv (PV.build rfl bl24__B1) rfl rfl ?_
    refine KO.pv (PV.move rfl) rfl rfl ?_
    refine KO.storeM m6 (i := 0) rfl sz24_B1 rfl rfl rfl (show 0 + 3 ≤ 3 by decide) (show _ = [.int .i64 0, .slice none 0 0, .slice none 0 0] from rfl) rfl fun H8 m9 => ?_
    refine KO.pv (PV.assign rfl) rfl rfl ?_
    refine KO.pv (PV.assign rfl) rfl rfl ?_
    refine KO.nil ?_
    have m10 := m9.lnilC (EI .i64) (e := 3) none rfl
    have m11 := m10.lnilC (EI .i64) (e := 3) none rfl
    exact KC.ret ⟨rfl, _, (.cell rfl (ldN (m9.row (i := 0) rfl) ag24_B1 sz24_B1 rfl rfl) (.tmp rfl (.tmp rfl .nil))), 0, none, 0, [], [], none, 0, [], [], 0, e5, rfl, m11.pick [1, 0] (by decide) rfl, (by first | omega | (intro h; omega) | (simp only [List.length_nil, true_and, and_true, or_true, true_or] <;> omega)), (by first | omega | (intro h; omega) | (simp only [List.length_nil, true_and, and_true, or_true, true_or] <;> omega) | assumption | exact all_nil), (by first | omega | (intro h; omega) | (simp only [List.length_nil, true_and, and_true, or_true, true_or] <;> omega) | assumption | exact all_nil), (by first | omega | (intro h; omega) | (simp only [List.length_nil, true_and, and_true, or_true, true_or] <;> omega) | (exact fun _ => ⟨by assumption, rfl, by assumption, by omega, by assumption, by omega, hcl⟩))⟩
  · have p5_0t := p5_0 (by omega)
    obtain ⟨p5_0_v0, p5_0_v1, p5_0_t, p5_0_td, p5_0_s, p5_0_n, p5_0_m⟩ := id p5_0t
    refine KC.skip ?_
    refine KC.seq ?_
    refine KC.seq ?_
    refine KC.region ?_
    refine KO.pv (PV.move rfl) rfl rfl ?_
    refine KO.pv (PV.len un25_B1 rfl) rfl rfl ?_
    refine KO.pv (PV.gtrD rfl rfl rfl) rfl rfl ?_
    refine KO.nil ?_
    refine KC.condD rfl (fun h12 => ?_) (fun h12 => ?_)
    · refine KC.seq ?_
      refine KC.region ?_
      refine KO.pv (PV.build rfl bl24__B1) rfl rfl ?_
      refine KO.storeM m6 (i := 0) rfl sz24_B1 rfl rfl rfl (show 0 + 3 ≤ 3 by decide) (show _ = [.int .i64 0, .slice none 0 0, .slice none 0 0] from rfl) rfl fun H13 m14 => ?_
      refine KO.pv (PV.assign rfl) rfl rfl ?_
      refine KO.pv (PV.assign rfl) rfl rfl ?_
      refine KO.nil ?_
      have m15 := m14.lnilC (EI .i64) (e := 3) none rfl
      have m16 := m15.lnilC (EI .i64) (e := 3) none rfl
      exact KC.ret ⟨rfl, _, (.cell rfl (ldN (m14.row (i := 0) rfl) ag24_B1 sz24_B1 rfl rfl) (.tmp rfl (.tmp rfl .nil))), 0, none, 0, [], [], none, 0, [], [], 0, 4, rfl, m16.pick [1, 0] (by decide) rfl, (by first | omega | (intro h; omega) | (simp only [List.length_nil, true_and, and_true, or_true, true_or] <;> omega)), (by first | omega | (intro h; omega) | (simp only [List.length_nil, true_and, and_true, or_true, true_or] <;> omega) | assumption | exact all_nil), (by first | omega | (intro h; omega) | (simp only [List.length_nil, true_and, and_true, or_true, true_or] <;> omega) | assumption | exact all_nil), (by first | omega | (intro h; omega) | (simp only [List.length_nil, true_and, and_true, or_true, true_or] <;> omega) | (exact fun _ => ⟨by assumption, rfl, by assumption, by omega, by assumption, by omega, hcl⟩))⟩
    · refine KC.skip ?_
      refine KC.seq ?_
      refine KC.seq ?_
      refine KC.region ?_
      refine KO.pv (PV.move rfl) rfl rfl ?_
      refine KO.pv (PV.len un25_B1 rfl) rfl rfl ?_
      refine KO.pv (PV.move rfl) rfl rfl ?_
      refine KO.nil ?_
      refine KC.block ?_
      refine KC.sub (l' := [(1, .slice a_l n_l c_l), (2, .pointer (some ⟨H.next, 0, none⟩)), (4, .pointer (some ⟨H1.next, 0, none⟩)), (25, .slice a_l n_l c_l), (26, .int .i64 (n_l : Int)), (27, .int .i64 0)]) (.cons rfl (.cons rfl (.cons rfl (.cons rfl (.cons rfl (.cons rfl .nil)))))) ?_
      refine KC.loopN (fun kq lq A => ∃ (x27 : Int), kq = ((n_l : Int) - x27).toNat ∧ lq = [(1, .slice a_l n_l c_l), (2, .pointer (some ⟨H.next, 0, none⟩)), (4, .pointer (some ⟨H1.next, 0, none⟩)), (25, .slice a_l n_l c_l), (26, .int .i64 (n_l : Int)), (27, .int .i64 x27)] ∧ Mem [] H A [R.row H1.next 24 true [.int .i64 0, .slice none 0 0, .slice none 0 0], R.row H.next 24 true [.int .i64 av, .slice a_aT n_aT c_aT, .slice a_aS n_aS c_aS]] ∧ (0 ≤ x27 ∧ x27 ≤ (n_l : Int)) ∧ (Ahead l x27 fun _ c => ClOK av c)) ?_ (((n_l : Int) - 0).toNat) ⟨0, rfl, rfl, (m6.pick [0, 1] (by decide) rfl), (by first | omega | assumption | (constructor <;> omega)), Ahead.zero⟩
      rintro kq lq A17 ⟨x27, rfl, rfl, m18, hr7, hpre⟩
      refine KC.seq ?_
      refine KC.region ?_
      refine KO.pv (PV.lssD rfl rfl rfl) rfl rfl ?_
      refine KO.nil ?_
      refine KC.seq ?_
      refine KC.condD rfl (fun h19 => ?_) (fun h19 => ?_)
      · refine KC.skip ?_
        refine KC.seq ?_
        refine KC.block ?_
        refine KC.seq ?_
        refine KC.region ?_
        obtain ⟨b20, o20, p20, r20, e20, ha20, hb20, hr20, hx20, hw20, hc20, ht20⟩ := V.at_ h_l (z := x27) (by omega) (by omega)
        have hc20_0 : r20.cs[o20 + (x27).toNat * 1 + 0]? = some (.slice e20.1 e20.2.1 e20.2.2) := hc20 0 (by decide)
        obtain ⟨xs20, hxs20, hV20⟩ := VV.at_ i_l hx20
        obtain ⟨len20, cap20, max20, wf20⟩ := hV20.len
        refine KO.pv (PV.indexAddrZ un25_B1 sz22_B1 rfl ha20 rfl (by omega) (by omega)) rfl rfl ?_
        refine KO.load1 ag22_B1 rfl (m18.row0 hb20 hr20) hc20_0 rfl rfl ?_
        refine KO.pv (PV.assign rfl) rfl rfl ?_
        refine KO.nil ?_
        refine KC.seq ?_
        refine KC.region ?_
        refine KO.pv (PV.fieldAddr fo24_0_B1 rfl) rfl rfl ?_
        refine KO.load1 ag3_B1 rfl (m18.row (i := 1) rfl) rfl rfl rfl ?_
        refine KO.pv (PV.move rfl) rfl rfl ?_
        refine KO.call rfl rfl rfl rfl (cl_Check A17 av e20.1 e20.2.1 e20.2.2 _ (wrap64 (by omega) (by omega)) (V.mem m18 hV20)) fun v21 H21 q21 => ?_
        obtain ⟨e21, hv21, mc21, p21_0, p21_1⟩ := q21
        dsimp only at hv21 mc21
        subst hv21
        have m22 := m18.seq mc21
        refine KO.pv (PV.assign rfl) rfl rfl ?_
        refine KO.nil ?_
        refine KC.seq ?_
        refine KC.region ?_
        refine KO.pv (PV.move rfl) rfl rfl ?_
        refine KO.pv (PV.neqD rfl rfl rfl) rfl rfl ?_
        refine KO.nil ?_
        refine KC.condD rfl (fun h23 => ?_) (fun h23 => ?_)
        · refine KC.seq ?_
          refine KC.region ?_
          refine KO.pv (PV.build rfl bl24__B1) rfl rfl ?_
          refine KO.pv (PV.move rfl) rfl rfl ?_
          refine KO.storeM m22 (i := 0) rfl sz24_B1 rfl rfl rfl (show 0 + 3 ≤ 3 by decide) (show _ = [.int .i64 0, .slice none 0 0, .slice none 0 0] from rfl) rfl fun H24 m25 => ?_
          refine KO.pv (PV.assign rfl) rfl rfl ?_
          refine KO.pv (PV.assign rfl) rfl rfl ?_
          refine KO.nil ?_
          have m26 := m25.lnilC (EI .i64) (e := 3) none rfl
          have m27 := m26.lnilC (EI .i64) (e := 3) none rfl
          exact KC.ret ⟨rfl, _, (.cell rfl (ldN (m25.row (i := 0) rfl) ag24_B1 sz24_B1 rfl rfl) (.tmp rfl (.tmp rfl .nil))), 0, none, 0, [], [], none, 0, [], [], 0, e21, rfl, m27.pick [1, 0] (by decide) rfl, (by first | omega | (intro h; omega) | (simp only [List.length_nil, true_and, and_true, or_true, true_or] <;> omega)), (by first | omega | (intro h; omega) | (simp only [List.length_nil, true_and, and_true, or_true, true_or] <;> omega) | assumption | exact all_nil), (by first | omega | (intro h; omega) | (simp only [List.length_nil, true_and, and_true, or_true, true_or] <;> omega) | assumption | exact all_nil), (by first | omega | (intro h; omega) | (simp only [List.length_nil, true_and, and_true, or_true, true_or] <;> omega) | (exact fun _ => ⟨by assumption, rfl, by assumption, by omega, by assumption, by omega, hcl⟩))⟩
        · have p21_0t := p21_0 (by omega)
          obtain ⟨p21_0_v0, p21_0_v1, p21_0_l, p21_0_lt, p21_0_n⟩ := id p21_0t
          refine KC.skip ?_
          refine KC.region ?_
          refine KO.pv (PV.add rfl rfl (wrap64 (by omega) (by omega))) rfl rfl ?_
          refine KO.pv (PV.move rfl) rfl rfl ?_
          refine KO.nil ?_
          exact ⟨_, _, (by omega), (.cons rfl (.cons rfl (.cons rfl (.cons rfl (.cons rfl (.cons rfl .nil)))))), (x27 + 1), rfl, rfl, (m22.pick [0, 1] (by decide) rfl), (by first | omega | assumption | (constructor <;> omega)), (hpre.step hxs20 (by omega) (by assumption))⟩
      · refine KC.exit ?_
        have hcl := hpre.mem len3_l (by omega)
        have hcl2 : ∀ c ∈ l, ∀ u ∈ c, 2 ≤ u ∧ u < 2 * av + 2 := fun c hc u hu => by have := (hcl c hc).l u hu; omega
        refine KC.seq ?_
        refine KC.drawG (n := 11) (anc := [0, 1, 0, 4, 12, 0, 32, 124, 255, 0, 1023]) (hv := [4, 7, 10]) (ord := [2, 3, 4, 5, 6, 7, 0, 1, 8, 9, 10]) (by kernel_rfl) (by kernel_rfl) (by kernel_rfl) (by kernel_rfl) (by kernel_rfl) fun H28 n29 g30 => ?_
        have m31 := m18.room n29 g30 [9] (by decide) (by decide)
        refine KD.pv 4 (PV.fieldAddr fo24_1_B1 rfl) rfl rfl rfl (by kernel_rfl) rfl rfl rfl ?_
        refine KD.load 12 rfl (m31.row (i := 2) rfl) (by rw [read1 ag22_B1]; exact rfl) (pastGo (k := 1) (l := [H28]) (by kernel_rfl) rfl (pastCons ⟨_, (m31.row (i := 2) rfl), (by rw [read1 ag22_B1]; exact rfl)⟩ pastNil)) veq_sl rfl (by kernel_rfl) rfl rfl rfl ?_
        refine KD.call 28 rfl rfl rfl (by kernel_rfl) rfl rfl rfl (Clone_int H28 a_aT n_aT c_aT _ (V.mem m31 h_aT) (by first | omega | assumption)) fun v32 H32 q32 => ?_
        obtain ⟨a32, n32, xs32, D32, hv32, mc32, p32_0, p32_1, p32_2, p32_3⟩ := q32
        dsimp only at hv32 mc32
        subst hv32
        have m33 := m31.seq mc32
        refine KD.pv 60 (PV.fieldAddr fo24_2_B1 rfl) rfl rfl rfl (by kernel_rfl) rfl rfl rfl ?_
        refine KD.load 124 rfl (m33.row (i := 3) rfl) (by rw [read1 ag22_B1]; exact rfl) (pastGo (k := 2) (l := [H32, H28]) (by kernel_rfl) rfl (pastCons ⟨_, (m33.row (i := 3) rfl), (by rw [read1 ag22_B1]; exact rfl)⟩ (pastCons ⟨_, (m31.row (i := 2) rfl), (by rw [read1 ag22_B1]; exact rfl)⟩ pastNil))) veq_sl rfl (by kernel_rfl) rfl rfl rfl ?_
        refine KD.call 252 rfl rfl rfl (by kernel_rfl) rfl rfl rfl (Clone_int H32 a_aS n_aS c_aS _ (V.mem m33 h_aS) (by first | omega | assumption)) fun v34 H34 q34 => ?_
        obtain ⟨a34, n34, xs34, D34, hv34, mc34, p34_0, p34_1, p34_2, p34_3⟩ := q34
        dsimp only at hv34 mc34
        subst hv34
        have m35 := m33.seq mc34
        refine KD.pv 253 (PV.fieldAddr fo24_0_B1 rfl) rfl rfl rfl (by kernel_rfl) rfl rfl rfl ?_
        refine KD.load 255 rfl (m35.row (i := 4) rfl) (by rw [read1 ag3_B1]; exact rfl) (pastGo (k := 3) (l := [H34, H32, H28]) (by kernel_rfl) rfl (pastCons ⟨_, (m35.row (i := 4) rfl), (by rw [read1 ag3_B1]; exact rfl)⟩ (pastCons ⟨_, (m33.row (i := 3) rfl), (by rw [read1 ag3_B1]; exact rfl)⟩ (pastCons ⟨_, (m31.row (i := 2) rfl), (by rw [read1 ag3_B1]; exact rfl)⟩ pastNil)))) veq_int rfl (by kernel_rfl) rfl rfl rfl ?_
        refine KD.pv 511 (PV.build rfl (bl24_0i64_1s_2s_B1 _ _ _ _ _ _ _)) rfl rfl rfl (by kernel_rfl) rfl rfl rfl ?_
        refine KD.allocM 1023 m35 (j := 2) rfl zt24_B1 rfl (by kernel_rfl) rfl rfl rfl fun H36 m37 => ?_
        refine KD.storeM 2047 m37 (j := 2) rfl sz24_B1 rfl rfl rfl (show 0 + 3 ≤ 3 by decide) (show _ = [.int .i64 av, .slice a32 n32 n32, .slice a34 n34 n34] from rfl) rfl (by kernel_rfl) rfl rfl fun H38 m39 => ?_
        refine KD.nil ⟨rfl, ?_⟩
        refine KC.seq ?_
        refine KC.region ?_
        refine KO.loadN ag24_B1 sz24_B1 rfl (m39.row (i := 4) rfl) (takeN_of (p := [.int .i64 av, .slice a_aT n_aT c_aT, .slice a_aS n_aS c_aS]) rfl rfl) rfl rfl ?_
        refine KO.call rfl rfl rfl rfl (unit_values H38 av a_aT n_aT c_aT _ a_aS n_aS c_aS _ (wrap64 (by omega) (by omega)) (V.mem m39 h_aT) (V.mem m39 h_aS) (by assumption)) fun v40 H40 q40 => ?_
        obtain ⟨b40, n40, xs40, hv40, mc40, p40_0, p40_1, p40_2⟩ := q40
        dsimp only at hv40 mc40
        subst hv40
        have m41 := m39.seq mc40
        refine KO.pv (PV.assign rfl) rfl rfl ?_
        refine KO.nil ?_
        refine KC.block ?_
        refine KC.sub (l' := [(1, .slice a_l n_l c_l), (4, .pointer (some ⟨H1.next, 0, none⟩)), (11, .pointer (some ⟨(A17.next + 9), 0, none⟩)), (12, .slice (some ⟨b40, 0, none⟩) n40 n40)]) (.cons rfl (.cons rfl (.cons rfl (.cons rfl .nil)))) ?_
        refine KC.loopN (fun kq lq A => ∃ (l12 : List Int) (a_c11_1 : Option Addr) (n_c11_1 : Nat) (l_c11_1 : List Int) (D_c11_1 : List Nat), kq = l12.count 2 ∧ lq = [(1, .slice a_l n_l c_l), (4, .pointer (some ⟨H1.next, 0, none⟩)), (11, .pointer (some ⟨(A17.next + 9), 0, none⟩)), (12, .slice (some ⟨b40, 0, none⟩) n40 n40)] ∧ Mem [] H A [R.row b40 5 true (cells (EI .u8) l12), R.lst 3 1 a34 n34 (cells (EI .i64) xs34) D34, R.lst 3 1 a_c11_1 n_c11_1 (cells (EI .i64) l_c11_1) D_c11_1, R.row (A17.next + 9) 24 true [.int .i64 av, .slice a_c11_1 n_c11_1 n_c11_1, .slice a34 n34 n34], R.row H1.next 24 true [.int .i64 0, .slice none 0 0, .slice none 0 0]] ∧ ((n_c11_1 : Int) + l12.count 2 ≤ n_aT + 2 * av + 2) ∧ (n_aT ≤ n_c11_1) ∧ (l12.length = n40) ∧ (∀ u ∈ l12, (EI .u8).wf u) ∧ (l_c11_1.length = n_c11_1) ∧ (∀ u ∈ l_c11_1, (EI .i64).wf u) ∧ (∀ u ∈ l_c11_1, 2 ≤ u ∧ u / 2 ≤ av)) ?_ (xs40.count 2) ⟨xs40, a32, n32, xs32, D32, rfl, rfl, (m41.pick [0, 1, 2, 3, 4] (by decide) rfl), (by have := List.count_le_length (a := 2) (l := xs40); omega), (by first | omega | (simp only [splice, List.length_append, List.length_set, List.length_replicate, List.length_map, List.length_take, List.length_drop, List.length_cons, List.length_nil] <;> omega)), (by first | omega | (simp only [splice, List.length_append, List.length_set, List.length_replicate, List.length_map, List.length_take, List.length_drop, List.length_cons, List.length_nil] <;> omega)), (by assumption), (by first | omega | (simp only [splice, List.length_append, List.length_set, List.length_replicate, List.length_map, List.length_take, List.length_drop, List.length_cons, List.length_nil] <;> omega)), (by assumption), (by rw [p32_0]; exact p5_0_t)⟩
        rintro kq lq A42 ⟨l12, a_c11_1, n_c11_1, l_c11_1, D_c11_1, rfl, rfl, m43, hnt, hna, hl_l12, hw_l12, hl_l_c11_1, hw_l_c11_1, hlit⟩
        refine KC.block ?_
        refine KC.seq ?_
        refine KC.region ?_
        refine KO.pv (PV.move rfl) rfl rfl ?_
        refine KO.pv (PV.move rfl) rfl rfl ?_
        refine KO.call rfl rfl rfl rfl (unit_next A42 (some ⟨b40, 0, none⟩) n40 n40 _ a_l n_l c_l _ _ (m43.vrow (i := 0) rfl hw_l12 (by first | omega | (simp only [splice, List.length_append, List.length_set, List.length_replicate, List.length_map, List.length_take, List.length_drop, List.length_cons, List.length_nil] <;> omega)) (by omega) (by omega)) (V.mem m43 h_l) (VV.mem m43 i_l) (fun c hc u hu => by have := hcl2 c hc u hu; omega)) fun v44 H44 q44 => ?_
        obtain ⟨ix44, lit44, hv44, mc44, p44_0, p44_1⟩ := q44
        dsimp only at hv44 mc44
        subst hv44
        have m45 := m43.seq mc44
        refine KO.pv (PV.move rfl) rfl rfl ?_
        refine KO.pv (PV.extract rfl rfl) rfl rfl ?_
        refine KO.pv (PV.extract rfl rfl) rfl rfl ?_
        refine KO.pv (PV.assign rfl) rfl rfl ?_
        refine KO.pv (PV.assign rfl) rfl rfl ?_
        refine KO.nil ?_
        refine KC.seq ?_
        refine KC.seq ?_
        refine KC.region ?_
        refine KO.pv (PV.move rfl) rfl rfl ?_
        by_cases h46 : 0 ≤ ix44
        · refine KO.pv (PV.geqD rfl rfl (decide_eq_true h46)) rfl rfl ?_
          refine KO.pv (PV.move rfl) rfl rfl ?_
          refine KO.no rfl rfl rfl ?_
          refine KO.no rfl rfl rfl ?_
          refine KO.pv (PV.pickT rfl rfl rfl) rfl rfl ?_
          refine KO.nil ?_
          refine KC.condT rfl ?_
          refine KC.seq ?_
          refine KC.region ?_
          refine KO.loadN ag24_B1 sz24_B1 rfl (m45.row (i := 3) rfl) (takeN_of (p := [.int .i64 av, .slice a_c11_1 n_c11_1 n_c11_1, .slice a34 n34 n34]) rfl rfl) rfl rfl ?_
          refine KO.pv (PV.move rfl) rfl rfl ?_
          refine KO.storeM m45 (i := 4) rfl sz24_B1 rfl rfl rfl (show 0 + 3 ≤ 3 by decide) (show _ = [.int .i64 av, .slice a_c11_1 n_c11_1 n_c11_1, .slice a34 n34 n34] from rfl) rfl fun H47 m48 => ?_
          refine KO.pv (PV.assign rfl) rfl rfl ?_
          refine KO.pv (PV.assign rfl) rfl rfl ?_
          refine KO.nil ?_
          exact KC.ret ⟨rfl, _, (.cell rfl (ldN (m48.row (i := 4) rfl) ag24_B1 sz24_B1 rfl rfl) (.tmp rfl (.tmp rfl .nil))), av, a_c11_1, n_c11_1, l_c11_1, D_c11_1, a34, n34, xs34, D34, ix44, 0, rfl, m48.pick [2, 1] (by decide) rfl, (by first | omega | (intro h; omega) | (simp only [List.length_nil, true_and, and_true, or_true, true_or] <;> omega)), (by first | omega | (intro h; omega) | (simp only [List.length_nil, true_and, and_true, or_true, true_or] <;> omega) | assumption | exact all_nil), (by first | omega | (intro h; omega) | (simp only [List.length_nil, true_and, and_true, or_true, true_or] <;> omega) | assumption | exact all_nil), (by first | omega | (intro h; omega) | (simp only [List.length_nil, true_and, and_true, or_true, true_or] <;> omega) | (exact fun _ => ⟨by assumption, rfl, by assumption, by omega, by assumption, by omega, hcl⟩))⟩
        · refine KO.pv (PV.geqD rfl rfl (decide_eq_false h46)) rfl rfl ?_
          refine KO.pv (PV.move rfl) rfl rfl ?_
          refine KO.pv (PV.move rfl) rfl rfl ?_
          refine KO.pv (PV.eqlD rfl rfl rfl) rfl rfl ?_
          refine KO.pv (PV.pickF rfl rfl rfl) rfl rfl ?_
          refine KO.nil ?_
          refine KC.condD rfl (fun h49 => ?_) (fun h49 => ?_)
          · refine KC.seq ?_
            refine KC.region ?_
            refine KO.loadN ag24_B1 sz24_B1 rfl (m45.row (i := 3) rfl) (takeN_of (p := [.int .i64 av, .slice a_c11_1 n_c11_1 n_c11_1, .slice a34 n34 n34]) rfl rfl) rfl rfl ?_
            refine KO.pv (PV.move rfl) rfl rfl ?_
            refine KO.storeM m45 (i := 4) rfl sz24_B1 rfl rfl rfl (show 0 + 3 ≤ 3 by decide) (show _ = [.int .i64 av, .slice a_c11_1 n_c11_1 n_c11_1, .slice a34 n34 n34] from rfl) rfl fun H50 m51 => ?_
            refine KO.pv (PV.assign rfl) rfl rfl ?_
            refine KO.pv (PV.assign rfl) rfl rfl ?_
            refine KO.nil ?_
            exact KC.ret ⟨rfl, _, (.cell rfl (ldN (m51.row (i := 4) rfl) ag24_B1 sz24_B1 rfl rfl) (.tmp rfl (.tmp rfl .nil))), av, a_c11_1, n_c11_1, l_c11_1, D_c11_1, a34, n34, xs34, D34, ix44, 0, rfl, m51.pick [2, 1] (by decide) rfl, (by first | omega | (intro h; omega) | (simp only [List.length_nil, true_and, and_true, or_true, true_or] <;> omega)), (by first | omega | (intro h; omega) | (simp only [List.length_nil, true_and, and_true, or_true, true_or] <;> omega) | assumption | exact all_nil), (by first | omega | (intro h; omega) | (simp only [List.length_nil, true_and, and_true, or_true, true_or] <;> omega) | assumption | exact all_nil), (by first | omega | (intro h; omega) | (simp only [List.length_nil, true_and, and_true, or_true, true_or] <;> omega) | (exact fun _ => ⟨by assumption, rfl, by assumption, by omega, by assumption, by omega, hcl⟩))⟩
          · refine KC.skip ?_
            refine KC.seq ?_
            refine KC.region ?_
            refine KO.pv (PV.move rfl) rfl rfl ?_
            refine KO.pv (PV.move rfl) rfl rfl ?_
            refine KO.pv (PV.move rfl) rfl rfl ?_
            refine KO.pv (PV.move rfl) rfl rfl ?_
            obtain ⟨x52, dx52, rx52, zx52, qx52⟩ := xor1 (lit44) (by omega) (by omega)
            refine KO.pv (PV.xor1 rfl rfl qx52) rfl rfl ?_
            obtain ⟨hv1, hv2, hv3⟩ := p44_1.resolve_left (by omega)
            refine KO.pv (PV.indexAddrZ un129_B1 sz5_B1 rfl rfl rfl (by omega) (by omega)) rfl rfl ?_
            refine KO.storeM m45 (i := 0) rfl sz5_B1 rfl rfl rfl (cells_room (C := (EI .u8)) (xs := l12) (i := (lit44).toNat) (by first | omega | (simp only [splice, List.length_append, List.length_set, List.length_replicate, List.length_map, List.length_take, List.length_drop, List.length_cons, List.length_nil] <;> omega)) rfl) (cells_put0 (C := (EI .u8)) (xs := l12) (i := (lit44).toNat) 1 (by first | omega | (simp only [splice, List.length_append, List.length_set, List.length_replicate, List.length_map, List.length_take, List.length_drop, List.length_cons, List.length_nil] <;> omega))) rfl fun H54 m55 => ?_
            refine KO.pv (PV.indexAddrZ un129_B1 sz5_B1 rfl rfl rfl (by omega) (by omega)) rfl rfl ?_
            refine KO.storeM m55 (i := 0) rfl sz5_B1 rfl rfl rfl (cells_room (C := (EI .u8)) (xs := (l12.set ((lit44).toNat) 1)) (i := (x52).toNat) (by first | omega | (simp only [splice, List.length_append, List.length_set, List.length_replicate, List.length_map, List.length_take, List.length_drop, List.length_cons, List.length_nil] <;> omega)) rfl) (cells_put0 (C := (EI .u8)) (xs := (l12.set ((lit44).toNat) 1)) (i := (x52).toNat) 0 (by first | omega | (simp only [splice, List.length_append, List.length_set, List.length_replicate, List.length_map, List.length_take, List.length_drop, List.length_cons, List.length_nil] <;> omega))) rfl fun H57 m58 => ?_
            refine KO.nil ?_
            refine KC.region ?_
            refine KO.pv (PV.fieldAddr fo24_1_B1 rfl) rfl rfl ?_
            refine KO.load1 ag22_B1 rfl (m58.row (i := 3) rfl) rfl rfl rfl ?_
            refine KO.pv (PV.move rfl) rfl rfl ?_
            refine KO.buildSliceM m58 el22_B1 ez3_B1 rfl rfl (show _ = some [.int .i64 lit44] from rfl) rfl rfl fun H59 m60 => ?_
            refine KO.appendC (C := (EI .i64)) m60 (i := 3) rfl el22_B1 ez3_B1 sb3_B1 un22_B1 rfl rfl (newElems_row1 (C := (EI .i64)) (y := lit44) (m60.row (i := 0) rfl) rfl) rfl (by first | omega | (simp only [splice, List.length_append, List.length_set, List.length_replicate, List.length_map, List.length_take, List.length_drop, List.length_cons, List.length_nil] <;> omega)) rfl rfl fun a62 D63 H61 m64 => ?_
            refine KO.pv (PV.fieldAddr fo24_1_B1 rfl) rfl rfl ?_
            refine KO.storeM m64 (i := 4) rfl sz22_B1 rfl rfl rfl (show 1 + 1 ≤ 3 by decide) (show _ = [.int .i64 av, .slice a62 (n_c11_1 + 1) (n_c11_1 + 1), .slice a34 n34 n34] from rfl) rfl fun H65 m66 => ?_
            refine KO.nil ?_
            exact ⟨_, _, (Nat.lt_of_le_of_lt (count_set_le (by decide)) (count_set_lt hv3 (by decide))), (.cons rfl (.cons rfl (.cons rfl (.cons rfl .nil)))), ((l12.set ((lit44).toNat) 1).set ((x52).toNat) 0), a62, (n_c11_1 + 1), (l_c11_1 ++ [lit44]), D63, rfl, rfl, (m66.pick [1, 2, 3, 4, 5] (by decide) rfl), (by have hlt : (((l12.set ((lit44).toNat) 1).set ((x52).toNat) 0)).count 2 < l12.count 2 := (Nat.lt_of_le_of_lt (count_set_le (by decide)) (count_set_lt hv3 (by decide))); omega), (by first | omega | (simp only [splice, List.length_append, List.length_set, List.length_replicate, List.length_map, List.length_take, List.length_drop, List.length_cons, List.length_nil] <;> omega)), (by first | omega | (simp only [splice, List.length_append, List.length_set, List.length_replicate, List.length_map, List.length_take, List.length_drop, List.length_cons, List.length_nil] <;> omega)), (all_set (all_set hw_l12 (wfu8 (by omega) (by omega))) (wfu8 (by omega) (by omega))), (by first | omega | (simp only [splice, List.length_append, List.length_set, List.length_replicate, List.length_map, List.length_take, List.length_drop, List.length_cons, List.length_nil] <;> omega)), (all_app hw_l_c11_1 (all_one (wf64 (by omega) (by omega)))), (all_app hlit (all_one (by first | omega | assumption | (constructor <;> omega))))⟩
end Go.Eng
