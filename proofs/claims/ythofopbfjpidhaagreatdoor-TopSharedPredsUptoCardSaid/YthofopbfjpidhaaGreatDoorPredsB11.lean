/- Functions of the program and of the library keep their contracts. Conditions: none beyond each theorem's own. -/
import Derived.Test.YthofopbfjpidhaaGreatDoorPredsB5
import Derived.Test.YthofopbfjpidhaaGreatDoorPredsB3
import Derived.KernelRfl
set_option linter.all false
namespace Go.Eng
open Go Go.Proofs
theorem ag4_B11 : isAggT E0.P 4 = some false := by kernel_rfl
theorem ag3_B11 : isAggT E0.P 3 = some false := by kernel_rfl
theorem sz3_B11 : sizeT E0.P 3 = some 1 := by kernel_rfl
theorem ag24_B11 : isAggT E0.P 24 = some false := by kernel_rfl
theorem el24_B11 : elemT E0.P 24 = some 3 := by kernel_rfl
theorem ez3_B11 : elemZ E0.P 3 = some (1, [.int .i64 0]) := by kernel_rfl
theorem sb3_B11 : smallBytes E0.P 3 = true := by kernel_rfl
theorem un24_B11 : E0.P.underlying 24 = some (.slice 3) := by kernel_rfl
theorem sz24_B11 : sizeT E0.P 24 = some 1 := by kernel_rfl
theorem un4_B11 : E0.P.underlying 4 = some TypeDesc.bool := by kernel_rfl
theorem sz4_B11 : sizeT E0.P 4 = some 1 := by kernel_rfl
theorem el89_B11 : elemT E0.P 89 = some 4 := by kernel_rfl
theorem ez4_B11 : elemZ E0.P 4 = some (1, [.bool false]) := by kernel_rfl
theorem sb4_B11 : smallBytes E0.P 4 = true := by kernel_rfl
theorem un89_B11 : E0.P.underlying 89 = some (.slice 4) := by kernel_rfl
theorem un42_B11 : E0.P.underlying 42 = some (.slice 24) := by kernel_rfl
theorem fo26_0_B11 : foff E0.P 26 0 = some 0 := by kernel_rfl
theorem fo26_1_B11 : foff E0.P 26 1 = some 1 := by kernel_rfl
theorem ag22_B11 : isAggT E0.P 22 = some false := by kernel_rfl
theorem un22_B11 : E0.P.underlying 22 = some (.slice 147) := by kernel_rfl
theorem fo26_2_B11 : foff E0.P 26 2 = some 2 := by kernel_rfl
theorem ag23_B11 : isAggT E0.P 23 = some false := by kernel_rfl
theorem un23_B11 : E0.P.underlying 23 = some (.slice 145) := by kernel_rfl
theorem ag26_B11 : isAggT E0.P 26 = some true := by kernel_rfl
theorem sz26_B11 : sizeT E0.P 26 = some 5 := by kernel_rfl
theorem fo26_3_B11 : foff E0.P 26 3 = some 3 := by kernel_rfl
theorem fo26_4_B11 : foff E0.P 26 4 = some 4 := by kernel_rfl
theorem sz145_B11 : sizeT E0.P 145 = some 2 := by kernel_rfl
theorem ag145_B11 : isAggT E0.P 145 = some true := by kernel_rfl
theorem zt145_B11 : zeroT E0.P 145 = some [.int .i64 0, .int .i64 0] := by kernel_rfl
theorem fo145_1_B11 : foff E0.P 145 1 = some 1 := by kernel_rfl
theorem fo145_0_B11 : foff E0.P 145 0 = some 0 := by kernel_rfl
theorem sz89_B11 : sizeT E0.P 89 = some 1 := by kernel_rfl
theorem ag89_B11 : isAggT E0.P 89 = some false := by kernel_rfl
theorem pt145_B11 : pairT E0.P 145 = true := by kernel_rfl
theorem el23_B11 : elemT E0.P 23 = some 145 := by kernel_rfl
theorem ez145_B11 : elemZ E0.P 145 = some (2, [.int .i64 0, .int .i64 0]) := by kernel_rfl
theorem sb145_B11 : smallBytes E0.P 145 = true := by kernel_rfl
theorem el22_B11 : elemT E0.P 22 = some 147 := by kernel_rfl
theorem ez147_B11 : elemZ E0.P 147 = some (2, [.int .i64 0, .int .i64 0]) := by kernel_rfl
theorem sb147_B11 : smallBytes E0.P 147 = true := by kernel_rfl
theorem fo44_0_B11 : foff E0.P 44 0 = some 0 := by kernel_rfl
theorem fo44_1_B11 : foff E0.P 44 1 = some 1 := by kernel_rfl
theorem ag44_B11 : isAggT E0.P 44 = some true := by kernel_rfl
theorem sz44_B11 : sizeT E0.P 44 = some 2 := by kernel_rfl
theorem zt89_B11 : zeroT E0.P 89 = some [.slice none 0 0] := by kernel_rfl
theorem bl145_0i64_1i64_B11 (v0 : Int) (v1 : Int) : buildA E0.P 145 [(0, .int .i64 v0), (1, .int .i64 v1)] = some (.agg #[.int .i64 v0, .int .i64 v1]) := by kernel_rfl
theorem fo207_0_B11 : foff E0.P 207 0 = some 0 := by kernel_rfl
theorem fo207_1_B11 : foff E0.P 207 1 = some 1 := by kernel_rfl
theorem fo207_3_B11 : foff E0.P 207 3 = some 3 := by kernel_rfl
theorem sz23_B11 : sizeT E0.P 23 = some 1 := by kernel_rfl
theorem zt24_B11 : zeroT E0.P 24 = some [.slice none 0 0] := by kernel_rfl
theorem fo207_2_B11 : foff E0.P 207 2 = some 2 := by kernel_rfl
theorem ag151_B11 : isAggT E0.P 151 = some false := by kernel_rfl
theorem bl207_0s_1i64_2F190_B11 (v0a : Option Addr) (v0n v0c : Nat) (v1 : Int) : buildA E0.P 207 [(0, .slice v0a v0n v0c), (1, .int .i64 v1), (2, .func (.func 190) #[] #[])] = some (.agg #[.slice v0a v0n v0c, .int .i64 v1, .func (.func 190) #[] #[], .bool false]) := by kernel_rfl
theorem zt44_B11 : zeroT E0.P 44 = some [.slice none 0 0, .int .i64 0] := by kernel_rfl
theorem bl44__B11  : buildA E0.P 44 [] = some (.agg #[.slice none 0 0, .int .i64 0]) := by kernel_rfl
theorem bl44_0s_1i64_B11 (v0a : Option Addr) (v0n v0c : Nat) (v1 : Int) : buildA E0.P 44 [(0, .slice v0a v0n v0c), (1, .int .i64 v1)] = some (.agg #[.slice v0a v0n v0c, .int .i64 v1]) := by kernel_rfl
theorem zt26_B11 : zeroT E0.P 26 = some [.int .i64 0, .slice none 0 0, .slice none 0 0, .slice none 0 0, .slice none 0 0] := by kernel_rfl
theorem bl26__B11  : buildA E0.P 26 [] = some (.agg #[.int .i64 0, .slice none 0 0, .slice none 0 0, .slice none 0 0, .slice none 0 0]) := by kernel_rfl
theorem bl207_0s_1i64_2F148p_B11 (v0a : Option Addr) (v0n v0c : Nat) (v1 : Int) (v2_0b v2_0o : Nat) : buildA E0.P 207 [(0, .slice v0a v0n v0c), (1, .int .i64 v1), (2, .func (.func 148) #[] #[.pointer (some ⟨v2_0b, v2_0o, none⟩)])] = some (.agg #[.slice v0a v0n v0c, .int .i64 v1, .func (.func 148) #[] #[.pointer (some ⟨v2_0b, v2_0o, none⟩)], .bool false]) := by kernel_rfl
theorem bl26_0i64_1s_2s_3s_4s_B11 (v0 : Int) (v1a : Option Addr) (v1n v1c : Nat) (v2a : Option Addr) (v2n v2c : Nat) (v3a : Option Addr) (v3n v3c : Nat) (v4a : Option Addr) (v4n v4c : Nat) : buildA E0.P 26 [(0, .int .i64 v0), (1, .slice v1a v1n v1c), (2, .slice v2a v2n v2c), (3, .slice v3a v3n v3c), (4, .slice v4a v4n v4c)] = some (.agg #[.int .i64 v0, .slice v1a v1n v1c, .slice v2a v2n v2c, .slice v3a v3n v3c, .slice v4a v4n v4c]) := by kernel_rfl
theorem li_check (H : AHeap) (a_l : Option Addr) (n_l c_l : Nat) (l : List Int) (h_l : V (EI .i64) H a_l n_l c_l l) : WF E0 209 [.slice a_l n_l c_l] H fun q => ∃ (e : Int), q.1 = .int .i64 e ∧ Mem [] H q.2 [] ∧ (e = 0 → ∀ u ∈ l, 0 ≤ u ∧ u ≤ 2001) ∧ (0 ≤ e ∧ e ≤ 100) := by
  obtain ⟨len_l, cap_l, max_l, wf_l⟩ := h_l.len
  have m0 : Mem [] H H [] := Mem.start
  refine WF.kg Tryz.func209 rfl rfl ?_
  refine KC.seq ?_
  refine KC.region ?_
  refine KO.pv (PV.assign rfl) rfl rfl ?_
  refine KO.nil ?_
  refine KC.seq ?_
  refine KC.seq ?_
  refine KC.region ?_
  refine KO.pv (PV.move rfl) rfl rfl ?_
  refine KO.pv (PV.len un24_B11 rfl) rfl rfl ?_
  refine KO.pv (PV.move rfl) rfl rfl ?_
  refine KO.nil ?_
  refine KC.block ?_
  refine KC.sub (l' := [(5, .slice a_l n_l c_l), (6, .int .i64 (n_l : Int)), (7, .int .i64 0)]) (.cons rfl (.cons rfl (.cons rfl .nil))) ?_
  refine KC.loopN (fun kq lq A => ∃ (x7 : Int), kq = ((n_l : Int) - x7).toNat ∧ lq = [(5, .slice a_l n_l c_l), (6, .int .i64 (n_l : Int)), (7, .int .i64 x7)] ∧ Mem [] H A [] ∧ (0 ≤ x7 ∧ x7 ≤ (n_l : Int)) ∧ (Ahead l x7 fun _ u => 0 ≤ u ∧ u ≤ 2001)) ?_ (((n_l : Int) - 0).toNat) ⟨0, rfl, rfl, (m0.pick [] (by decide) rfl), (by first | omega | assumption | (constructor <;> omega)), Ahead.zero⟩
  rintro kq lq A1 ⟨x7, rfl, rfl, m2, hr2, hpre⟩
  refine KC.seq ?_
  refine KC.region ?_
  refine KO.pv (PV.lssD rfl rfl rfl) rfl rfl ?_
  refine KO.nil ?_
  refine KC.seq ?_
  refine KC.condD rfl (fun h3 => ?_) (fun h3 => ?_)
  · refine KC.skip ?_
    refine KC.seq ?_
    refine KC.block ?_
    refine KC.seq ?_
    refine KC.region ?_
    obtain ⟨b4, o4, p4, r4, e4, ha4, hb4, hr4, hx4, hw4, hc4, ht4⟩ := V.at_ h_l (z := x7) (by omega) (by omega)
    have hc4_0 : r4.cs[o4 + (x7).toNat * 1 + 0]? = some (.int .i64 e4) := hc4 0 (by decide)
    have hw4 : IntKind.i64.wrap e4 = e4 := hw4
    obtain ⟨lo4, hi4⟩ := rangei64 hw4
    refine KO.pv (PV.indexAddrZ un24_B11 sz3_B11 rfl ha4 rfl (by omega) (by omega)) rfl rfl ?_
    refine KO.load1 ag3_B11 rfl (m2.row0 hb4 hr4) hc4_0 rfl rfl ?_
    refine KO.pv (PV.assign rfl) rfl rfl ?_
    refine KO.nil ?_
    refine KC.seq ?_
    refine KC.region ?_
    refine KO.pv (PV.move rfl) rfl rfl ?_
    by_cases h5 : e4 < 0
    · refine KO.pv (PV.lssD rfl rfl (decide_eq_true h5)) rfl rfl ?_
      refine KO.pv (PV.move rfl) rfl rfl ?_
      refine KO.no rfl rfl rfl ?_
      refine KO.no rfl rfl rfl ?_
      refine KO.pv (PV.pickT rfl rfl rfl) rfl rfl ?_
      refine KO.nil ?_
      refine KC.condT rfl ?_
      refine KC.seq ?_
      refine KC.region ?_
      refine KO.pv (PV.assign rfl) rfl rfl ?_
      refine KO.nil ?_
      exact KC.ret ⟨rfl, _, (.tmp rfl .nil), 2, rfl, m2.pick [] (by decide) rfl, (by first | omega | (intro h; omega) | (simp only [List.length_nil, true_and, and_true, or_true, true_or] <;> omega) | (exact fun _ => hl)), (by first | omega | (intro h; omega) | (simp only [List.length_nil, true_and, and_true, or_true, true_or] <;> omega))⟩
    · refine KO.pv (PV.lssD rfl rfl (decide_eq_false h5)) rfl rfl ?_
      refine KO.pv (PV.move rfl) rfl rfl ?_
      refine KO.pv (PV.move rfl) rfl rfl ?_
      refine KO.pv (PV.gtrD rfl rfl rfl) rfl rfl ?_
      refine KO.pv (PV.pickF rfl rfl rfl) rfl rfl ?_
      refine KO.nil ?_
      refine KC.condD rfl (fun h6 => ?_) (fun h6 => ?_)
      · refine KC.seq ?_
        refine KC.region ?_
        refine KO.pv (PV.assign rfl) rfl rfl ?_
        refine KO.nil ?_
        exact KC.ret ⟨rfl, _, (.tmp rfl .nil), 2, rfl, m2.pick [] (by decide) rfl, (by first | omega | (intro h; omega) | (simp only [List.length_nil, true_and, and_true, or_true, true_or] <;> omega) | (exact fun _ => hl)), (by first | omega | (intro h; omega) | (simp only [List.length_nil, true_and, and_true, or_true, true_or] <;> omega))⟩
      · refine KC.skip ?_
        refine KC.region ?_
        refine KO.pv (PV.add rfl rfl (wrap64 (by omega) (by omega))) rfl rfl ?_
        refine KO.pv (PV.move rfl) rfl rfl ?_
        refine KO.nil ?_
        exact ⟨_, _, (by omega), (.cons rfl (.cons rfl (.cons rfl .nil))), (x7 + 1), rfl, rfl, (m2.pick [] (by decide) rfl), (by first | omega | assumption | (constructor <;> omega)), (hpre.step (by assumption) (by omega) (by constructor <;> omega))⟩
  · refine KC.exit ?_
    have hl := hpre.mem len_l (by omega)
    refine KC.seq ?_
    refine KC.region ?_
    refine KO.pv (PV.assign rfl) rfl rfl ?_
    refine KO.nil ?_
    exact KC.ret ⟨rfl, _, (.tmp rfl .nil), 0, rfl, m2.pick [] (by decide) rfl, (by first | omega | (intro h; omega) | (simp only [List.length_nil, true_and, and_true, or_true, true_or] <;> omega) | (exact fun _ => hl)), (by first | omega | (intro h; omega) | (simp only [List.length_nil, true_and, and_true, or_true, true_or] <;> omega))⟩
theorem li_And (H : AHeap) (a : Int) (b : Int) (w_a : IntKind.i64.wrap a = a) (w_b : IntKind.i64.wrap b = b) : WF E0 191 [.int .i64 a, .int .i64 b] H fun q => ∃ (z : Int) (o : Bool) (e : Int), q.1 = .tuple #[.int .i64 z, .bool o, .int .i64 e] ∧ Mem [] H q.2 [] ∧ (0 ≤ z ∧ z ≤ 2001) ∧ (e = 0 → 0 ≤ a ∧ a ≤ 2001 ∧ 0 ≤ b ∧ b ≤ 2001) ∧ (0 ≤ e ∧ e ≤ 100) := by
  obtain ⟨lo_a, hi_a⟩ := rangei64 w_a
  obtain ⟨lo_b, hi_b⟩ := rangei64 w_b
  have m0 : Mem [] H H [] := Mem.start
  refine WF.kg Tryz.func191 rfl rfl ?_
  refine KC.seq ?_
  refine KC.region ?_
  refine KO.pv (PV.assign rfl) rfl rfl ?_
  refine KO.pv (PV.assign rfl) rfl rfl ?_
  refine KO.pv (PV.assign rfl) rfl rfl ?_
  refine KO.nil ?_
  refine KC.seq ?_
  refine KC.seq ?_
  refine KC.region ?_
  refine KO.pv (PV.move rfl) rfl rfl ?_
  refine KO.pv (PV.move rfl) rfl rfl ?_
  refine KO.buildSliceM m0 el24_B11 ez3_B11 rfl rfl (show _ = some [.int .i64 a, .int .i64 b] from rfl) rfl rfl fun H1 m2 => ?_
  refine KO.call rfl rfl rfl rfl (li_check H1 (some ⟨H.next, 0, none⟩) 2 2 _ (m2.vrow (E := (EI .i64)) (xs := [a, b]) (i := 0) rfl (by simp only [List.mem_cons, List.not_mem_nil, or_false, forall_eq_or_imp, forall_eq]; first | exact wfI (by first | decide | (constructor <;> omega)) | (refine ⟨?_, ?_⟩ <;> exact wfI (by constructor <;> omega)) | (refine ⟨?_, ?_, ?_⟩ <;> exact wfI (by constructor <;> omega))) rfl (by decide) (by decide))) fun v3 H3 q3 => ?_
  obtain ⟨e3, hv3, mc3, p3_0, p3_1⟩ := q3
  dsimp only at hv3 mc3
  subst hv3
  have m4 := m2.seq mc3
  refine KO.pv (PV.assign rfl) rfl rfl ?_
  refine KO.nil ?_
  refine KC.seq ?_
  refine KC.region ?_
  refine KO.pv (PV.move rfl) rfl rfl ?_
  refine KO.pv (PV.neqD rfl rfl rfl) rfl rfl ?_
  refine KO.nil ?_
  refine KC.condD rfl (fun h5 => ?_) (fun h5 => ?_)
  · refine KC.seq ?_
    refine KC.region ?_
    refine KO.pv (PV.move rfl) rfl rfl ?_
    refine KO.pv (PV.assign rfl) rfl rfl ?_
    refine KO.pv (PV.assign rfl) rfl rfl ?_
    refine KO.pv (PV.assign rfl) rfl rfl ?_
    refine KO.nil ?_
    exact KC.ret ⟨rfl, _, (.tmp rfl (.tmp rfl (.tmp rfl .nil))), 0, false, e3, rfl, m4.pick [] (by decide) rfl, (by first | omega | (intro h; omega) | (simp only [List.length_nil, true_and, and_true, or_true, true_or] <;> omega)), (by first | omega | (intro h; omega) | (simp only [List.length_nil, true_and, and_true, or_true, true_or] <;> omega)), (by first | omega | (intro h; omega) | (simp only [List.length_nil, true_and, and_true, or_true, true_or] <;> omega))⟩
  · have p3_0t := p3_0 (by omega)
    have ha := p3_0 (by omega) a (by simp)
    have hb := p3_0 (by omega) b (by simp)
    refine KC.skip ?_
    refine KC.seq ?_
    refine KC.region ?_
    refine KO.pv (PV.move rfl) rfl rfl ?_
    refine KO.pv (PV.move rfl) rfl rfl ?_
    obtain ⟨x6, hx6, dx6⟩ := minD a b
    refine KO.pv (PV.minE rfl rfl hx6) rfl rfl ?_
    refine KO.pv (PV.move rfl) rfl rfl ?_
    refine KO.pv (PV.move rfl) rfl rfl ?_
    obtain ⟨x7, hx7, dx7⟩ := maxD a b
    refine KO.pv (PV.maxE rfl rfl hx7) rfl rfl ?_
    refine KO.pv (PV.assign rfl) rfl rfl ?_
    refine KO.pv (PV.assign rfl) rfl rfl ?_
    refine KO.nil ?_
    refine KC.seq ?_
    refine KC.block ?_
    refine KC.seq ?_
    refine KC.seq ?_
    refine KC.region ?_
    refine KO.pv (PV.move rfl) rfl rfl ?_
    refine KO.pv (PV.eqlD rfl rfl rfl) rfl rfl ?_
    refine KO.pv (PV.assign rfl) rfl rfl ?_
    refine KO.nil ?_
    refine KC.condD rfl (fun h8 => ?_) (fun h8 => ?_)
    · refine KC.skip ?_
      refine KC.condD rfl (fun h9 => ?_) (fun h9 => ?_)
      · refine KC.seq ?_
        refine KC.region ?_
        refine KO.pv (PV.assign rfl) rfl rfl ?_
        refine KO.pv (PV.assign rfl) rfl rfl ?_
        refine KO.pv (PV.assign rfl) rfl rfl ?_
        refine KO.nil ?_
        exact KC.ret ⟨rfl, _, (.tmp rfl (.tmp rfl (.tmp rfl .nil))), 0, true, 0, rfl, m4.pick [] (by decide) rfl, (by first | omega | (intro h; omega) | (simp only [List.length_nil, true_and, and_true, or_true, true_or] <;> omega)), (by first | omega | (intro h; omega) | (simp only [List.length_nil, true_and, and_true, or_true, true_or] <;> omega)), (by first | omega | (intro h; omega) | (simp only [List.length_nil, true_and, and_true, or_true, true_or] <;> omega))⟩
      · refine KC.seq ?_
        refine KC.seq ?_
        refine KC.region ?_
        refine KO.pv (PV.move rfl) rfl rfl ?_
        refine KO.pv (PV.eqlD rfl rfl rfl) rfl rfl ?_
        refine KO.pv (PV.assign rfl) rfl rfl ?_
        refine KO.nil ?_
        refine KC.condD rfl (fun h10 => ?_) (fun h10 => ?_)
        · refine KC.skip ?_
          refine KC.condD rfl (fun h11 => ?_) (fun h11 => ?_)
          · refine KC.seq ?_
            refine KC.region ?_
            refine KO.pv (PV.move rfl) rfl rfl ?_
            refine KO.pv (PV.assign rfl) rfl rfl ?_
            refine KO.pv (PV.assign rfl) rfl rfl ?_
            refine KO.pv (PV.assign rfl) rfl rfl ?_
            refine KO.nil ?_
            exact KC.ret ⟨rfl, _, (.tmp rfl (.tmp rfl (.tmp rfl .nil))), x7, true, 0, rfl, m4.pick [] (by decide) rfl, (by first | omega | (intro h; omega) | (simp only [List.length_nil, true_and, and_true, or_true, true_or] <;> omega)), (by first | omega | (intro h; omega) | (simp only [List.length_nil, true_and, and_true, or_true, true_or] <;> omega)), (by first | omega | (intro h; omega) | (simp only [List.length_nil, true_and, and_true, or_true, true_or] <;> omega))⟩
          · refine KC.skip ?_
            refine KC.seq ?_
            refine KC.region ?_
            refine KO.pv (PV.assign rfl) rfl rfl ?_
            refine KO.pv (PV.assign rfl) rfl rfl ?_
            refine KO.pv (PV.assign rfl) rfl rfl ?_
            refine KO.nil ?_
            exact KC.ret ⟨rfl, _, (.tmp rfl (.tmp rfl (.tmp rfl .nil))), 0, false, 0, rfl, m4.pick [] (by decide) rfl, (by first | omega | (intro h; omega) | (simp only [List.length_nil, true_and, and_true, or_true, true_or] <;> omega)), (by first | omega | (intro h; omega) | (simp only [List.length_nil, true_and, and_true, or_true, true_or] <;> omega)), (by first | omega | (intro h; omega) | (simp only [List.length_nil, true_and, and_true, or_true, true_or] <;> omega))⟩
        · refine KC.region ?_
          refine KO.pv (PV.move rfl) rfl rfl ?_
          refine KO.pv (PV.move rfl) rfl rfl ?_
          refine KO.pv (PV.eqlD rfl rfl rfl) rfl rfl ?_
          refine KO.pv (PV.assign rfl) rfl rfl ?_
          refine KO.nil ?_
          refine KC.condD rfl (fun h12 => ?_) (fun h12 => ?_)
          · refine KC.seq ?_
            refine KC.region ?_
            refine KO.pv (PV.move rfl) rfl rfl ?_
            refine KO.pv (PV.assign rfl) rfl rfl ?_
            refine KO.pv (PV.assign rfl) rfl rfl ?_
            refine KO.pv (PV.assign rfl) rfl rfl ?_
            refine KO.nil ?_
            exact KC.ret ⟨rfl, _, (.tmp rfl (.tmp rfl (.tmp rfl .nil))), x7, true, 0, rfl, m4.pick [] (by decide) rfl, (by first | omega | (intro h; omega) | (simp only [List.length_nil, true_and, and_true, or_true, true_or] <;> omega)), (by first | omega | (intro h; omega) | (simp only [List.length_nil, true_and, and_true, or_true, true_or] <;> omega)), (by first | omega | (intro h; omega) | (simp only [List.length_nil, true_and, and_true, or_true, true_or] <;> omega))⟩
          · refine KC.skip ?_
            refine KC.seq ?_
            refine KC.region ?_
            refine KO.pv (PV.assign rfl) rfl rfl ?_
            refine KO.pv (PV.assign rfl) rfl rfl ?_
            refine KO.pv (PV.assign rfl) rfl rfl ?_
            refine KO.nil ?_
            exact KC.ret ⟨rfl, _, (.tmp rfl (.tmp rfl (.tmp rfl .nil))), 0, false, 0, rfl, m4.pick [] (by decide) rfl, (by first | omega | (intro h; omega) | (simp only [List.length_nil, true_and, and_true, or_true, true_or] <;> omega)), (by first | omega | (intro h; omega) | (simp only [List.length_nil, true_and, and_true, or_true, true_or] <;> omega)), (by first | omega | (intro h; omega) | (simp only [List.length_nil, true_and, and_true, or_true, true_or] <;> omega))⟩
    · refine KC.region ?_
      refine KO.pv (PV.move rfl) rfl rfl ?_
      obtain ⟨x13, dx13, rx13, zx13, qx13⟩ := xor1 (x6) (by omega) (by omega)
      refine KO.pv (PV.xor1 rfl rfl qx13) rfl rfl ?_
      refine KO.pv (PV.move rfl) rfl rfl ?_
      refine KO.pv (PV.eqlD rfl rfl rfl) rfl rfl ?_
      refine KO.pv (PV.assign rfl) rfl rfl ?_
      refine KO.nil ?_
      refine KC.condD rfl (fun h14 => ?_) (fun h14 => ?_)
      · refine KC.seq ?_
        refine KC.region ?_
        refine KO.pv (PV.assign rfl) rfl rfl ?_
        refine KO.pv (PV.assign rfl) rfl rfl ?_
        refine KO.pv (PV.assign rfl) rfl rfl ?_
        refine KO.nil ?_
        exact KC.ret ⟨rfl, _, (.tmp rfl (.tmp rfl (.tmp rfl .nil))), 0, true, 0, rfl, m4.pick [] (by decide) rfl, (by first | omega | (intro h; omega) | (simp only [List.length_nil, true_and, and_true, or_true, true_or] <;> omega)), (by first | omega | (intro h; omega) | (simp only [List.length_nil, true_and, and_true, or_true, true_or] <;> omega)), (by first | omega | (intro h; omega) | (simp only [List.length_nil, true_and, and_true, or_true, true_or] <;> omega))⟩
      · refine KC.seq ?_
        refine KC.seq ?_
        refine KC.region ?_
        refine KO.pv (PV.move rfl) rfl rfl ?_
        refine KO.pv (PV.eqlD rfl rfl rfl) rfl rfl ?_
        refine KO.pv (PV.assign rfl) rfl rfl ?_
        refine KO.nil ?_
        refine KC.condD rfl (fun h15 => ?_) (fun h15 => ?_)
        · refine KC.skip ?_
          refine KC.condD rfl (fun h16 => ?_) (fun h16 => ?_)
          · refine KC.seq ?_
            refine KC.region ?_
            refine KO.pv (PV.move rfl) rfl rfl ?_
            refine KO.pv (PV.assign rfl) rfl rfl ?_
            refine KO.pv (PV.assign rfl) rfl rfl ?_
            refine KO.pv (PV.assign rfl) rfl rfl ?_
            refine KO.nil ?_
            exact KC.ret ⟨rfl, _, (.tmp rfl (.tmp rfl (.tmp rfl .nil))), x7, true, 0, rfl, m4.pick [] (by decide) rfl, (by first | omega | (intro h; omega) | (simp only [List.length_nil, true_and, and_true, or_true, true_or] <;> omega)), (by first | omega | (intro h; omega) | (simp only [List.length_nil, true_and, and_true, or_true, true_or] <;> omega)), (by first | omega | (intro h; omega) | (simp only [List.length_nil, true_and, and_true, or_true, true_or] <;> omega))⟩
          · refine KC.skip ?_
            refine KC.seq ?_
            refine KC.region ?_
            refine KO.pv (PV.assign rfl) rfl rfl ?_
            refine KO.pv (PV.assign rfl) rfl rfl ?_
            refine KO.pv (PV.assign rfl) rfl rfl ?_
            refine KO.nil ?_
            exact KC.ret ⟨rfl, _, (.tmp rfl (.tmp rfl (.tmp rfl .nil))), 0, false, 0, rfl, m4.pick [] (by decide) rfl, (by first | omega | (intro h; omega) | (simp only [List.length_nil, true_and, and_true, or_true, true_or] <;> omega)), (by first | omega | (intro h; omega) | (simp only [List.length_nil, true_and, and_true, or_true, true_or] <;> omega)), (by first | omega | (intro h; omega) | (simp only [List.length_nil, true_and, and_true, or_true, true_or] <;> omega))⟩
        · refine KC.region ?_
          refine KO.pv (PV.move rfl) rfl rfl ?_
          refine KO.pv (PV.move rfl) rfl rfl ?_
          refine KO.pv (PV.eqlD rfl rfl rfl) rfl rfl ?_
          refine KO.pv (PV.assign rfl) rfl rfl ?_
          refine KO.nil ?_
          refine KC.condD rfl (fun h17 => ?_) (fun h17 => ?_)
          · refine KC.seq ?_
            refine KC.region ?_
            refine KO.pv (PV.move rfl) rfl rfl ?_
            refine KO.pv (PV.assign rfl) rfl rfl ?_
            refine KO.pv (PV.assign rfl) rfl rfl ?_
            refine KO.pv (PV.assign rfl) rfl rfl ?_
            refine KO.nil ?_
            exact KC.ret ⟨rfl, _, (.tmp rfl (.tmp rfl (.tmp rfl .nil))), x7, true, 0, rfl, m4.pick [] (by decide) rfl, (by first | omega | (intro h; omega) | (simp only [List.length_nil, true_and, and_true, or_true, true_or] <;> omega)), (by first | omega | (intro h; omega) | (simp only [List.length_nil, true_and, and_true, or_true, true_or] <;> omega)), (by first | omega | (intro h; omega) | (simp only [List.length_nil, true_and, and_true, or_true, true_or] <;> omega))⟩
          · refine KC.skip ?_
            refine KC.seq ?_
            refine KC.region ?_
            refine KO.pv (PV.assign rfl) rfl rfl ?_
            refine KO.pv (PV.assign rfl) rfl rfl ?_
            refine KO.pv (PV.assign rfl) rfl rfl ?_
            refine KO.nil ?_
            exact KC.ret ⟨rfl, _, (.tmp rfl (.tmp rfl (.tmp rfl .nil))), 0, false, 0, rfl, m4.pick [] (by decide) rfl, (by first | omega | (intro h; omega) | (simp only [List.length_nil, true_and, and_true, or_true, true_or] <;> omega)), (by first | omega | (intro h; omega) | (simp only [List.length_nil, true_and, and_true, or_true, true_or] <;> omega)), (by first | omega | (intro h; omega) | (simp only [List.length_nil, true_and, and_true, or_true, true_or] <;> omega))⟩
theorem Index_and (H : AHeap) (a_s : Option Addr) (n_s c_s : Nat) (s : List (Int × Int)) (v1 : Int) (v2 : Int) (h_s : V EP H a_s n_s c_s s) (w_v1 : IntKind.i64.wrap v1 = v1) (w_v2 : IntKind.i64.wrap v2 = v2) : WF E0 192 [.slice a_s n_s c_s, .agg #[.int .i64 v1, .int .i64 v2]] H fun q => ∃ (z : Int), q.1 = .int .i64 z ∧ Mem [] H q.2 [] ∧ (-1 ≤ z ∧ z < n_s) := by
  obtain ⟨len_s, cap_s, max_s, wf_s⟩ := h_s.len
  obtain ⟨lo_v1, hi_v1⟩ := rangei64 w_v1
  obtain ⟨lo_v2, hi_v2⟩ := rangei64 w_v2
  have m0 : Mem [] H H [] := Mem.start
  refine WF.kg Tryz.func192 rfl rfl ?_
  refine KC.seq ?_
  refine KC.region ?_
  refine KO.boxM m0 rfl rfl (show _ = [.int .i64 v1, .int .i64 v2] from rfl) rfl rfl fun H1 m2 => ?_
  refine KO.pv (PV.assign rfl) rfl rfl ?_
  refine KO.nil ?_
  refine KC.seq ?_
  refine KC.seq ?_
  refine KC.region ?_
  refine KO.pv (PV.move rfl) rfl rfl ?_
  refine KO.pv (PV.len un23_B11 rfl) rfl rfl ?_
  refine KO.pv (PV.move rfl) rfl rfl ?_
  refine KO.nil ?_
  refine KC.block ?_
  refine KC.sub (l' := [(0, .slice a_s n_s c_s), (3, .pointer (some ⟨H.next, 0, none⟩)), (7, .int .i64 (n_s : Int)), (8, .int .i64 0)]) (.cons rfl (.cons rfl (.cons rfl (.cons rfl .nil)))) ?_
  refine KC.loopN (fun kq lq A => ∃ (x8 : Int), kq = ((n_s : Int) - x8).toNat ∧ lq = [(0, .slice a_s n_s c_s), (3, .pointer (some ⟨H.next, 0, none⟩)), (7, .int .i64 (n_s : Int)), (8, .int .i64 x8)] ∧ Mem [] H A [R.row H.next 145 true [.int .i64 v1, .int .i64 v2]] ∧ (0 ≤ x8 ∧ x8 ≤ (n_s : Int))) ?_ (((n_s : Int) - 0).toNat) ⟨0, rfl, rfl, (m2.pick [0] (by decide) rfl), (by first | omega | assumption | (constructor <;> omega))⟩
  rintro kq lq A3 ⟨x8, rfl, rfl, m4, hr2⟩
  refine KC.seq ?_
  refine KC.region ?_
  refine KO.pv (PV.lssD rfl rfl rfl) rfl rfl ?_
  refine KO.nil ?_
  refine KC.seq ?_
  refine KC.condD rfl (fun h5 => ?_) (fun h5 => ?_)
  · refine KC.skip ?_
    refine KC.seq ?_
    refine KC.block ?_
    refine KC.seq ?_
    refine KC.region ?_
    refine KO.pv (PV.move rfl) rfl rfl ?_
    refine KO.pv (PV.assign rfl) rfl rfl ?_
    refine KO.nil ?_
    refine KC.seq ?_
    refine KC.drawG (n := 6) (anc := [0, 0, 0, 6, 14, 31]) (hv := []) (ord := [0, 1, 2, 3, 4, 5]) (by kernel_rfl) (by kernel_rfl) (by kernel_rfl) (by kernel_rfl) (by kernel_rfl) fun H6 n7 g8 => ?_
    have m9 := m4.room n7 g8 [] (by decide) (by decide)
    refine KD.load 1 rfl (m9.row (i := 0) rfl) (readN ag145_B11 sz145_B11 (takeN_of (p := [.int .i64 v1, .int .i64 v2]) rfl rfl)) (pastGo (k := 1) (l := [H6]) (by kernel_rfl) rfl (pastCons ⟨_, (m9.row (i := 0) rfl), (readN ag145_B11 sz145_B11 (takeN_of (p := [.int .i64 v1, .int .i64 v2]) rfl rfl))⟩ pastNil)) (veq_agg (veqCons veqI (veqCons veqI veqNil))) rfl (by kernel_rfl) rfl rfl rfl ?_
    refine KD.pv 3 (PV.move rfl) rfl rfl rfl (by kernel_rfl) rfl rfl rfl ?_
    refine KD.pv 7 (PV.move rfl) rfl rfl rfl (by kernel_rfl) rfl rfl rfl ?_
    obtain ⟨b10, o10, p10, r10, e10, ha10, hb10, hr10, hx10, hw10, hc10, ht10⟩ := V.at_ h_s (z := x8) (by omega) (by omega)
    have hc10_0 : r10.cs[o10 + (x8).toNat * 2 + 0]? = some (.int .i64 e10.1) := hc10 0 (by decide)
    have hc10_1 : r10.cs[o10 + (x8).toNat * 2 + 1]? = some (.int .i64 e10.2) := hc10 1 (by decide)
    obtain ⟨hwa10, hwb10⟩ := hw10
    obtain ⟨loa10, hia10⟩ := rangei64 hwa10
    obtain ⟨lob10, hib10⟩ := rangei64 hwb10
    refine KD.pv 15 (PV.indexAddrZ un23_B11 sz145_B11 rfl ha10 rfl (by omega) (by omega)) rfl rfl rfl (by kernel_rfl) rfl rfl rfl ?_
    refine KD.load 31 rfl (m9.row0 hb10 hr10) (readN ag145_B11 sz145_B11 ht10) (pastGo (k := 1) (l := [H6]) (by kernel_rfl) rfl (pastCons ⟨_, (m9.row0 hb10 hr10), (readN ag145_B11 sz145_B11 ht10)⟩ pastNil)) (veq_agg (veqCons veqI (veqCons veqI veqNil))) rfl (by kernel_rfl) rfl rfl rfl ?_
    refine KD.pv 63 (PV.eqPair pt145_B11 rfl rfl rfl) rfl rfl rfl (by kernel_rfl) rfl rfl rfl ?_
    refine KD.nil ⟨rfl, ?_⟩
    refine KC.condD rfl (fun h11 => ?_) (fun h11 => ?_)
    · refine KC.seq ?_
      refine KC.region ?_
      refine KO.pv (PV.move rfl) rfl rfl ?_
      refine KO.pv (PV.assign rfl) rfl rfl ?_
      refine KO.nil ?_
      exact KC.ret ⟨rfl, _, (.tmp rfl .nil), x8, rfl, m9.pick [] (by decide) rfl, (by first | omega | (intro h; omega) | (simp only [List.length_nil, true_and, and_true, or_true, true_or] <;> omega))⟩
    · refine KC.skip ?_
      refine KC.region ?_
      refine KO.pv (PV.add rfl rfl (wrap64 (by omega) (by omega))) rfl rfl ?_
      refine KO.pv (PV.move rfl) rfl rfl ?_
      refine KO.nil ?_
      exact ⟨_, _, (by omega), (.cons rfl (.cons rfl (.cons rfl (.cons rfl .nil)))), (x8 + 1), rfl, rfl, (m9.pick [0] (by decide) rfl), (by first | omega | assumption | (constructor <;> omega))⟩
  · refine KC.exit ?_
    refine KC.seq ?_
    refine KC.region ?_
    refine KO.pv (PV.assign rfl) rfl rfl ?_
    refine KO.nil ?_
    exact KC.ret ⟨rfl, _, (.tmp rfl .nil), (-1), rfl, m4.pick [] (by decide) rfl, (by first | omega | (intro h; omega) | (simp only [List.length_nil, true_and, and_true, or_true, true_or] <;> omega))⟩
theorem Clone_api_And (H : AHeap) (a_s : Option Addr) (n_s c_s : Nat) (s : List (Int × Int)) (h_s : V EP H a_s n_s c_s s) (hm : n_s ≤ 330000000) : WF E0 147 [.slice a_s n_s c_s] H fun q => ∃ (a : Option Addr) (n : Nat) (xs : List (Int × Int)) (D : List Nat), q.1 = .slice a n n ∧ Mem [] H q.2 [R.lst 145 2 a n (cells EP xs) D] ∧ (xs = s) ∧ (n = n_s) ∧ (xs.length = n) ∧ (∀ u ∈ xs, (EP).wf u) := by
  obtain ⟨len_s, cap_s, max_s, wf_s⟩ := h_s.len
  have m0 : Mem [] H H [] := Mem.start
  refine WF.kg Tryz.func147 rfl rfl ?_
  refine KC.seq ?_
  refine KC.region ?_
  refine KO.pv (PV.assign rfl) rfl rfl ?_
  refine KO.nil ?_
  refine KC.seq ?_
  refine KC.seq ?_
  refine KC.region ?_
  refine KO.pv (PV.move rfl) rfl rfl ?_
  obtain ⟨b1, qb1⟩ : ∃ b : Bool, isNone a_s = b := ⟨_, rfl⟩
  refine KO.pv (PV.eqNilB un23_B11 rfl qb1) rfl rfl ?_
  refine KO.nil ?_
  refine KC.cond rfl (fun h2 => ?_) (fun h2 => ?_)
  · subst h2
    obtain rfl := h_s.nil0 (by assumption)
    obtain rfl := List.length_eq_zero_iff.1 len_s
    refine KC.seq ?_
    refine KC.region ?_
    refine KO.pv (PV.assign rfl) rfl rfl ?_
    refine KO.nil ?_
    have m3 := m0.lnilC EP (e := 145) none rfl
    exact KC.ret ⟨rfl, _, (.tmp rfl .nil), none, 0, [], [], rfl, m3.pick [0] (by decide) rfl, (by first | omega | (intro h; omega) | (simp only [List.length_nil, true_and, and_true, or_true, true_or] <;> omega) | rfl | (simp only [List.nil_append])), (by first | omega | (intro h; omega) | (simp only [List.length_nil, true_and, and_true, or_true, true_or] <;> omega)), (by first | omega | (intro h; omega) | (simp only [List.length_nil, true_and, and_true, or_true, true_or] <;> omega) | rfl | assumption), (by first | omega | (intro h; omega) | (simp only [List.length_nil, true_and, and_true, or_true, true_or] <;> omega) | exact wf_s | exact all_nil)⟩
  · subst h2
    refine KC.skip ?_
    refine KC.seq ?_
    refine KC.region ?_
    refine KO.buildSliceM m0 el23_B11 ez145_B11 rfl rfl (show _ = some [] from rfl) rfl rfl fun H4 m5 => ?_
    refine KO.pv (PV.move rfl) rfl rfl ?_
    have m6 := m5.lnilC EP (e := 145) (some ⟨H.next, 0, none⟩) rfl
    refine KO.appendC0 (C := EP) m6 (i := 0) rfl el23_B11 ez145_B11 sb145_B11 un23_B11 rfl rfl (V.new (V.mem m6 h_s)) (by first | omega | (simp only [splice, List.length_append, List.length_set, List.length_replicate, List.length_map, List.length_take, List.length_drop, List.length_cons, List.length_nil] <;> omega)) (by first | omega | (simp only [splice, List.length_append, List.length_set, List.length_replicate, List.length_map, List.length_take, List.length_drop, List.length_cons, List.length_nil] <;> omega)) rfl rfl fun a8 D9 H7 m10 => ?_
    refine KO.pv (PV.assign rfl) rfl rfl ?_
    refine KO.nil ?_
    exact KC.ret ⟨rfl, _, (.tmp rfl .nil), a8, n_s, s, D9, rfl, m10.pick [0] (by decide) rfl, (by first | omega | (intro h; omega) | (simp only [List.length_nil, true_and, and_true, or_true, true_or] <;> omega) | rfl | (simp only [List.nil_append])), (by first | omega | (intro h; omega) | (simp only [List.length_nil, true_and, and_true, or_true, true_or] <;> omega)), (by first | omega | (intro h; omega) | (simp only [List.length_nil, true_and, and_true, or_true, true_or] <;> omega) | rfl | assumption), (by first | omega | (intro h; omega) | (simp only [List.length_nil, true_and, and_true, or_true, true_or] <;> omega) | exact wf_s | exact all_nil)⟩
theorem Clone_api_Latch (H : AHeap) (a_s : Option Addr) (n_s c_s : Nat) (s : List (Int × Int)) (h_s : V EP H a_s n_s c_s s) (hm : n_s ≤ 330000000) : WF E0 110 [.slice a_s n_s c_s] H fun q => ∃ (a : Option Addr) (n : Nat) (xs : List (Int × Int)) (D : List Nat), q.1 = .slice a n n ∧ Mem [] H q.2 [R.lst 147 2 a n (cells EP xs) D] ∧ (xs = s) ∧ (n = n_s) ∧ (xs.length = n) ∧ (∀ u ∈ xs, (EP).wf u) := by
  obtain ⟨len_s, cap_s, max_s, wf_s⟩ := h_s.len
  have m0 : Mem [] H H [] := Mem.start
  refine WF.kg Tryz.func110 rfl rfl ?_
  refine KC.seq ?_
  refine KC.region ?_
  refine KO.pv (PV.assign rfl) rfl rfl ?_
  refine KO.nil ?_
  refine KC.seq ?_
  refine KC.seq ?_
  refine KC.region ?_
  refine KO.pv (PV.move rfl) rfl rfl ?_
  obtain ⟨b1, qb1⟩ : ∃ b : Bool, isNone a_s = b := ⟨_, rfl⟩
  refine KO.pv (PV.eqNilB un22_B11 rfl qb1) rfl rfl ?_
  refine KO.nil ?_
  refine KC.cond rfl (fun h2 => ?_) (fun h2 => ?_)
  · subst h2
    obtain rfl := h_s.nil0 (by assumption)
    obtain rfl := List.length_eq_zero_iff.1 len_s
    refine KC.seq ?_
    refine KC.region ?_
    refine KO.pv (PV.assign rfl) rfl rfl ?_
    refine KO.nil ?_
    have m3 := m0.lnilC EP (e := 147) none rfl
    exact KC.ret ⟨rfl, _, (.tmp rfl .nil), none, 0, [], [], rfl, m3.pick [0] (by decide) rfl, (by first | omega | (intro h; omega) | (simp only [List.length_nil, true_and, and_true, or_true, true_or] <;> omega) | rfl | (simp only [List.nil_append])), (by first | omega | (intro h; omega) | (simp only [List.length_nil, true_and, and_true, or_true, true_or] <;> omega)), (by first | omega | (intro h; omega) | (simp only [List.length_nil, true_and, and_true, or_true, true_or] <;> omega) | rfl | assumption), (by first | omega | (intro h; omega) | (simp only [List.length_nil, true_and, and_true, or_true, true_or] <;> omega) | exact wf_s | exact all_nil)⟩
  · subst h2
    refine KC.skip ?_
    refine KC.seq ?_
    refine KC.region ?_
    refine KO.buildSliceM m0 el22_B11 ez147_B11 rfl rfl (show _ = some [] from rfl) rfl rfl fun H4 m5 => ?_
    refine KO.pv (PV.move rfl) rfl rfl ?_
    have m6 := m5.lnilC EP (e := 147) (some ⟨H.next, 0, none⟩) rfl
    refine KO.appendC0 (C := EP) m6 (i := 0) rfl el22_B11 ez147_B11 sb147_B11 un22_B11 rfl rfl (V.new (V.mem m6 h_s)) (by first | omega | (simp only [splice, List.length_append, List.length_set, List.length_replicate, List.length_map, List.length_take, List.length_drop, List.length_cons, List.length_nil] <;> omega)) (by first | omega | (simp only [splice, List.length_append, List.length_set, List.length_replicate, List.length_map, List.length_take, List.length_drop, List.length_cons, List.length_nil] <;> omega)) rfl rfl fun a8 D9 H7 m10 => ?_
    refine KO.pv (PV.assign rfl) rfl rfl ?_
    refine KO.nil ?_
    exact KC.ret ⟨rfl, _, (.tmp rfl .nil), a8, n_s, s, D9, rfl, m10.pick [0] (by decide) rfl, (by first | omega | (intro h; omega) | (simp only [List.length_nil, true_and, and_true, or_true, true_or] <;> omega) | rfl | (simp only [List.nil_append])), (by first | omega | (intro h; omega) | (simp only [List.length_nil, true_and, and_true, or_true, true_or] <;> omega)), (by first | omega | (intro h; omega) | (simp only [List.length_nil, true_and, and_true, or_true, true_or] <;> omega) | rfl | assumption), (by first | omega | (intro h; omega) | (simp only [List.length_nil, true_and, and_true, or_true, true_or] <;> omega) | exact wf_s | exact all_nil)⟩
structure PredOK (n : Int) (A : List (Int × Int)) (l : Int) : Prop where
  n0 : 0 ≤ n
  n1 : n ≤ 1000
  al : n + A.length ≤ 1000
  ha : ∀ (j : Nat) p, A[j]? = some p → 0 ≤ p.2 ∧ p.2 ≤ p.1 ∧ p.1 < 2 * (n + 1 + j)
  l0 : 0 ≤ l
  l1 : l / 2 ≤ n + A.length
theorem pr_Check (H : AHeap) (n : Int) (a_pA : Option Addr) (n_pA c_pA : Nat) (pA : List (Int × Int)) (pl : Int) (w_n : IntKind.i64.wrap n = n) (h_pA : V EP H a_pA n_pA c_pA pA) (w_pl : IntKind.i64.wrap pl = pl) : WF E0 57 [.int .i64 n, .agg #[.slice a_pA n_pA c_pA, .int .i64 pl]] H fun q => ∃ (e : Int), q.1 = .int .i64 e ∧ Mem [] H q.2 [] ∧ (e = 0 → PredOK n pA pl) ∧ (0 ≤ e ∧ e ≤ 100) := by
  obtain ⟨lo_n, hi_n⟩ := rangei64 w_n
  obtain ⟨len_pA, cap_pA, max_pA, wf_pA⟩ := h_pA.len
  obtain ⟨lo_pl, hi_pl⟩ := rangei64 w_pl
  have m0 : Mem [] H H [] := Mem.start
  refine WF.kg Tryz.func57 rfl rfl ?_
  refine KC.seq ?_
  refine KC.region ?_
  refine KO.boxM m0 rfl rfl (show _ = [.slice a_pA n_pA c_pA, .int .i64 pl] from rfl) rfl rfl fun H1 m2 => ?_
  refine KO.pv (PV.assign rfl) rfl rfl ?_
  refine KO.nil ?_
  refine KC.seq ?_
  refine KC.seq ?_
  refine KC.region ?_
  refine KO.pv (PV.move rfl) rfl rfl ?_
  by_cases h3 : n < 0
  · refine KO.pv (PV.lssD rfl rfl (decide_eq_true h3)) rfl rfl ?_
    refine KO.pv (PV.move rfl) rfl rfl ?_
    refine KO.no rfl rfl rfl ?_
    refine KO.no rfl rfl rfl ?_
    refine KO.pv (PV.pickT rfl rfl rfl) rfl rfl ?_
    refine KO.nil ?_
    refine KC.condT rfl ?_
    refine KC.seq ?_
    refine KC.region ?_
    refine KO.pv (PV.assign rfl) rfl rfl ?_
    refine KO.nil ?_
    exact KC.ret ⟨rfl, _, (.tmp rfl .nil), 2, rfl, m2.pick [] (by decide) rfl, (by first | omega | (intro h; omega) | (simp only [List.length_nil, true_and, and_true, or_true, true_or] <;> omega) | (exact fun _ => ⟨by omega, by omega, by omega, fun j u hu => by have := hpre.all len_pA (by omega) j u hu; (try dsimp only at this); omega, by omega, by omega⟩)), (by first | omega | (intro h; omega) | (simp only [List.length_nil, true_and, and_true, or_true, true_or] <;> omega))⟩
  · refine KO.pv (PV.lssD rfl rfl (decide_eq_false h3)) rfl rfl ?_
    refine KO.pv (PV.move rfl) rfl rfl ?_
    refine KO.pv (PV.move rfl) rfl rfl ?_
    refine KO.pv (PV.gtrD rfl rfl rfl) rfl rfl ?_
    refine KO.pv (PV.pickF rfl rfl rfl) rfl rfl ?_
    refine KO.nil ?_
    refine KC.condD rfl (fun h4 => ?_) (fun h4 => ?_)
    · refine KC.seq ?_
      refine KC.region ?_
      refine KO.pv (PV.assign rfl) rfl rfl ?_
      refine KO.nil ?_
      exact KC.ret ⟨rfl, _, (.tmp rfl .nil), 2, rfl, m2.pick [] (by decide) rfl, (by first | omega | (intro h; omega) | (simp only [List.length_nil, true_and, and_true, or_true, true_or] <;> omega) | (exact fun _ => ⟨by omega, by omega, by omega, fun j u hu => by have := hpre.all len_pA (by omega) j u hu; (try dsimp only at this); omega, by omega, by omega⟩)), (by first | omega | (intro h; omega) | (simp only [List.length_nil, true_and, and_true, or_true, true_or] <;> omega))⟩
    · refine KC.skip ?_
      refine KC.seq ?_
      refine KC.seq ?_
      refine KC.region ?_
      refine KO.pv (PV.move rfl) rfl rfl ?_
      refine KO.pv (PV.fieldAddr fo44_0_B11 rfl) rfl rfl ?_
      refine KO.load1 ag23_B11 rfl (m2.row (i := 0) rfl) rfl rfl rfl ?_
      refine KO.pv (PV.len un23_B11 rfl) rfl rfl ?_
      refine KO.pv (PV.add rfl rfl (wrap64 (by omega) (by omega))) rfl rfl ?_
      refine KO.pv (PV.gtrD rfl rfl rfl) rfl rfl ?_
      refine KO.nil ?_
      refine KC.condD rfl (fun h5 => ?_) (fun h5 => ?_)
      · refine KC.seq ?_
        refine KC.region ?_
        refine KO.pv (PV.assign rfl) rfl rfl ?_
        refine KO.nil ?_
        exact KC.ret ⟨rfl, _, (.tmp rfl .nil), 4, rfl, m2.pick [] (by decide) rfl, (by first | omega | (intro h; omega) | (simp only [List.length_nil, true_and, and_true, or_true, true_or] <;> omega) | (exact fun _ => ⟨by omega, by omega, by omega, fun j u hu => by have := hpre.all len_pA (by omega) j u hu; (try dsimp only at this); omega, by omega, by omega⟩)), (by first | omega | (intro h; omega) | (simp only [List.length_nil, true_and, and_true, or_true, true_or] <;> omega))⟩
      · refine KC.skip ?_
        refine KC.seq ?_
        refine KC.seq ?_
        refine KC.region ?_
        refine KO.pv (PV.fieldAddr fo44_0_B11 rfl) rfl rfl ?_
        refine KO.load1 ag23_B11 rfl (m2.row (i := 0) rfl) rfl rfl rfl ?_
        refine KO.pv (PV.len un23_B11 rfl) rfl rfl ?_
        refine KO.pv (PV.move rfl) rfl rfl ?_
        refine KO.nil ?_
        refine KC.block ?_
        refine KC.sub (l' := [(0, .int .i64 n), (3, .pointer (some ⟨H.next, 0, none⟩)), (20, .slice a_pA n_pA c_pA), (21, .int .i64 (n_pA : Int)), (22, .int .i64 0)]) (.cons rfl (.cons rfl (.cons rfl (.cons rfl (.cons rfl .nil))))) ?_
        refine KC.loopN (fun kq lq A => ∃ (x22 : Int), kq = ((n_pA : Int) - x22).toNat ∧ lq = [(0, .int .i64 n), (3, .pointer (some ⟨H.next, 0, none⟩)), (20, .slice a_pA n_pA c_pA), (21, .int .i64 (n_pA : Int)), (22, .int .i64 x22)] ∧ Mem [] H A [R.row H.next 44 true [.slice a_pA n_pA c_pA, .int .i64 pl]] ∧ (0 ≤ x22 ∧ x22 ≤ (n_pA : Int)) ∧ (Ahead pA x22 fun j p => 0 ≤ p.2 ∧ p.2 ≤ p.1 ∧ p.1 < 2 * (n + 1 + j))) ?_ (((n_pA : Int) - 0).toNat) ⟨0, rfl, rfl, (m2.pick [0] (by decide) rfl), (by first | omega | assumption | (constructor <;> omega)), Ahead.zero⟩
        rintro kq lq A6 ⟨x22, rfl, rfl, m7, hr6, hpre⟩
        refine KC.seq ?_
        refine KC.region ?_
        refine KO.pv (PV.lssD rfl rfl rfl) rfl rfl ?_
        refine KO.nil ?_
        refine KC.seq ?_
        refine KC.condD rfl (fun h8 => ?_) (fun h8 => ?_)
        · refine KC.skip ?_
          refine KC.seq ?_
          refine KC.block ?_
          refine KC.seq ?_
          refine KC.region ?_
          refine KO.pv (PV.move rfl) rfl rfl ?_
          obtain ⟨b9, o9, p9, r9, e9, ha9, hb9, hr9, hx9, hw9, hc9, ht9⟩ := V.at_ h_pA (z := x22) (by omega) (by omega)
          have hc9_0 : r9.cs[o9 + (x22).toNat * 2 + 0]? = some (.int .i64 e9.1) := hc9 0 (by decide)
          have hc9_1 : r9.cs[o9 + (x22).toNat * 2 + 1]? = some (.int .i64 e9.2) := hc9 1 (by decide)
          obtain ⟨hwa9, hwb9⟩ := hw9
          obtain ⟨loa9, hia9⟩ := rangei64 hwa9
          obtain ⟨lob9, hib9⟩ := rangei64 hwb9
          refine KO.pv (PV.indexAddrZ un23_B11 sz145_B11 rfl ha9 rfl (by omega) (by omega)) rfl rfl ?_
          refine KO.loadN ag145_B11 sz145_B11 rfl (m7.row0 hb9 hr9) ht9 rfl rfl ?_
          refine KO.allocM m7 zt145_B11 rfl rfl fun H10 m11 => ?_
          refine KO.pv (PV.assign rfl) rfl rfl ?_
          refine KO.storeM m11 (i := 0) rfl sz145_B11 rfl rfl rfl (show 0 + 2 ≤ 2 by decide) (show _ = [.int .i64 e9.1, .int .i64 e9.2] from rfl) rfl fun H12 m13 => ?_
          refine KO.nil ?_
          refine KC.seq ?_
          refine KC.region ?_
          refine KO.pv (PV.fieldAddr fo145_1_B11 rfl) rfl rfl ?_
          refine KO.load1 ag3_B11 rfl (m13.row (i := 0) rfl) rfl rfl rfl ?_
          by_cases h14 : e9.2 < 0
          · refine KO.pv (PV.lssD rfl rfl (decide_eq_true h14)) rfl rfl ?_
            refine KO.pv (PV.move rfl) rfl rfl ?_
            refine KO.no rfl rfl rfl ?_
            refine KO.no rfl rfl rfl ?_
            refine KO.no rfl rfl rfl ?_
            refine KO.no rfl rfl rfl ?_
            refine KO.no rfl rfl rfl ?_
            refine KO.pv (PV.pickT rfl rfl rfl) rfl rfl ?_
            refine KO.pv (PV.move rfl) rfl rfl ?_
            refine KO.no rfl rfl rfl ?_
            refine KO.no rfl rfl rfl ?_
            refine KO.no rfl rfl rfl ?_
            refine KO.no rfl rfl rfl ?_
            refine KO.no rfl rfl rfl ?_
            refine KO.no rfl rfl rfl ?_
            refine KO.no rfl rfl rfl ?_
            refine KO.no rfl rfl rfl ?_
            refine KO.pv (PV.pickT rfl rfl rfl) rfl rfl ?_
            refine KO.nil ?_
            refine KC.condT rfl ?_
            refine KC.seq ?_
            refine KC.region ?_
            refine KO.pv (PV.assign rfl) rfl rfl ?_
            refine KO.nil ?_
            exact KC.ret ⟨rfl, _, (.tmp rfl .nil), 8, rfl, m13.pick [] (by decide) rfl, (by first | omega | (intro h; omega) | (simp only [List.length_nil, true_and, and_true, or_true, true_or] <;> omega) | (exact fun _ => ⟨by omega, by omega, by omega, fun j u hu => by have := hpre.all len_pA (by omega) j u hu; (try dsimp only at this); omega, by omega, by omega⟩)), (by first | omega | (intro h; omega) | (simp only [List.length_nil, true_and, and_true, or_true, true_or] <;> omega))⟩
          · refine KO.pv (PV.lssD rfl rfl (decide_eq_false h14)) rfl rfl ?_
            refine KO.pv (PV.move rfl) rfl rfl ?_
            refine KO.pv (PV.fieldAddr fo145_0_B11 rfl) rfl rfl ?_
            refine KO.load1 ag3_B11 rfl (m13.row (i := 0) rfl) rfl rfl rfl ?_
            refine KO.pv (PV.fieldAddr fo145_1_B11 rfl) rfl rfl ?_
            refine KO.load1 ag3_B11 rfl (m13.row (i := 0) rfl) rfl rfl rfl ?_
            by_cases h15 : e9.1 < e9.2
            · refine KO.pv (PV.lssD rfl rfl (decide_eq_true h15)) rfl rfl ?_
              refine KO.pv (PV.pickF rfl rfl rfl) rfl rfl ?_
              refine KO.pv (PV.move rfl) rfl rfl ?_
              refine KO.no rfl rfl rfl ?_
              refine KO.no rfl rfl rfl ?_
              refine KO.no rfl rfl rfl ?_
              refine KO.no rfl rfl rfl ?_
              refine KO.no rfl rfl rfl ?_
              refine KO.no rfl rfl rfl ?_
              refine KO.no rfl rfl rfl ?_
              refine KO.no rfl rfl rfl ?_
              refine KO.pv (PV.pickT rfl rfl rfl) rfl rfl ?_
              refine KO.nil ?_
              refine KC.condT rfl ?_
              refine KC.seq ?_
              refine KC.region ?_
              refine KO.pv (PV.assign rfl) rfl rfl ?_
              refine KO.nil ?_
              exact KC.ret ⟨rfl, _, (.tmp rfl .nil), 8, rfl, m13.pick [] (by decide) rfl, (by first | omega | (intro h; omega) | (simp only [List.length_nil, true_and, and_true, or_true, true_or] <;> omega) | (exact fun _ => ⟨by omega, by omega, by omega, fun j u hu => by have := hpre.all len_pA (by omega) j u hu; (try dsimp only at this); omega, by omega, by omega⟩)), (by first | omega | (intro h; omega) | (simp only [List.length_nil, true_and, and_true, or_true, true_or] <;> omega))⟩
            · refine KO.pv (PV.lssD rfl rfl (decide_eq_false h15)) rfl rfl ?_
              refine KO.pv (PV.pickF rfl rfl rfl) rfl rfl ?_
              refine KO.pv (PV.move rfl) rfl rfl ?_
              refine KO.pv (PV.fieldAddr fo145_0_B11 rfl) rfl rfl ?_
              refine KO.load1 ag3_B11 rfl (m13.row (i := 0) rfl) rfl rfl rfl ?_
              refine KO.pv (PV.move rfl) rfl rfl ?_
              refine KO.pv (PV.add rfl rfl (wrap64 (by omega) (by omega))) rfl rfl ?_
              refine KO.pv (PV.move rfl) rfl rfl ?_
              refine KO.pv (PV.add rfl rfl (wrap64 (by omega) (by omega))) rfl rfl ?_
              refine KO.pv (PV.mul rfl rfl (wrap64 (by omega) (by omega))) rfl rfl ?_
              refine KO.pv (PV.geqD rfl rfl rfl) rfl rfl ?_
              refine KO.pv (PV.pickF rfl rfl rfl) rfl rfl ?_
              refine KO.nil ?_
              refine KC.condD rfl (fun h16 => ?_) (fun h16 => ?_)
              · refine KC.seq ?_
                refine KC.region ?_
                refine KO.pv (PV.assign rfl) rfl rfl ?_
                refine KO.nil ?_
                exact KC.ret ⟨rfl, _, (.tmp rfl .nil), 8, rfl, m13.pick [] (by decide) rfl, (by first | omega | (intro h; omega) | (simp only [List.length_nil, true_and, and_true, or_true, true_or] <;> omega) | (exact fun _ => ⟨by omega, by omega, by omega, fun j u hu => by have := hpre.all len_pA (by omega) j u hu; (try dsimp only at this); omega, by omega, by omega⟩)), (by first | omega | (intro h; omega) | (simp only [List.length_nil, true_and, and_true, or_true, true_or] <;> omega))⟩
              · refine KC.skip ?_
                refine KC.region ?_
                refine KO.pv (PV.add rfl rfl (wrap64 (by omega) (by omega))) rfl rfl ?_
                refine KO.pv (PV.move rfl) rfl rfl ?_
                refine KO.nil ?_
                exact ⟨_, _, (by omega), (.cons rfl (.cons rfl (.cons rfl (.cons rfl (.cons rfl .nil))))), (x22 + 1), rfl, rfl, (m13.pick [1] (by decide) rfl), (by first | omega | assumption | (constructor <;> omega)), (hpre.step (by assumption) (by omega) (by (try dsimp only); omega))⟩
        · refine KC.exit ?_
          refine KC.seq ?_
          refine KC.seq ?_
          refine KC.region ?_
          refine KO.pv (PV.fieldAddr fo44_1_B11 rfl) rfl rfl ?_
          refine KO.load1 ag3_B11 rfl (m7.row (i := 0) rfl) rfl rfl rfl ?_
          by_cases h17 : pl < 0
          · refine KO.pv (PV.lssD rfl rfl (decide_eq_true h17)) rfl rfl ?_
            refine KO.pv (PV.move rfl) rfl rfl ?_
            refine KO.no rfl rfl rfl ?_
            refine KO.no rfl rfl rfl ?_
            refine KO.no rfl rfl rfl ?_
            refine KO.no rfl rfl rfl ?_
            refine KO.no rfl rfl rfl ?_
            refine KO.no rfl rfl rfl ?_
            refine KO.no rfl rfl rfl ?_
            refine KO.no rfl rfl rfl ?_
            refine KO.no rfl rfl rfl ?_
            refine KO.pv (PV.pickT rfl rfl rfl) rfl rfl ?_
            refine KO.nil ?_
            refine KC.condT rfl ?_
            refine KC.seq ?_
            refine KC.region ?_
            refine KO.pv (PV.assign rfl) rfl rfl ?_
            refine KO.nil ?_
            exact KC.ret ⟨rfl, _, (.tmp rfl .nil), 8, rfl, m7.pick [] (by decide) rfl, (by first | omega | (intro h; omega) | (simp only [List.length_nil, true_and, and_true, or_true, true_or] <;> omega) | (exact fun _ => ⟨by omega, by omega, by omega, fun j u hu => by have := hpre.all len_pA (by omega) j u hu; (try dsimp only at this); omega, by omega, by omega⟩)), (by first | omega | (intro h; omega) | (simp only [List.length_nil, true_and, and_true, or_true, true_or] <;> omega))⟩
          · refine KO.pv (PV.lssD rfl rfl (decide_eq_false h17)) rfl rfl ?_
            refine KO.pv (PV.move rfl) rfl rfl ?_
            refine KO.pv (PV.fieldAddr fo44_1_B11 rfl) rfl rfl ?_
            refine KO.load1 ag3_B11 rfl (m7.row (i := 0) rfl) rfl rfl rfl ?_
            refine KO.pv (PV.quo rfl rfl (by omega) (quoN (by omega) (by omega))) rfl rfl ?_
            refine KO.pv (PV.move rfl) rfl rfl ?_
            refine KO.pv (PV.fieldAddr fo44_0_B11 rfl) rfl rfl ?_
            refine KO.load1 ag23_B11 rfl (m7.row (i := 0) rfl) rfl rfl rfl ?_
            refine KO.pv (PV.len un23_B11 rfl) rfl rfl ?_
            refine KO.pv (PV.add rfl rfl (wrap64 (by omega) (by omega))) rfl rfl ?_
            refine KO.pv (PV.gtrD rfl rfl rfl) rfl rfl ?_
            refine KO.pv (PV.pickF rfl rfl rfl) rfl rfl ?_
            refine KO.nil ?_
            refine KC.condD rfl (fun h18 => ?_) (fun h18 => ?_)
            · refine KC.seq ?_
              refine KC.region ?_
              refine KO.pv (PV.assign rfl) rfl rfl ?_
              refine KO.nil ?_
              exact KC.ret ⟨rfl, _, (.tmp rfl .nil), 8, rfl, m7.pick [] (by decide) rfl, (by first | omega | (intro h; omega) | (simp only [List.length_nil, true_and, and_true, or_true, true_or] <;> omega) | (exact fun _ => ⟨by omega, by omega, by omega, fun j u hu => by have := hpre.all len_pA (by omega) j u hu; (try dsimp only at this); omega, by omega, by omega⟩)), (by first | omega | (intro h; omega) | (simp only [List.length_nil, true_and, and_true, or_true, true_or] <;> omega))⟩
            · refine KC.skip ?_
              refine KC.seq ?_
              refine KC.region ?_
              refine KO.pv (PV.assign rfl) rfl rfl ?_
              refine KO.nil ?_
              exact KC.ret ⟨rfl, _, (.tmp rfl .nil), 0, rfl, m7.pick [] (by decide) rfl, (by first | omega | (intro h; omega) | (simp only [List.length_nil, true_and, and_true, or_true, true_or] <;> omega) | (exact fun _ => ⟨by omega, by omega, by omega, fun j u hu => by have := hpre.all len_pA (by omega) j u hu; (try dsimp only at this); omega, by omega, by omega⟩)), (by first | omega | (intro h; omega) | (simp only [List.length_nil, true_and, and_true, or_true, true_or] <;> omega))⟩
theorem pr_value1 (H : AHeap) (l : Int) (b_p : Nat) (a_w : Option Addr) (n_w c_w : Nat) (w : List Bool) (w_l : IntKind.i64.wrap l = l) (r_p : H.row b_p = some ⟨89, true, true, [.slice a_w n_w c_w]⟩) (l_p : b_p < H.next) (h_w : V EB H a_w n_w c_w w) (h0 : 0 ≤ l ∧ l / 2 < n_w) : WF E0 140 [.int .i64 l, .pointer (some ⟨b_p, 0, none⟩)] H fun q => ∃ (o : Bool), q.1 = .bool o ∧ Mem [] H q.2 [] := by
  obtain ⟨lo_l, hi_l⟩ := rangei64 w_l
  obtain ⟨len_w, cap_w, max_w, wf_w⟩ := h_w.len
  have m0 : Mem [] H H [] := Mem.start
  refine WF.kg Tryz.func140 rfl rfl ?_
  refine KC.seq ?_
  refine KC.region ?_
  refine KO.pv (PV.assign rfl) rfl rfl ?_
  refine KO.nil ?_
  refine KC.seq ?_
  refine KC.region ?_
  refine KO.load1 ag89_B11 rfl (m0.row0 l_p r_p) rfl rfl rfl ?_
  refine KO.pv (PV.move rfl) rfl rfl ?_
  refine KO.pv (PV.quo rfl rfl (by omega) (quoN (by omega) (by omega))) rfl rfl ?_
  obtain ⟨b1, o1, p1, r1, e1, ha1, hb1, hr1, hx1, hw1, hc1, ht1⟩ := V.at_ h_w (z := (l / 2)) (by omega) (by omega)
  have hc1_0 : r1.cs[o1 + ((l / 2)).toNat * 1 + 0]? = some (.bool e1) := hc1 0 (by decide)
  refine KO.pv (PV.indexAddrZ un89_B11 sz4_B11 rfl ha1 rfl (by omega) (by omega)) rfl rfl ?_
  refine KO.load1 ag4_B11 rfl (m0.row0 hb1 hr1) hc1_0 rfl rfl ?_
  refine KO.pv (PV.move rfl) rfl rfl ?_
  refine KO.pv (PV.rem rfl rfl (by omega) (remN (by omega) (by omega))) rfl rfl ?_
  refine KO.pv (PV.eqlD rfl rfl rfl) rfl rfl ?_
  obtain ⟨b2, qb2⟩ : ∃ b : Bool, (e1 != (decide ((l % 2) = 1))) = b := ⟨_, rfl⟩
  refine KO.pv (PV.bneqB un4_B11 rfl rfl qb2) rfl rfl ?_
  refine KO.pv (PV.assign rfl) rfl rfl ?_
  refine KO.nil ?_
  exact KC.ret ⟨rfl, _, (.tmp rfl .nil), b2, rfl, m0.pick [] (by decide) rfl⟩
theorem pr_Value (H : AHeap) (a_pA : Option Addr) (n_pA c_pA : Nat) (pA : List (Int × Int)) (pl : Int) (a_st : Option Addr) (n_st c_st : Nat) (st : List Bool) (h_pA : V EP H a_pA n_pA c_pA pA) (w_pl : IntKind.i64.wrap pl = pl) (h_st : V EB H a_st n_st c_st st) (hns : n_st ≤ 63000) : WF E0 59 [.agg #[.slice a_pA n_pA c_pA, .int .i64 pl], .slice a_st n_st c_st] H fun q => ∃ (o : Bool) (e : Int), q.1 = .tuple #[.bool o, .int .i64 e] ∧ Mem [] H q.2 [] := by
  obtain ⟨len_pA, cap_pA, max_pA, wf_pA⟩ := h_pA.len
  obtain ⟨lo_pl, hi_pl⟩ := rangei64 w_pl
  obtain ⟨len_st, cap_st, max_st, wf_st⟩ := h_st.len
  have m0 : Mem [] H H [] := Mem.start
  refine WF.kg Tryz.func59 rfl rfl ?_
  refine KC.seq ?_
  refine KC.region ?_
  refine KO.boxM m0 rfl rfl (show _ = [.slice a_pA n_pA c_pA, .int .i64 pl] from rfl) rfl rfl fun H1 m2 => ?_
  refine KO.pv (PV.assign rfl) rfl rfl ?_
  refine KO.pv (PV.assign rfl) rfl rfl ?_
  refine KO.nil ?_
  refine KC.seq ?_
  refine KC.seq ?_
  refine KC.region ?_
  refine KO.pv (PV.move rfl) rfl rfl ?_
  refine KO.pv (PV.len un89_B11 rfl) rfl rfl ?_
  refine KO.loadN ag44_B11 sz44_B11 rfl (m2.row (i := 0) rfl) (takeN_of (p := [.slice a_pA n_pA c_pA, .int .i64 pl]) rfl rfl) rfl rfl ?_
  refine KO.call rfl rfl rfl rfl (pr_Check H1 (n_st : Int) a_pA n_pA c_pA _ pl (wrap64 (by omega) (by omega)) (V.mem m2 h_pA) (wrap64 (by omega) (by omega))) fun v3 H3 q3 => ?_
  obtain ⟨e3, hv3, mc3, p3_0, p3_1⟩ := q3
  dsimp only at hv3 mc3
  subst hv3
  have m4 := m2.seq mc3
  refine KO.pv (PV.assign rfl) rfl rfl ?_
  refine KO.nil ?_
  refine KC.seq ?_
  refine KC.region ?_
  refine KO.pv (PV.move rfl) rfl rfl ?_
  refine KO.pv (PV.neqD rfl rfl rfl) rfl rfl ?_
  refine KO.nil ?_
  refine KC.condD rfl (fun h5 => ?_) (fun h5 => ?_)
  · refine KC.seq ?_
    refine KC.region ?_
    refine KO.pv (PV.move rfl) rfl rfl ?_
    refine KO.pv (PV.assign rfl) rfl rfl ?_
    refine KO.pv (PV.assign rfl) rfl rfl ?_
    refine KO.nil ?_
    exact KC.ret ⟨rfl, _, (.tmp rfl (.tmp rfl .nil)), false, e3, rfl, m4.pick [] (by decide) rfl⟩
  · have p3_0t := p3_0 (by omega)
    obtain ⟨p3_0_n0, p3_0_n1, p3_0_al, p3_0_ha, p3_0_l0, p3_0_l1⟩ := id p3_0t
    refine KC.skip ?_
    refine KC.seq ?_
    refine KC.region ?_
    refine KO.buildSliceM m4 el89_B11 ez4_B11 rfl rfl (show _ = some [.bool false] from rfl) rfl rfl fun H6 m7 => ?_
    have m8 := m7.lxRow (C := EB) 4 [false] (i := 0) (n := 1) rfl rfl
    refine KO.pv (PV.move rfl) rfl rfl ?_
    refine KO.appendXL (C := EB) m8 (i := 0) rfl (fun _ _ => trivial) el89_B11 ez4_B11 sb4_B11 un89_B11 rfl rfl (V.new (V.mem m8 h_st)) (by first | omega | (simp only [splice, List.length_append, List.length_set, List.length_replicate, List.length_map, List.length_take, List.length_drop, List.length_cons, List.length_nil] <;> omega)) (by first | omega | (simp only [splice, List.length_append, List.length_set, List.length_replicate, List.length_map, List.length_take, List.length_drop, List.length_cons, List.length_nil] <;> omega)) rfl rfl fun a10 D11 H9 m12 => ?_
    refine KO.allocM m12 zt89_B11 rfl rfl fun H13 m14 => ?_
    refine KO.storeM m14 (i := 0) rfl sz89_B11 rfl rfl rfl (show 0 + 1 ≤ 1 by decide) (show _ = [.slice a10 (1 + n_st) (1 + n_st)] from rfl) rfl fun H15 m16 => ?_
    refine KO.nil ?_
    refine KC.seq ?_
    refine KC.region ?_
    refine KO.pv (PV.makeFunc rfl rfl) rfl rfl ?_
    refine KO.pv (PV.assign rfl) rfl rfl ?_
    refine KO.nil ?_
    refine KC.seq ?_
    refine KC.seq ?_
    refine KC.region ?_
    refine KO.pv (PV.fieldAddr fo44_0_B11 rfl) rfl rfl ?_
    refine KO.load1 ag23_B11 rfl (m16.row (i := 2) rfl) rfl rfl rfl ?_
    refine KO.pv (PV.len un23_B11 rfl) rfl rfl ?_
    refine KO.pv (PV.move rfl) rfl rfl ?_
    refine KO.nil ?_
    refine KC.block ?_
    refine KC.sub (l' := [(2, .pointer (some ⟨H.next, 0, none⟩)), (7, .pointer (some ⟨H9.next, 0, none⟩)), (8, .func (.func 140) #[] #[.pointer (some ⟨H9.next, 0, none⟩)]), (23, .slice a_pA n_pA c_pA), (24, .int .i64 (n_pA : Int)), (25, .int .i64 0)]) (.cons rfl (.cons rfl (.cons rfl (.cons rfl (.cons rfl (.cons rfl .nil)))))) ?_
    refine KC.loopN (fun kq lq A => ∃ (x25 : Int) (a_c7_0 : Option Addr) (n_c7_0 : Nat) (l_c7_0 : List Bool) (D_c7_0 : List Nat), kq = ((n_pA : Int) - x25).toNat ∧ lq = [(2, .pointer (some ⟨H.next, 0, none⟩)), (7, .pointer (some ⟨H9.next, 0, none⟩)), (8, .func (.func 140) #[] #[.pointer (some ⟨H9.next, 0, none⟩)]), (23, .slice a_pA n_pA c_pA), (24, .int .i64 (n_pA : Int)), (25, .int .i64 x25)] ∧ Mem [] H A [R.row H9.next 89 true [.slice a_c7_0 n_c7_0 n_c7_0], R.lx 4 1 a_c7_0 n_c7_0 (cells EB l_c7_0) D_c7_0, R.row H.next 44 true [.slice a_pA n_pA c_pA, .int .i64 pl]] ∧ (0 ≤ x25 ∧ x25 ≤ (n_pA : Int)) ∧ ((n_c7_0 : Int) = 1 + n_st + x25) ∧ (l_c7_0.length = n_c7_0)) ?_ (((n_pA : Int) - 0).toNat) ⟨0, a10, (1 + n_st), ([false] ++ st), D11, rfl, rfl, (m16.pick [0, 1, 2] (by decide) rfl), (by first | omega | assumption | (constructor <;> omega)), (by first | omega | (simp only [splice, List.length_append, List.length_set, List.length_replicate, List.length_map, List.length_take, List.length_drop, List.length_cons, List.length_nil] <;> omega)), (by first | omega | (simp only [splice, List.length_append, List.length_set, List.length_replicate, List.length_map, List.length_take, List.length_drop, List.length_cons, List.length_nil] <;> omega))⟩
    rintro kq lq A17 ⟨x25, a_c7_0, n_c7_0, l_c7_0, D_c7_0, rfl, rfl, m18, hr7, hn7, hl_l_c7_0⟩
    refine KC.seq ?_
    refine KC.region ?_
    refine KO.pv (PV.lssD rfl rfl rfl) rfl rfl ?_
    refine KO.nil ?_
    refine KC.seq ?_
    refine KC.condD rfl (fun h19 => ?_) (fun h19 => ?_)
    · refine KC.skip ?_
      refine KC.seq ?_
      refine KC.block ?_
      refine KC.seq ?_
      refine KC.region ?_
      obtain ⟨b20, o20, p20, r20, e20, ha20, hb20, hr20, hx20, hw20, hc20, ht20⟩ := V.at_ h_pA (z := x25) (by omega) (by omega)
      have hc20_0 : r20.cs[o20 + (x25).toNat * 2 + 0]? = some (.int .i64 e20.1) := hc20 0 (by decide)
      have hc20_1 : r20.cs[o20 + (x25).toNat * 2 + 1]? = some (.int .i64 e20.2) := hc20 1 (by decide)
      obtain ⟨hwa20, hwb20⟩ := hw20
      obtain ⟨loa20, hia20⟩ := rangei64 hwa20
      obtain ⟨lob20, hib20⟩ := rangei64 hwb20
      have gp3_0_ha_20 := p3_0_ha _ _ hx20
      refine KO.pv (PV.indexAddrZ un23_B11 sz145_B11 rfl ha20 rfl (by omega) (by omega)) rfl rfl ?_
      refine KO.loadN ag145_B11 sz145_B11 rfl (m18.row0 hb20 hr20) ht20 rfl rfl ?_
      refine KO.allocM m18 zt145_B11 rfl rfl fun H21 m22 => ?_
      refine KO.storeM m22 (i := 0) rfl sz145_B11 rfl rfl rfl (show 0 + 2 ≤ 2 by decide) (show _ = [.int .i64 e20.1, .int .i64 e20.2] from rfl) rfl fun H23 m24 => ?_
      refine KO.nil ?_
      refine KC.drawG (n := 14) (anc := [0, 0, 0, 4, 14, 30, 62, 62, 190, 510, 1022, 2046, 4095, 8191]) (hv := [4, 9, 12, 13]) (ord := [1, 2, 3, 4, 5, 6, 7, 8, 9, 0, 10, 11, 12, 13]) (by kernel_rfl) (by kernel_rfl) (by kernel_rfl) (by kernel_rfl) (by kernel_rfl) fun H25 n26 g27 => ?_
      have m28 := m24.room n26 g27 [11] (by decide) (by decide)
      refine KD.pv 2 (PV.move rfl) rfl rfl rfl (by kernel_rfl) rfl rfl rfl ?_
      refine KD.pv 6 (PV.fieldAddr fo145_0_B11 rfl) rfl rfl rfl (by kernel_rfl) rfl rfl rfl ?_
      refine KD.load 14 rfl (m28.row (i := 1) rfl) (by rw [read1 ag3_B11]; exact rfl) (pastGo (k := 1) (l := [H25]) (by kernel_rfl) rfl (pastCons ⟨_, (m28.row (i := 1) rfl), (by rw [read1 ag3_B11]; exact rfl)⟩ pastNil)) veq_int rfl (by kernel_rfl) rfl rfl rfl ?_
      refine KD.callV 30 rfl rfl rfl rfl (by kernel_rfl) rfl rfl rfl (pr_value1 H25 e20.1 H9.next _ _ _ _ (wrap64 (by omega) (by omega)) (m28.row (i := 2) rfl) (m28.blt (i := 2) rfl) (m28.lxV (i := 3) rfl (fun _ _ => trivial) (by first | omega | (simp only [splice, List.length_append, List.length_set, List.length_replicate, List.length_map, List.length_take, List.length_drop, List.length_cons, List.length_nil] <;> omega))) (by first | omega | assumption)) fun v29 H29 q29 => ?_
      obtain ⟨o29, hv29, mc29⟩ := q29
      dsimp only at hv29 mc29
      subst hv29
      have m30 := m28.seq mc29
      refine KD.pv 62 (PV.move rfl) rfl rfl rfl (by kernel_rfl) rfl rfl rfl ?_
      rcases Bool.eq_false_or_eq_true o29 with h31 | h31
      · subst h31
        refine KD.pv 126 (PV.move rfl) rfl rfl rfl (by kernel_rfl) rfl rfl rfl ?_
        refine KD.pv 254 (PV.fieldAddr fo145_1_B11 rfl) rfl rfl rfl (by kernel_rfl) rfl rfl rfl ?_
        refine KD.load 510 rfl (m30.row (i := 1) rfl) (by rw [read1 ag3_B11]; exact rfl) (pastGo (k := 1) (l := [H29]) (by kernel_rfl) rfl (pastCons ⟨_, (m30.row (i := 1) rfl), (by rw [read1 ag3_B11]; exact rfl)⟩ pastNil)) veq_int rfl (by kernel_rfl) rfl rfl rfl ?_
        refine KD.callV 1022 rfl rfl rfl rfl (by kernel_rfl) rfl rfl rfl (pr_value1 H29 e20.2 H9.next _ _ _ _ (wrap64 (by omega) (by omega)) (m30.row (i := 2) rfl) (m30.blt (i := 2) rfl) (m30.lxV (i := 3) rfl (fun _ _ => trivial) (by first | omega | (simp only [splice, List.length_append, List.length_set, List.length_replicate, List.length_map, List.length_take, List.length_drop, List.length_cons, List.length_nil] <;> omega))) (by first | omega | assumption)) fun v32 H32 q32 => ?_
        obtain ⟨o32, hv32, mc32⟩ := q32
        dsimp only at hv32 mc32
        subst hv32
        have m33 := m30.seq mc32
        refine KD.load 1023 rfl (m33.row (i := 2) rfl) (by rw [read1 ag89_B11]; exact rfl) (pastGo (k := 3) (l := [H32, H29, H25]) (by kernel_rfl) rfl (pastCons ⟨_, (m33.row (i := 2) rfl), (by rw [read1 ag89_B11]; exact rfl)⟩ (pastCons ⟨_, (m30.row (i := 2) rfl), (by rw [read1 ag89_B11]; exact rfl)⟩ (pastCons ⟨_, (m28.row (i := 2) rfl), (by rw [read1 ag89_B11]; exact rfl)⟩ pastNil)))) veq_sl rfl (by kernel_rfl) rfl rfl rfl ?_
        refine KD.pv 2047 (PV.pickT rfl rfl rfl) rfl rfl rfl (by kernel_rfl) rfl rfl rfl ?_
        refine KD.buildSliceM 4095 m33 (j := 0) rfl el89_B11 ez4_B11 rfl rfl (show _ = some [.bool o32] from rfl) rfl (by kernel_rfl) rfl rfl rfl fun H34 m35 => ?_
        refine KD.appendX 8191 (C := EB) m35 (j := 3) rfl (fun _ _ => trivial) el89_B11 ez4_B11 sb4_B11 un89_B11 rfl rfl (newElems_row1 (C := EB) (y := o32) (m35.row (i := 0) rfl) rfl) rfl (by omega) (by first | omega | (simp only [splice, List.length_append, List.length_set, List.length_replicate, List.length_map, List.length_take, List.length_drop, List.length_cons, List.length_nil] <;> omega)) rfl (by kernel_rfl) rfl rfl rfl fun a37 D38 H36 m39 => ?_
        refine KD.storeM 16383 m39 (j := 2) rfl sz89_B11 rfl rfl rfl (show 0 + 1 ≤ 1 by decide) (show _ = [.slice a37 (n_c7_0 + 1) (n_c7_0 + 1)] from rfl) rfl (by kernel_rfl) rfl rfl fun H40 m41 => ?_
        refine KD.nil ⟨rfl, ?_⟩
        refine KC.region ?_
        refine KO.pv (PV.add rfl rfl (wrap64 (by omega) (by omega))) rfl rfl ?_
        refine KO.pv (PV.move rfl) rfl rfl ?_
        refine KO.nil ?_
        have m42 := m41.lxLst (i := 3) rfl
        exact ⟨_, _, (by omega), (.cons rfl (.cons rfl (.cons rfl (.cons rfl (.cons rfl (.cons rfl .nil)))))), (x25 + 1), a37, (n_c7_0 + 1), (l_c7_0 ++ [o32]), D38, rfl, rfl, (m42.pick [2, 3, 4] (by decide) rfl), (by first | omega | assumption | (constructor <;> omega)), (by first | omega | (simp only [splice, List.length_append, List.length_set, List.length_replicate, List.length_map, List.length_take, List.length_drop, List.length_cons, List.length_nil] <;> omega)), (by first | omega | (simp only [splice, List.length_append, List.length_set, List.length_replicate, List.length_map, List.length_take, List.length_drop, List.length_cons, List.length_nil] <;> omega))⟩
      · subst h31
        refine KD.skip 126 rfl rfl rfl (by kernel_rfl) rfl rfl rfl ?_
        refine KD.skip 254 rfl rfl rfl (by kernel_rfl) rfl rfl rfl ?_
        refine KD.skip 510 rfl rfl rfl (by kernel_rfl) rfl rfl rfl ?_
        refine KD.skipH 1022 rfl rfl rfl (by kernel_rfl) rfl rfl rfl ?_
        refine KD.load 1023 rfl (m30.row (i := 2) rfl) (by rw [read1 ag89_B11]; exact rfl) (pastGo (k := 3) (l := [H29, H29, H25]) (by kernel_rfl) rfl (pastCons ⟨_, (m30.row (i := 2) rfl), (by rw [read1 ag89_B11]; exact rfl)⟩ (pastCons ⟨_, (m30.row (i := 2) rfl), (by rw [read1 ag89_B11]; exact rfl)⟩ (pastCons ⟨_, (m28.row (i := 2) rfl), (by rw [read1 ag89_B11]; exact rfl)⟩ pastNil)))) veq_sl rfl (by kernel_rfl) rfl rfl rfl ?_
        refine KD.pv 2047 (PV.pickF rfl rfl rfl) rfl rfl rfl (by kernel_rfl) rfl rfl rfl ?_
        refine KD.buildSliceM 4095 m30 (j := 0) rfl el89_B11 ez4_B11 rfl rfl (show _ = some [.bool false] from rfl) rfl (by kernel_rfl) rfl rfl rfl fun H43 m44 => ?_
        refine KD.appendX 8191 (C := EB) m44 (j := 3) rfl (fun _ _ => trivial) el89_B11 ez4_B11 sb4_B11 un89_B11 rfl rfl (newElems_row1 (C := EB) (y := false) (m44.row (i := 0) rfl) rfl) rfl (by omega) (by first | omega | (simp only [splice, List.length_append, List.length_set, List.length_replicate, List.length_map, List.length_take, List.length_drop, List.length_cons, List.length_nil] <;> omega)) rfl (by kernel_rfl) rfl rfl rfl fun a46 D47 H45 m48 => ?_
        refine KD.storeM 16383 m48 (j := 2) rfl sz89_B11 rfl rfl rfl (show 0 + 1 ≤ 1 by decide) (show _ = [.slice a46 (n_c7_0 + 1) (n_c7_0 + 1)] from rfl) rfl (by kernel_rfl) rfl rfl fun H49 m50 => ?_
        refine KD.nil ⟨rfl, ?_⟩
        refine KC.region ?_
        refine KO.pv (PV.add rfl rfl (wrap64 (by omega) (by omega))) rfl rfl ?_
        refine KO.pv (PV.move rfl) rfl rfl ?_
        refine KO.nil ?_
        have m51 := m50.lxLst (i := 3) rfl
        exact ⟨_, _, (by omega), (.cons rfl (.cons rfl (.cons rfl (.cons rfl (.cons rfl (.cons rfl .nil)))))), (x25 + 1), a46, (n_c7_0 + 1), (l_c7_0 ++ [false]), D47, rfl, rfl, (m51.pick [2, 3, 4] (by decide) rfl), (by first | omega | assumption | (constructor <;> omega)), (by first | omega | (simp only [splice, List.length_append, List.length_set, List.length_replicate, List.length_map, List.length_take, List.length_drop, List.length_cons, List.length_nil] <;> omega)), (by first | omega | (simp only [splice, List.length_append, List.length_set, List.length_replicate, List.length_map, List.length_take, List.length_drop, List.length_cons, List.length_nil] <;> omega))⟩
    · refine KC.exit ?_
      refine KC.seq ?_
      refine KC.region ?_
      refine KO.pv (PV.move rfl) rfl rfl ?_
      refine KO.pv (PV.fieldAddr fo44_1_B11 rfl) rfl rfl ?_
      refine KO.load1 ag3_B11 rfl (m18.row (i := 2) rfl) rfl rfl rfl ?_
      refine KO.callV rfl rfl rfl rfl rfl (pr_value1 A17 pl H9.next _ _ _ _ (wrap64 (by omega) (by omega)) (m18.row (i := 0) rfl) (m18.blt (i := 0) rfl) (m18.lxV (i := 1) rfl (fun _ _ => trivial) (by first | omega | (simp only [splice, List.length_append, List.length_set, List.length_replicate, List.length_map, List.length_take, List.length_drop, List.length_cons, List.length_nil] <;> omega))) (by first | omega | assumption)) fun v52 H52 q52 => ?_
      obtain ⟨o52, hv52, mc52⟩ := q52
      dsimp only at hv52 mc52
      subst hv52
      have m53 := m18.seq mc52
      refine KO.pv (PV.assign rfl) rfl rfl ?_
      refine KO.pv (PV.assign rfl) rfl rfl ?_
      refine KO.nil ?_
      exact KC.ret ⟨rfl, _, (.tmp rfl (.tmp rfl .nil)), o52, 0, rfl, m53.pick [] (by decide) rfl⟩
theorem pr_and (H : AHeap) (b_b : Nat) (a_bA : Option Addr) (n_bA : Nat) (bA : List (Int × Int)) (D_bA : List Nat) (bf : Int) (fl : Value) (bu : Bool) (x : Int) (y : Int) (h_g : Mem ([b_b] ++ (D_bA ++ [])) H H [R.row b_b 207 true [.slice a_bA n_bA n_bA, .int .i64 bf, fl, .bool bu], R.lst 145 2 a_bA n_bA (cells EP bA) D_bA]) (wf_bA : ∀ u ∈ bA, (EP).wf u) (w_bf : IntKind.i64.wrap bf = bf) (w_x : IntKind.i64.wrap x = x) (w_y : IntKind.i64.wrap y = y) (hb : 1 ≤ bf ∧ bf + n_bA ≤ 1001) : WF E0 143 [.pointer (some ⟨b_b, 0, none⟩), .int .i64 x, .int .i64 y] H fun q => ∃ (z : Int) (aa : Option Addr) (an : Nat) (ax : List (Int × Int)) (aD : List Nat) (fu : Bool), q.1 = .int .i64 z ∧ Mem ([b_b] ++ (D_bA ++ [])) H q.2 [R.row b_b 207 true [.slice aa an an, .int .i64 bf, fl, .bool fu], R.lst 145 2 aa an (cells EP ax) aD] ∧ (0 ≤ z ∧ z ≤ 2001) ∧ (bf + an ≤ 1001 ∧ n_bA ≤ an) ∧ (∀ u ∈ ax, EP.wf u) := by
  have len_bA : bA.length = n_bA := h_g.lstLen (E := EP) (i := 1) rfl
  obtain ⟨lo_bf, hi_bf⟩ := rangei64 w_bf
  obtain ⟨lo_x, hi_x⟩ := rangei64 w_x
  obtain ⟨lo_y, hi_y⟩ := rangei64 w_y
  have m0 := h_g
  refine WF.kg Tryz.func143 rfl rfl ?_
  refine KC.seq ?_
  refine KC.region ?_
  refine KO.pv (PV.assign rfl) rfl rfl ?_
  refine KO.nil ?_
  refine KC.seq ?_
  refine KC.seq ?_
  refine KC.region ?_
  refine KO.pv (PV.move rfl) rfl rfl ?_
  refine KO.pv (PV.move rfl) rfl rfl ?_
  refine KO.call rfl rfl rfl rfl (li_And H x y (wrap64 (by omega) (by omega)) (wrap64 (by omega) (by omega))) fun v1 H1 q1 => ?_
  obtain ⟨z1, o1, e1, hv1, mc1, p1_0, p1_1, p1_2⟩ := q1
  dsimp only at hv1 mc1
  subst hv1
  have m2 := m0.seq mc1
  refine KO.pv (PV.move rfl) rfl rfl ?_
  refine KO.pv (PV.extract rfl rfl) rfl rfl ?_
  refine KO.pv (PV.extract rfl rfl) rfl rfl ?_
  refine KO.pv (PV.extract rfl rfl) rfl rfl ?_
  refine KO.pv (PV.assign rfl) rfl rfl ?_
  refine KO.pv (PV.assign rfl) rfl rfl ?_
  refine KO.pv (PV.assign rfl) rfl rfl ?_
  refine KO.nil ?_
  refine KC.seq ?_
  refine KC.region ?_
  refine KO.pv (PV.move rfl) rfl rfl ?_
  by_cases h3 : e1 ≠ 0
  · refine KO.pv (PV.neqD rfl rfl (decide_eq_true h3)) rfl rfl ?_
    refine KO.pv (PV.move rfl) rfl rfl ?_
    refine KO.no rfl rfl rfl ?_
    refine KO.pv (PV.pickT rfl rfl rfl) rfl rfl ?_
    refine KO.nil ?_
    refine KC.condT rfl ?_
    refine KC.seq ?_
    refine KC.region ?_
    refine KO.pv (PV.move rfl) rfl rfl ?_
    refine KO.pv (PV.assign rfl) rfl rfl ?_
    refine KO.nil ?_
    exact KC.ret ⟨rfl, _, (.tmp rfl .nil), z1, a_bA, n_bA, bA, D_bA, bu, rfl, m2.pick [0, 1] (by decide) rfl, (by first | omega | (intro h; omega) | (simp only [List.length_nil, true_and, and_true, or_true, true_or] <;> omega)), (by first | omega | (intro h; omega) | (simp only [List.length_nil, true_and, and_true, or_true, true_or] <;> omega) | (exact ⟨by omega, by omega⟩)), (by first | omega | (intro h; omega) | (simp only [List.length_nil, true_and, and_true, or_true, true_or] <;> omega) | exact wf_bA | (exact all_app wf_bA (all_one (wfP ⟨by omega, by omega⟩ ⟨by omega, by omega⟩))))⟩
  · refine KO.pv (PV.neqD rfl rfl (decide_eq_false h3)) rfl rfl ?_
    refine KO.pv (PV.move rfl) rfl rfl ?_
    refine KO.pv (PV.move rfl) rfl rfl ?_
    refine KO.pv (PV.pickF rfl rfl rfl) rfl rfl ?_
    refine KO.nil ?_
    refine KC.cond rfl (fun h4 => ?_) (fun h4 => ?_)
    · subst h4
      refine KC.seq ?_
      refine KC.region ?_
      refine KO.pv (PV.move rfl) rfl rfl ?_
      refine KO.pv (PV.assign rfl) rfl rfl ?_
      refine KO.nil ?_
      exact KC.ret ⟨rfl, _, (.tmp rfl .nil), z1, a_bA, n_bA, bA, D_bA, bu, rfl, m2.pick [0, 1] (by decide) rfl, (by first | omega | (intro h; omega) | (simp only [List.length_nil, true_and, and_true, or_true, true_or] <;> omega)), (by first | omega | (intro h; omega) | (simp only [List.length_nil, true_and, and_true, or_true, true_or] <;> omega) | (exact ⟨by omega, by omega⟩)), (by first | omega | (intro h; omega) | (simp only [List.length_nil, true_and, and_true, or_true, true_or] <;> omega) | exact wf_bA | (exact all_app wf_bA (all_one (wfP ⟨by omega, by omega⟩ ⟨by omega, by omega⟩))))⟩
    · subst h4
      refine KC.skip ?_
      refine KC.seq ?_
      refine KC.region ?_
      refine KO.pv (PV.move rfl) rfl rfl ?_
      refine KO.pv (PV.move rfl) rfl rfl ?_
      obtain ⟨x5, hx5, dx5⟩ := maxD x y
      refine KO.pv (PV.maxE rfl rfl hx5) rfl rfl ?_
      refine KO.pv (PV.move rfl) rfl rfl ?_
      refine KO.pv (PV.move rfl) rfl rfl ?_
      obtain ⟨x6, hx6, dx6⟩ := minD x y
      refine KO.pv (PV.minE rfl rfl hx6) rfl rfl ?_
      refine KO.pv (PV.build rfl (bl145_0i64_1i64_B11 _ _)) rfl rfl ?_
      refine KO.allocM m2 zt145_B11 rfl rfl fun H7 m8 => ?_
      refine KO.storeM m8 (i := 0) rfl sz145_B11 rfl rfl rfl (show 0 + 2 ≤ 2 by decide) (show _ = [.int .i64 x5, .int .i64 x6] from rfl) rfl fun H9 m10 => ?_
      refine KO.nil ?_
      refine KC.seq ?_
      refine KC.drawG (n := 7) (anc := [0, 1, 3, 7, 0, 31, 63]) (hv := [5]) (ord := [0, 1, 2, 3, 4, 5, 6]) (by kernel_rfl) (by kernel_rfl) (by kernel_rfl) (by kernel_rfl) (by kernel_rfl) fun H11 n12 g13 => ?_
      have m14 := m10.room n12 g13 [] (by decide) (by decide)
      refine KD.pv 1 (PV.move rfl) rfl rfl rfl (by kernel_rfl) rfl rfl rfl ?_
      refine KD.pv 3 (PV.nilCheck rfl) rfl rfl rfl (by kernel_rfl) rfl rfl rfl ?_
      refine KD.pv 7 (PV.fieldAddr fo207_0_B11 rfl) rfl rfl rfl (by kernel_rfl) rfl rfl rfl ?_
      refine KD.load 15 rfl (m14.row (i := 1) rfl) (by rw [read1 ag23_B11]; exact rfl) (pastGo (k := 1) (l := [H11]) (by kernel_rfl) rfl (pastCons ⟨_, (m14.row (i := 1) rfl), (by rw [read1 ag23_B11]; exact rfl)⟩ pastNil)) veq_sl rfl (by kernel_rfl) rfl rfl rfl ?_
      refine KD.load 31 rfl (m14.row (i := 0) rfl) (readN ag145_B11 sz145_B11 (takeN_of (p := [.int .i64 x5, .int .i64 x6]) rfl rfl)) (pastGo (k := 1) (l := [H11]) (by kernel_rfl) rfl (pastCons ⟨_, (m14.row (i := 0) rfl), (readN ag145_B11 sz145_B11 (takeN_of (p := [.int .i64 x5, .int .i64 x6]) rfl rfl))⟩ pastNil)) (veq_agg (veqCons veqI (veqCons veqI veqNil))) rfl (by kernel_rfl) rfl rfl rfl ?_
      refine KD.call 63 rfl rfl rfl (by kernel_rfl) rfl rfl rfl (Index_and H11 a_bA n_bA n_bA _ x5 x6 (m14.vlst (i := 2) rfl wf_bA (by first | omega | (simp only [splice, List.length_append, List.length_set, List.length_replicate, List.length_map, List.length_take, List.length_drop, List.length_cons, List.length_nil] <;> omega))) (wrap64 (by omega) (by omega)) (wrap64 (by omega) (by omega))) fun v15 H15 q15 => ?_
      obtain ⟨z15, hv15, mc15, p15_0⟩ := q15
      dsimp only at hv15 mc15
      subst hv15
      have m16 := m14.seq mc15
      refine KD.pv 127 (PV.assign rfl) rfl rfl rfl (by kernel_rfl) rfl rfl rfl ?_
      refine KD.nil ⟨rfl, ?_⟩
      refine KC.seq ?_
      refine KC.seq ?_
      refine KC.region ?_
      refine KO.pv (PV.move rfl) rfl rfl ?_
      refine KO.pv (PV.lssD rfl rfl rfl) rfl rfl ?_
      refine KO.nil ?_
      refine KC.condD rfl (fun h17 => ?_) (fun h17 => ?_)
      · refine KC.seq ?_
        refine KC.region ?_
        refine KO.pv (PV.move rfl) rfl rfl ?_
        refine KO.pv (PV.nilCheck rfl) rfl rfl ?_
        refine KO.pv (PV.fieldAddr fo207_0_B11 rfl) rfl rfl ?_
        refine KO.load1 ag23_B11 rfl (m16.row (i := 1) rfl) rfl rfl rfl ?_
        refine KO.pv (PV.len un23_B11 rfl) rfl rfl ?_
        refine KO.pv (PV.assign rfl) rfl rfl ?_
        refine KO.nil ?_
        refine KC.seq ?_
        refine KC.seq ?_
        refine KC.region ?_
        refine KO.pv (PV.move rfl) rfl rfl ?_
        refine KO.pv (PV.nilCheck rfl) rfl rfl ?_
        refine KO.pv (PV.fieldAddr fo207_1_B11 rfl) rfl rfl ?_
        refine KO.load1 ag3_B11 rfl (m16.row (i := 1) rfl) rfl rfl rfl ?_
        refine KO.pv (PV.move rfl) rfl rfl ?_
        refine KO.pv (PV.add rfl rfl (wrap64 (by omega) (by omega))) rfl rfl ?_
        refine KO.pv (PV.gtrD rfl rfl rfl) rfl rfl ?_
        refine KO.nil ?_
        refine KC.condD rfl (fun h18 => ?_) (fun h18 => ?_)
        · refine KC.seq ?_
          refine KC.region ?_
          refine KO.pv (PV.move rfl) rfl rfl ?_
          refine KO.pv (PV.nilCheck rfl) rfl rfl ?_
          refine KO.pv (PV.fieldAddr fo207_3_B11 rfl) rfl rfl ?_
          refine KO.storeM m16 (i := 1) rfl sz4_B11 rfl rfl rfl (show 3 + 1 ≤ 4 by decide) (show _ = [.slice a_bA n_bA n_bA, .int .i64 bf, fl, .bool true] from rfl) rfl fun H19 m20 => ?_
          refine KO.nil ?_
          refine KC.seq ?_
          refine KC.region ?_
          refine KO.pv (PV.assign rfl) rfl rfl ?_
          refine KO.nil ?_
          exact KC.ret ⟨rfl, _, (.tmp rfl .nil), 0, a_bA, n_bA, bA, D_bA, true, rfl, m20.pick [1, 2] (by decide) rfl, (by first | omega | (intro h; omega) | (simp only [List.length_nil, true_and, and_true, or_true, true_or] <;> omega)), (by first | omega | (intro h; omega) | (simp only [List.length_nil, true_and, and_true, or_true, true_or] <;> omega) | (exact ⟨by omega, by omega⟩)), (by first | omega | (intro h; omega) | (simp only [List.length_nil, true_and, and_true, or_true, true_or] <;> omega) | exact wf_bA | (exact all_app wf_bA (all_one (wfP ⟨by omega, by omega⟩ ⟨by omega, by omega⟩))))⟩
        · refine KC.skip ?_
          refine KC.drawG (n := 11) (anc := [0, 0, 2, 6, 14, 0, 32, 126, 255, 511, 1023]) (hv := [7, 10]) (ord := [1, 2, 3, 4, 5, 6, 7, 0, 8, 9, 10]) (by kernel_rfl) (by kernel_rfl) (by kernel_rfl) (by kernel_rfl) (by kernel_rfl) fun H21 n22 g23 => ?_
          have m24 := m16.room n22 g23 [6] (by decide) (by decide)
          refine KD.pv 2 (PV.move rfl) rfl rfl rfl (by kernel_rfl) rfl rfl rfl ?_
          refine KD.pv 6 (PV.nilCheck rfl) rfl rfl rfl (by kernel_rfl) rfl rfl rfl ?_
          refine KD.pv 14 (PV.fieldAddr fo207_0_B11 rfl) rfl rfl rfl (by kernel_rfl) rfl rfl rfl ?_
          refine KD.load 30 rfl (m24.row (i := 2) rfl) (by rw [read1 ag23_B11]; exact rfl) (pastGo (k := 1) (l := [H21]) (by kernel_rfl) rfl (pastCons ⟨_, (m24.row (i := 2) rfl), (by rw [read1 ag23_B11]; exact rfl)⟩ pastNil)) veq_sl rfl (by kernel_rfl) rfl rfl rfl ?_
          refine KD.load 62 rfl (m24.row (i := 1) rfl) (readN ag145_B11 sz145_B11 (takeN_of (p := [.int .i64 x5, .int .i64 x6]) rfl rfl)) (pastGo (k := 1) (l := [H21]) (by kernel_rfl) rfl (pastCons ⟨_, (m24.row (i := 1) rfl), (readN ag145_B11 sz145_B11 (takeN_of (p := [.int .i64 x5, .int .i64 x6]) rfl rfl))⟩ pastNil)) (veq_agg (veqCons veqI (veqCons veqI veqNil))) rfl (by kernel_rfl) rfl rfl rfl ?_
          refine KD.buildSliceM 126 m24 (j := 0) rfl el23_B11 ez145_B11 rfl rfl (show _ = some [.int .i64 x5, .int .i64 x6] from rfl) rfl (by kernel_rfl) rfl rfl rfl fun H25 m26 => ?_
          refine KD.appendC 254 (C := EP) m26 (j := 3) rfl el23_B11 ez145_B11 sb145_B11 un23_B11 rfl rfl (newElems_row1 (C := EP) (y := (x5, x6)) (m26.row (i := 0) rfl) rfl) rfl (by first | omega | (simp only [splice, List.length_append, List.length_set, List.length_replicate, List.length_map, List.length_take, List.length_drop, List.length_cons, List.length_nil] <;> omega)) rfl (by kernel_rfl) rfl rfl rfl fun a28 D29 H27 m30 => ?_
          refine KD.pv 255 (PV.move rfl) rfl rfl rfl (by kernel_rfl) rfl rfl rfl ?_
          refine KD.pv 511 (PV.nilCheck rfl) rfl rfl rfl (by kernel_rfl) rfl rfl rfl ?_
          refine KD.pv 1023 (PV.fieldAddr fo207_0_B11 rfl) rfl rfl rfl (by kernel_rfl) rfl rfl rfl ?_
          refine KD.storeM 2047 m30 (j := 2) rfl sz23_B11 rfl rfl rfl (show 0 + 1 ≤ 4 by decide) (show _ = [.slice a28 (n_bA + 1) (n_bA + 1), .int .i64 bf, fl, .bool bu] from rfl) rfl (by kernel_rfl) rfl rfl fun H31 m32 => ?_
          refine KD.nil ⟨rfl, ?_⟩
          refine KC.seq ?_
          refine KC.region ?_
          refine KO.pv (PV.move rfl) rfl rfl ?_
          refine KO.pv (PV.nilCheck rfl) rfl rfl ?_
          refine KO.pv (PV.fieldAddr fo207_1_B11 rfl) rfl rfl ?_
          refine KO.load1 ag3_B11 rfl (m32.row (i := 2) rfl) rfl rfl rfl ?_
          refine KO.pv (PV.move rfl) rfl rfl ?_
          refine KO.pv (PV.add rfl rfl (wrap64 (by omega) (by omega))) rfl rfl ?_
          refine KO.pv (PV.mul rfl rfl (wrap64 (by omega) (by omega))) rfl rfl ?_
          refine KO.pv (PV.assign rfl) rfl rfl ?_
          refine KO.nil ?_
          exact KC.ret ⟨rfl, _, (.tmp rfl .nil), (2 * (bf + (n_bA : Int))), a28, (n_bA + 1), (bA ++ [(x5, x6)]), D29, bu, rfl, m32.pick [2, 3] (by decide) rfl, (by first | omega | (intro h; omega) | (simp only [List.length_nil, true_and, and_true, or_true, true_or] <;> omega)), (by first | omega | (intro h; omega) | (simp only [List.length_nil, true_and, and_true, or_true, true_or] <;> omega) | (exact ⟨by omega, by omega⟩)), (by first | omega | (intro h; omega) | (simp only [List.length_nil, true_and, and_true, or_true, true_or] <;> omega) | exact wf_bA | (exact all_app wf_bA (all_one (wfP ⟨by omega, by omega⟩ ⟨by omega, by omega⟩))))⟩
      · refine KC.skip ?_
        refine KC.seq ?_
        refine KC.region ?_
        refine KO.pv (PV.move rfl) rfl rfl ?_
        refine KO.pv (PV.nilCheck rfl) rfl rfl ?_
        refine KO.pv (PV.fieldAddr fo207_1_B11 rfl) rfl rfl ?_
        refine KO.load1 ag3_B11 rfl (m16.row (i := 1) rfl) rfl rfl rfl ?_
        refine KO.pv (PV.move rfl) rfl rfl ?_
        refine KO.pv (PV.add rfl rfl (wrap64 (by omega) (by omega))) rfl rfl ?_
        refine KO.pv (PV.mul rfl rfl (wrap64 (by omega) (by omega))) rfl rfl ?_
        refine KO.pv (PV.assign rfl) rfl rfl ?_
        refine KO.nil ?_
        exact KC.ret ⟨rfl, _, (.tmp rfl .nil), (2 * (bf + z15)), a_bA, n_bA, bA, D_bA, bu, rfl, m16.pick [1, 2] (by decide) rfl, (by first | omega | (intro h; omega) | (simp only [List.length_nil, true_and, and_true, or_true, true_or] <;> omega)), (by first | omega | (intro h; omega) | (simp only [List.length_nil, true_and, and_true, or_true, true_or] <;> omega) | (exact ⟨by omega, by omega⟩)), (by first | omega | (intro h; omega) | (simp only [List.length_nil, true_and, and_true, or_true, true_or] <;> omega) | exact wf_bA | (exact all_app wf_bA (all_one (wfP ⟨by omega, by omega⟩ ⟨by omega, by omega⟩))))⟩
theorem pr_over1 (H : AHeap) (v : Int) (w_v : IntKind.i64.wrap v = v) (h0 : 0 ≤ v ∧ v ≤ 100000) : WF E0 190 [.int .i64 v] H fun q => q.1 = .int .i64 (2 * v) ∧ Mem [] H q.2 [] := by
  obtain ⟨lo_v, hi_v⟩ := rangei64 w_v
  have m0 : Mem [] H H [] := Mem.start
  refine WF.kg Tryz.func190 rfl rfl ?_
  refine KC.seq ?_
  refine KC.region ?_
  refine KO.pv (PV.assign rfl) rfl rfl ?_
  refine KO.nil ?_
  refine KC.seq ?_
  refine KC.region ?_
  refine KO.pv (PV.move rfl) rfl rfl ?_
  refine KO.pv (PV.mul rfl rfl (wrap64 (by omega) (by omega))) rfl rfl ?_
  refine KO.pv (PV.assign rfl) rfl rfl ?_
  refine KO.nil ?_
  exact KC.ret ⟨rfl, _, (.tmp rfl .nil), rfl, m0.pick [] (by decide) rfl⟩
theorem pr_put1l (H : AHeap) (v : Int) (b_p : Nat) (a_w : Option Addr) (n_w c_w : Nat) (w : List Int) (w_v : IntKind.i64.wrap v = v) (r_p : H.row b_p = some ⟨24, true, true, [.slice a_w n_w c_w]⟩) (l_p : b_p < H.next) (h_w : V (EI .i64) H a_w n_w c_w w) (h0 : 1 ≤ v ∧ v ≤ n_w) (hw : ∀ u ∈ w, 0 ≤ u ∧ u ≤ 2001) : WF E0 148 [.int .i64 v, .pointer (some ⟨b_p, 0, none⟩)] H fun q => ∃ (z : Int), q.1 = .int .i64 z ∧ Mem [] H q.2 [] ∧ (0 ≤ z ∧ z ≤ 2001) := by
  obtain ⟨lo_v, hi_v⟩ := rangei64 w_v
  obtain ⟨len_w, cap_w, max_w, wf_w⟩ := h_w.len
  have m0 : Mem [] H H [] := Mem.start
  refine WF.kg Tryz.func148 rfl rfl ?_
  refine KC.seq ?_
  refine KC.region ?_
  refine KO.pv (PV.assign rfl) rfl rfl ?_
  refine KO.nil ?_
  refine KC.seq ?_
  refine KC.region ?_
  refine KO.load1 ag24_B11 rfl (m0.row0 l_p r_p) rfl rfl rfl ?_
  refine KO.pv (PV.move rfl) rfl rfl ?_
  refine KO.pv (PV.sub rfl rfl (wrap64 (by omega) (by omega))) rfl rfl ?_
  obtain ⟨b1, o1, p1, r1, e1, ha1, hb1, hr1, hx1, hw1, hc1, ht1⟩ := V.at_ h_w (z := (v - 1)) (by omega) (by omega)
  have hc1_0 : r1.cs[o1 + ((v - 1)).toNat * 1 + 0]? = some (.int .i64 e1) := hc1 0 (by decide)
  have hw1 : IntKind.i64.wrap e1 = e1 := hw1
  obtain ⟨lo1, hi1⟩ := rangei64 hw1
  have b1 := hw _ (List.mem_of_getElem? hx1)
  refine KO.pv (PV.indexAddrZ un24_B11 sz3_B11 rfl ha1 rfl (by omega) (by omega)) rfl rfl ?_
  refine KO.load1 ag3_B11 rfl (m0.row0 hb1 hr1) hc1_0 rfl rfl ?_
  refine KO.pv (PV.assign rfl) rfl rfl ?_
  refine KO.nil ?_
  exact KC.ret ⟨rfl, _, (.tmp rfl .nil), e1, rfl, m0.pick [] (by decide) rfl, (by first | omega | (intro h; omega) | (simp only [List.length_nil, true_and, and_true, or_true, true_or] <;> omega))⟩
theorem pr_putof (H : AHeap) (l : Int) (b_p : Nat) (a_w : Option Addr) (n_w c_w : Nat) (w : List Int) (w_l : IntKind.i64.wrap l = l) (r_p : H.row b_p = some ⟨24, true, true, [.slice a_w n_w c_w]⟩) (l_p : b_p < H.next) (h_w : V (EI .i64) H a_w n_w c_w w) (h0 : 0 ≤ l ∧ l / 2 < n_w) (hw : ∀ u ∈ w, 0 ≤ u ∧ u ≤ 2001) : WF E0 193 [.int .i64 l, .pointer (some ⟨b_p, 0, none⟩)] H fun q => ∃ (z : Int), q.1 = .int .i64 z ∧ Mem [] H q.2 [] ∧ (0 ≤ z ∧ z ≤ 2001) := by
  obtain ⟨lo_l, hi_l⟩ := rangei64 w_l
  obtain ⟨len_w, cap_w, max_w, wf_w⟩ := h_w.len
  have m0 : Mem [] H H [] := Mem.start
  refine WF.kg Tryz.func193 rfl rfl ?_
  refine KC.seq ?_
  refine KC.region ?_
  refine KO.pv (PV.assign rfl) rfl rfl ?_
  refine KO.nil ?_
  refine KC.seq ?_
  refine KC.region ?_
  refine KO.load1 ag24_B11 rfl (m0.row0 l_p r_p) rfl rfl rfl ?_
  refine KO.pv (PV.move rfl) rfl rfl ?_
  refine KO.pv (PV.quo rfl rfl (by omega) (quoN (by omega) (by omega))) rfl rfl ?_
  obtain ⟨b1, o1, p1, r1, e1, ha1, hb1, hr1, hx1, hw1, hc1, ht1⟩ := V.at_ h_w (z := (l / 2)) (by omega) (by omega)
  have hc1_0 : r1.cs[o1 + ((l / 2)).toNat * 1 + 0]? = some (.int .i64 e1) := hc1 0 (by decide)
  have hw1 : IntKind.i64.wrap e1 = e1 := hw1
  obtain ⟨lo1, hi1⟩ := rangei64 hw1
  have b1 := hw _ (List.mem_of_getElem? hx1)
  refine KO.pv (PV.indexAddrZ un24_B11 sz3_B11 rfl ha1 rfl (by omega) (by omega)) rfl rfl ?_
  refine KO.load1 ag3_B11 rfl (m0.row0 hb1 hr1) hc1_0 rfl rfl ?_
  refine KO.pv (PV.move rfl) rfl rfl ?_
  refine KO.pv (PV.and1 rfl rfl (by omega) (by omega)) rfl rfl ?_
  obtain ⟨x2, rx2, dx2, zx2, qx2⟩ := xorB (e1) ((l % 2)) (by omega) (by omega) (by omega) (by omega)
  refine KO.pv (PV.xorB rfl rfl qx2) rfl rfl ?_
  refine KO.pv (PV.assign rfl) rfl rfl ?_
  refine KO.nil ?_
  exact KC.ret ⟨rfl, _, (.tmp rfl .nil), x2, rfl, m0.pick [] (by decide) rfl, (by first | omega | (intro h; omega) | (simp only [List.length_nil, true_and, and_true, or_true, true_or] <;> omega))⟩
theorem pr_putO (H : AHeap) (b_b : Nat) (a_bA : Option Addr) (n_bA : Nat) (bA : List (Int × Int)) (D_bA : List Nat) (bf : Int) (bu : Bool) (n : Int) (a_pA : Option Addr) (n_pA c_pA : Nat) (pA : List (Int × Int)) (pl : Int) (h_g : Mem ([b_b] ++ (D_bA ++ [])) H H [R.row b_b 207 true [.slice a_bA n_bA n_bA, .int .i64 bf, .func (.func 190) #[] #[], .bool bu], R.lst 145 2 a_bA n_bA (cells EP bA) D_bA]) (wf_bA : ∀ u ∈ bA, (EP).wf u) (w_bf : IntKind.i64.wrap bf = bf) (w_n : IntKind.i64.wrap n = n) (h_pA : V EP H a_pA n_pA c_pA pA) (s_pA : 0 < n_pA → ∀ y, a_pA = some y → y.block ∉ ([b_b] ++ (D_bA ++ []))) (w_pl : IntKind.i64.wrap pl = pl) (hb : 1 ≤ bf ∧ bf + n_bA ≤ 1001) (ok : PredOK n pA pl) : WF E0 146 [.pointer (some ⟨b_b, 0, none⟩), .int .i64 n, .agg #[.slice a_pA n_pA c_pA, .int .i64 pl]] H fun q => ∃ (z : Int) (aa : Option Addr) (an : Nat) (ax : List (Int × Int)) (aD : List Nat) (fu : Bool), q.1 = .int .i64 z ∧ Mem ([b_b] ++ (D_bA ++ [])) H q.2 [R.row b_b 207 true [.slice aa an an, .int .i64 bf, .func (.func 190) #[] #[], .bool fu], R.lst 145 2 aa an (cells EP ax) aD] ∧ (0 ≤ z ∧ z ≤ 2001) ∧ (bf + an ≤ 1001 ∧ n_bA ≤ an) ∧ (∀ u ∈ ax, EP.wf u) := by
  have len_bA : bA.length = n_bA := h_g.lstLen (E := EP) (i := 1) rfl
  obtain ⟨lo_bf, hi_bf⟩ := rangei64 w_bf
  obtain ⟨lo_n, hi_n⟩ := rangei64 w_n
  obtain ⟨len_pA, cap_pA, max_pA, wf_pA⟩ := h_pA.len
  obtain ⟨lo_pl, hi_pl⟩ := rangei64 w_pl
  obtain ⟨ok_n0, ok_n1, ok_al, ok_ha, ok_l0, ok_l1⟩ := id ok
  have m0 := h_g
  refine WF.kg Tryz.func146 rfl rfl ?_
  refine KC.seq ?_
  refine KC.region ?_
  refine KO.boxM m0 rfl rfl (show _ = [.slice a_pA n_pA c_pA, .int .i64 pl] from rfl) rfl rfl fun H1 m2 => ?_
  refine KO.pv (PV.assign rfl) rfl rfl ?_
  refine KO.nil ?_
  refine KC.seq ?_
  refine KC.region ?_
  refine KO.buildSliceM m2 el24_B11 ez3_B11 rfl rfl (show _ = some [.int .i64 0] from rfl) rfl rfl fun H3 m4 => ?_
  have m5 := m4.lxRow (C := (EI .i64)) 3 [0] (i := 0) (n := 1) rfl rfl
  refine KO.allocM m5 zt24_B11 rfl rfl fun H6 m7 => ?_
  refine KO.storeM m7 (i := 0) rfl sz24_B11 rfl rfl rfl (show 0 + 1 ≤ 1 by decide) (show _ = [.slice (some ⟨H1.next, 0, none⟩) 1 1] from rfl) rfl fun H8 m9 => ?_
  refine KO.nil ?_
  refine KC.seq ?_
  refine KC.seq ?_
  refine KC.region ?_
  refine KO.pv (PV.assign rfl) rfl rfl ?_
  refine KO.nil ?_
  refine KC.block ?_
  refine KC.sub (l' := [(0, .pointer (some ⟨b_b, 0, none⟩)), (1, .int .i64 n), (5, .pointer (some ⟨H.next, 0, none⟩)), (7, .pointer (some ⟨H3.next, 0, none⟩)), (8, .int .i64 1)]) (.cons rfl (.cons rfl (.cons rfl (.cons rfl (.cons rfl .nil))))) ?_
  refine KC.loopN (fun kq lq A => ∃ (x8 : Int) (a_c7_0 : Option Addr) (n_c7_0 : Nat) (l_c7_0 : List Int) (D_c7_0 : List Nat), kq = (n + 1 - x8).toNat ∧ lq = [(0, .pointer (some ⟨b_b, 0, none⟩)), (1, .int .i64 n), (5, .pointer (some ⟨H.next, 0, none⟩)), (7, .pointer (some ⟨H3.next, 0, none⟩)), (8, .int .i64 x8)] ∧ Mem ([b_b] ++ (D_bA ++ [])) H A [R.row H3.next 24 true [.slice a_c7_0 n_c7_0 n_c7_0], R.lx 3 1 a_c7_0 n_c7_0 (cells (EI .i64) l_c7_0) D_c7_0, R.row H.next 44 true [.slice a_pA n_pA c_pA, .int .i64 pl], R.row b_b 207 true [.slice a_bA n_bA n_bA, .int .i64 bf, .func (.func 190) #[] #[], .bool bu], R.lst 145 2 a_bA n_bA (cells EP bA) D_bA] ∧ (1 ≤ x8 ∧ x8 ≤ n + 1) ∧ ((n_c7_0 : Int) = x8) ∧ (l_c7_0.length = n_c7_0) ∧ (∀ u ∈ l_c7_0, (EI .i64).wf u) ∧ (∀ u ∈ l_c7_0, 0 ≤ u ∧ u ≤ 2001)) ?_ ((n + 1 - 1).toNat) ⟨1, (some ⟨H1.next, 0, none⟩), 1, [0], [H1.next], rfl, rfl, (m9.pick [0, 1, 2, 3, 4] (by decide) rfl), (by first | omega | (simp only [splice, List.length_append, List.length_set, List.length_replicate, List.length_map, List.length_take, List.length_drop, List.length_cons, List.length_nil] <;> omega)), (by first | omega | (simp only [splice, List.length_append, List.length_set, List.length_replicate, List.length_map, List.length_take, List.length_drop, List.length_cons, List.length_nil] <;> omega)), (by first | omega | (simp only [splice, List.length_append, List.length_set, List.length_replicate, List.length_map, List.length_take, List.length_drop, List.length_cons, List.length_nil] <;> omega)), (all_one (wf64 (by omega) (by omega))), (all_one (by first | omega | assumption | (constructor <;> omega)))⟩
  rintro kq lq A10 ⟨x8, a_c7_0, n_c7_0, l_c7_0, D_c7_0, rfl, rfl, m11, hx8, hn7, hl_l_c7_0, hw_l_c7_0, hb7⟩
  refine KC.seq ?_
  refine KC.seq ?_
  refine KC.region ?_
  refine KO.pv (PV.move rfl) rfl rfl ?_
  refine KO.pv (PV.move rfl) rfl rfl ?_
  refine KO.pv (PV.leqD rfl rfl rfl) rfl rfl ?_
  refine KO.nil ?_
  refine KC.condD rfl (fun h12 => ?_) (fun h12 => ?_)
  · refine KC.skip ?_
    refine KC.seq ?_
    refine KC.block ?_
    refine KC.drawG (n := 10) (anc := [0, 0, 2, 6, 14, 0, 62, 126, 255, 511]) (hv := [6, 8, 9]) (ord := [1, 2, 3, 4, 5, 6, 0, 7, 8, 9]) (by kernel_rfl) (by kernel_rfl) (by kernel_rfl) (by kernel_rfl) (by kernel_rfl) fun H13 n14 g15 => ?_
    have m16 := m11.room n14 g15 [7] (by decide) (by decide)
    refine KD.pv 2 (PV.move rfl) rfl rfl rfl (by kernel_rfl) rfl rfl rfl ?_
    refine KD.pv 6 (PV.nilCheck rfl) rfl rfl rfl (by kernel_rfl) rfl rfl rfl ?_
    refine KD.pv 14 (PV.fieldAddr fo207_2_B11 rfl) rfl rfl rfl (by kernel_rfl) rfl rfl rfl ?_
    refine KD.load 30 rfl (m16.row (i := 4) rfl) (by rw [read1 ag151_B11]; exact rfl) (pastGo (k := 1) (l := [H13]) (by kernel_rfl) rfl (pastCons ⟨_, (m16.row (i := 4) rfl), (by rw [read1 ag151_B11]; exact rfl)⟩ pastNil)) (veq_func veqNil veqNil) rfl (by kernel_rfl) rfl rfl rfl ?_
    refine KD.pv 62 (PV.move rfl) rfl rfl rfl (by kernel_rfl) rfl rfl rfl ?_
    refine KD.callV 126 rfl rfl rfl rfl (by kernel_rfl) rfl rfl rfl (pr_over1 H13 x8 (wrap64 (by omega) (by omega)) (by first | omega | assumption)) fun v17 H17 q17 => ?_
    obtain ⟨hv17, mc17⟩ := q17
    dsimp only at hv17 mc17
    subst hv17
    have m18 := m16.seq mc17
    refine KD.load 127 rfl (m18.row (i := 1) rfl) (by rw [read1 ag24_B11]; exact rfl) (pastGo (k := 2) (l := [H17, H13]) (by kernel_rfl) rfl (pastCons ⟨_, (m18.row (i := 1) rfl), (by rw [read1 ag24_B11]; exact rfl)⟩ (pastCons ⟨_, (m16.row (i := 1) rfl), (by rw [read1 ag24_B11]; exact rfl)⟩ pastNil))) veq_sl rfl (by kernel_rfl) rfl rfl rfl ?_
    refine KD.buildSliceM 255 m18 (j := 0) rfl el24_B11 ez3_B11 rfl rfl (show _ = some [.int .i64 (2 * x8)] from rfl) rfl (by kernel_rfl) rfl rfl rfl fun H19 m20 => ?_
    refine KD.appendX 511 (C := (EI .i64)) m20 (j := 2) rfl hw_l_c7_0 el24_B11 ez3_B11 sb3_B11 un24_B11 rfl rfl (newElems_row1 (C := (EI .i64)) (y := (2 * x8)) (m20.row (i := 0) rfl) rfl) rfl (by omega) (by first | omega | (simp only [splice, List.length_append, List.length_set, List.length_replicate, List.length_map, List.length_take, List.length_drop, List.length_cons, List.length_nil] <;> omega)) rfl (by kernel_rfl) rfl rfl rfl fun a22 D23 H21 m24 => ?_
    refine KD.storeM 1023 m24 (j := 1) rfl sz24_B11 rfl rfl rfl (show 0 + 1 ≤ 1 by decide) (show _ = [.slice a22 (n_c7_0 + 1) (n_c7_0 + 1)] from rfl) rfl (by kernel_rfl) rfl rfl fun H25 m26 => ?_
    refine KD.nil ⟨rfl, ?_⟩
    refine KC.region ?_
    refine KO.pv (PV.move rfl) rfl rfl ?_
    refine KO.pv (PV.add rfl rfl (wrap64 (by omega) (by omega))) rfl rfl ?_
    refine KO.pv (PV.assign rfl) rfl rfl ?_
    refine KO.nil ?_
    have m27 := m26.lxLst (i := 2) rfl
    exact ⟨_, _, (by omega), (.cons rfl (.cons rfl (.cons rfl (.cons rfl (.cons rfl .nil))))), (x8 + 1), a22, (n_c7_0 + 1), (l_c7_0 ++ [(2 * x8)]), D23, rfl, rfl, (m27.pick [1, 2, 3, 4, 5] (by decide) rfl), (by first | omega | (simp only [splice, List.length_append, List.length_set, List.length_replicate, List.length_map, List.length_take, List.length_drop, List.length_cons, List.length_nil] <;> omega)), (by first | omega | (simp only [splice, List.length_append, List.length_set, List.length_replicate, List.length_map, List.length_take, List.length_drop, List.length_cons, List.length_nil] <;> omega)), (by first | omega | (simp only [splice, List.length_append, List.length_set, List.length_replicate, List.length_map, List.length_take, List.length_drop, List.length_cons, List.length_nil] <;> omega)), (all_app hw_l_c7_0 (all_one (wf64 (by omega) (by omega)))), (all_app hb7 (all_one (by first | omega | assumption | (constructor <;> omega))))⟩
  · refine KC.exit ?_
    refine KC.seq ?_
    refine KC.region ?_
    refine KO.pv (PV.makeFunc rfl rfl) rfl rfl ?_
    refine KO.pv (PV.assign rfl) rfl rfl ?_
    refine KO.nil ?_
    refine KC.seq ?_
    refine KC.seq ?_
    refine KC.region ?_
    refine KO.pv (PV.fieldAddr fo44_0_B11 rfl) rfl rfl ?_
    refine KO.load1 ag23_B11 rfl (m11.row (i := 2) rfl) rfl rfl rfl ?_
    refine KO.pv (PV.len un23_B11 rfl) rfl rfl ?_
    refine KO.pv (PV.move rfl) rfl rfl ?_
    refine KO.nil ?_
    refine KC.block ?_
    refine KC.sub (l' := [(0, .pointer (some ⟨b_b, 0, none⟩)), (5, .pointer (some ⟨H.next, 0, none⟩)), (7, .pointer (some ⟨H3.next, 0, none⟩)), (9, .func (.func 193) #[] #[.pointer (some ⟨H3.next, 0, none⟩)]), (29, .slice a_pA n_pA c_pA), (30, .int .i64 (n_pA : Int)), (31, .int .i64 0)]) (.cons rfl (.cons rfl (.cons rfl (.cons rfl (.cons rfl (.cons rfl (.cons rfl .nil))))))) ?_
    refine KC.loopN (fun kq lq A => ∃ (x31 : Int) (a_c7_0b : Option Addr) (n_c7_0b : Nat) (l_c7_0b : List Int) (D_c7_0b : List Nat) (a_c0_0 : Option Addr) (n_c0_0 : Nat) (l_c0_0 : List (Int × Int)) (D_c0_0 : List Nat) (c0_3 : Bool), kq = ((n_pA : Int) - x31).toNat ∧ lq = [(0, .pointer (some ⟨b_b, 0, none⟩)), (5, .pointer (some ⟨H.next, 0, none⟩)), (7, .pointer (some ⟨H3.next, 0, none⟩)), (9, .func (.func 193) #[] #[.pointer (some ⟨H3.next, 0, none⟩)]), (29, .slice a_pA n_pA c_pA), (30, .int .i64 (n_pA : Int)), (31, .int .i64 x31)] ∧ Mem ([b_b] ++ (D_bA ++ [])) H A [R.row H3.next 24 true [.slice a_c7_0b n_c7_0b n_c7_0b], R.lx 3 1 a_c7_0b n_c7_0b (cells (EI .i64) l_c7_0b) D_c7_0b, R.row H.next 44 true [.slice a_pA n_pA c_pA, .int .i64 pl], R.row b_b 207 true [.slice a_c0_0 n_c0_0 n_c0_0, .int .i64 bf, .func (.func 190) #[] #[], .bool c0_3], R.lst 145 2 a_c0_0 n_c0_0 (cells EP l_c0_0) D_c0_0] ∧ (0 ≤ x31 ∧ x31 ≤ (n_pA : Int)) ∧ ((n_c7_0b : Int) = 1 + n + x31) ∧ (bf + n_c0_0 ≤ 1001 ∧ n_bA ≤ n_c0_0) ∧ (l_c7_0b.length = n_c7_0b) ∧ (∀ u ∈ l_c7_0b, (EI .i64).wf u) ∧ (∀ u ∈ l_c7_0b, 0 ≤ u ∧ u ≤ 2001) ∧ (l_c0_0.length = n_c0_0) ∧ (∀ u ∈ l_c0_0, (EP).wf u)) ?_ (((n_pA : Int) - 0).toNat) ⟨0, a_c7_0, n_c7_0, l_c7_0, D_c7_0, a_bA, n_bA, bA, D_bA, bu, rfl, rfl, (m11.pick [0, 1, 2, 3, 4] (by decide) rfl), (by first | omega | assumption | (constructor <;> omega)), (by first | omega | (simp only [splice, List.length_append, List.length_set, List.length_replicate, List.length_map, List.length_take, List.length_drop, List.length_cons, List.length_nil] <;> omega)), (by first | omega | (simp only [splice, List.length_append, List.length_set, List.length_replicate, List.length_map, List.length_take, List.length_drop, List.length_cons, List.length_nil] <;> omega)), (by first | omega | (simp only [splice, List.length_append, List.length_set, List.length_replicate, List.length_map, List.length_take, List.length_drop, List.length_cons, List.length_nil] <;> omega)), hw_l_c7_0, (by assumption), (by first | omega | (simp only [splice, List.length_append, List.length_set, List.length_replicate, List.length_map, List.length_take, List.length_drop, List.length_cons, List.length_nil] <;> omega)), wf_bA⟩
    rintro kq lq A28 ⟨x31, a_c7_0b, n_c7_0b, l_c7_0b, D_c7_0b, a_c0_0, n_c0_0, l_c0_0, D_c0_0, c0_3, rfl, rfl, m29, hr8, hn7b, hba, hl_l_c7_0b, hw_l_c7_0b, hb7b, hl_l_c0_0, hw_l_c0_0⟩
    refine KC.seq ?_
    refine KC.region ?_
    refine KO.pv (PV.lssD rfl rfl rfl) rfl rfl ?_
    refine KO.nil ?_
    refine KC.seq ?_
    refine KC.condD rfl (fun h30 => ?_) (fun h30 => ?_)
    · refine KC.skip ?_
      refine KC.seq ?_
      refine KC.block ?_
      refine KC.seq ?_
      refine KC.region ?_
      obtain ⟨b31, o31, p31, r31, e31, ha31, hb31, hr31, hx31, hw31, hc31, ht31⟩ := V.at_ h_pA (z := x31) (by omega) (by omega)
      have hs31 : b31 ∉ ([b_b] ++ (D_bA ++ [])) := s_pA (by omega) _ ha31
      have hc31_0 : r31.cs[o31 + (x31).toNat * 2 + 0]? = some (.int .i64 e31.1) := hc31 0 (by decide)
      have hc31_1 : r31.cs[o31 + (x31).toNat * 2 + 1]? = some (.int .i64 e31.2) := hc31 1 (by decide)
      obtain ⟨hwa31, hwb31⟩ := hw31
      obtain ⟨loa31, hia31⟩ := rangei64 hwa31
      obtain ⟨lob31, hib31⟩ := rangei64 hwb31
      have gok_ha_31 := ok_ha _ _ hx31
      refine KO.pv (PV.indexAddrZ un23_B11 sz145_B11 rfl ha31 rfl (by omega) (by omega)) rfl rfl ?_
      refine KO.loadN ag145_B11 sz145_B11 rfl (m29.row0M hb31 (by assumption) hr31) ht31 rfl rfl ?_
      refine KO.allocM m29 zt145_B11 rfl rfl fun H32 m33 => ?_
      refine KO.storeM m33 (i := 0) rfl sz145_B11 rfl rfl rfl (show 0 + 2 ≤ 2 by decide) (show _ = [.int .i64 e31.1, .int .i64 e31.2] from rfl) rfl fun H34 m35 => ?_
      refine KO.nil ?_
      refine KC.drawG (n := 14) (anc := [0, 0, 0, 0, 8, 28, 0, 0, 128, 508, 1022, 2046, 4095, 8191]) (hv := [5, 9, 10, 12, 13]) (ord := [2, 3, 4, 5, 6, 7, 8, 9, 1, 10, 0, 11, 12, 13]) (by kernel_rfl) (by kernel_rfl) (by kernel_rfl) (by kernel_rfl) (by kernel_rfl) fun H36 n37 g38 => ?_
      have m39 := m35.room n37 g38 [11] (by decide) (by decide)
      refine KD.pv 4 (PV.move rfl) rfl rfl rfl (by kernel_rfl) rfl rfl rfl ?_
      refine KD.pv 12 (PV.fieldAddr fo145_0_B11 rfl) rfl rfl rfl (by kernel_rfl) rfl rfl rfl ?_
      refine KD.load 28 rfl (m39.row (i := 1) rfl) (by rw [read1 ag3_B11]; exact rfl) (pastGo (k := 1) (l := [H36]) (by kernel_rfl) rfl (pastCons ⟨_, (m39.row (i := 1) rfl), (by rw [read1 ag3_B11]; exact rfl)⟩ pastNil)) veq_int rfl (by kernel_rfl) rfl rfl rfl ?_
      refine KD.callV 60 rfl rfl rfl rfl (by kernel_rfl) rfl rfl rfl (pr_putof H36 e31.1 H3.next _ _ _ _ (wrap64 (by omega) (by omega)) (m39.row (i := 2) rfl) (m39.blt (i := 2) rfl) (m39.lxV (i := 3) rfl hw_l_c7_0b (by first | omega | (simp only [splice, List.length_append, List.length_set, List.length_replicate, List.length_map, List.length_take, List.length_drop, List.length_cons, List.length_nil] <;> omega))) (by first | omega | assumption) (by assumption)) fun v40 H40 q40 => ?_
      obtain ⟨z40, hv40, mc40, p40_0⟩ := q40
      dsimp only at hv40 mc40
      subst hv40
      have m41 := m39.seq mc40
      refine KD.pv 124 (PV.move rfl) rfl rfl rfl (by kernel_rfl) rfl rfl rfl ?_
      refine KD.pv 252 (PV.fieldAddr fo145_1_B11 rfl) rfl rfl rfl (by kernel_rfl) rfl rfl rfl ?_
      refine KD.load 508 rfl (m41.row (i := 1) rfl) (by rw [read1 ag3_B11]; exact rfl) (pastGo (k := 2) (l := [H40, H36]) (by kernel_rfl) rfl (pastCons ⟨_, (m41.row (i := 1) rfl), (by rw [read1 ag3_B11]; exact rfl)⟩ (pastCons ⟨_, (m39.row (i := 1) rfl), (by rw [read1 ag3_B11]; exact rfl)⟩ pastNil))) veq_int rfl (by kernel_rfl) rfl rfl rfl ?_
      refine KD.callV 1020 rfl rfl rfl rfl (by kernel_rfl) rfl rfl rfl (pr_putof H40 e31.2 H3.next _ _ _ _ (wrap64 (by omega) (by omega)) (m41.row (i := 2) rfl) (m41.blt (i := 2) rfl) (m41.lxV (i := 3) rfl hw_l_c7_0b (by first | omega | (simp only [splice, List.length_append, List.length_set, List.length_replicate, List.length_map, List.length_take, List.length_drop, List.length_cons, List.length_nil] <;> omega))) (by first | omega | assumption) (by assumption)) fun v42 H42 q42 => ?_
      obtain ⟨z42, hv42, mc42, p42_0⟩ := q42
      dsimp only at hv42 mc42
      subst hv42
      have m43 := m41.seq mc42
      refine KD.pv 1022 (PV.move rfl) rfl rfl rfl (by kernel_rfl) rfl rfl rfl ?_
      have m44 : Mem ([b_b] ++ (D_bA ++ [])) H H42 [R.row b_b 207 true [.slice a_c0_0 n_c0_0 n_c0_0, .int .i64 bf, .func (.func 190) #[] #[], .bool c0_3], R.lst 145 2 a_c0_0 n_c0_0 (cells EP l_c0_0) D_c0_0, R.free (H34.next + 11), R.row A28.next 145 true [.int .i64 e31.1, .int .i64 e31.2], R.row H3.next 24 true [.slice a_c7_0b n_c7_0b n_c7_0b], R.lx 3 1 a_c7_0b n_c7_0b (cells (EI .i64) l_c7_0b) D_c7_0b, R.row H.next 44 true [.slice a_pA n_pA c_pA, .int .i64 pl]] := m43.pick [5, 6, 0, 1, 2, 3, 4] (by decide) rfl
      refine KD.call 2046 rfl rfl rfl (by kernel_rfl) rfl rfl rfl (pr_and H42 b_b _ _ _ D_c0_0 bf (.func (.func 190) #[] #[]) c0_3 z40 z42 (m44.ownK (Rs := [R.row b_b 207 true [.slice a_c0_0 n_c0_0 n_c0_0, .int .i64 bf, .func (.func 190) #[] #[], .bool c0_3], R.lst 145 2 a_c0_0 n_c0_0 (cells EP l_c0_0) D_c0_0])) hw_l_c0_0 (wrap64 (by omega) (by omega)) (wrap64 (by omega) (by omega)) (wrap64 (by omega) (by omega)) (by first | omega | assumption)) fun v45 H45 q45 => ?_
      obtain ⟨z45, aa45, an45, ax45, aD45, fu45, hv45, mc45, p45_0, p45_1, p45_2⟩ := q45
      dsimp only at hv45 mc45
      subst hv45
      have m46 := m44.seqK (Rs := [R.row b_b 207 true [.slice a_c0_0 n_c0_0 n_c0_0, .int .i64 bf, .func (.func 190) #[] #[], .bool c0_3], R.lst 145 2 a_c0_0 n_c0_0 (cells EP l_c0_0) D_c0_0]) mc45
      have ll45_1 : ax45.length = an45 := m46.lstLen (E := EP) (i := 1) rfl
      refine KD.load 2047 rfl (m46.row (i := 4) rfl) (by rw [read1 ag24_B11]; exact rfl) (pastGo (k := 4) (l := [H45, H42, H40, H36]) (by kernel_rfl) rfl (pastCons ⟨_, (m46.row (i := 4) rfl), (by rw [read1 ag24_B11]; exact rfl)⟩ (pastCons ⟨_, (m43.row (i := 2) rfl), (by rw [read1 ag24_B11]; exact rfl)⟩ (pastCons ⟨_, (m41.row (i := 2) rfl), (by rw [read1 ag24_B11]; exact rfl)⟩ (pastCons ⟨_, (m39.row (i := 2) rfl), (by rw [read1 ag24_B11]; exact rfl)⟩ pastNil))))) veq_sl rfl (by kernel_rfl) rfl rfl rfl ?_
      refine KD.buildSliceM 4095 m46 (j := 2) rfl el24_B11 ez3_B11 rfl rfl (show _ = some [.int .i64 z45] from rfl) rfl (by kernel_rfl) rfl rfl rfl fun H47 m48 => ?_
      refine KD.appendX 8191 (C := (EI .i64)) m48 (j := 5) rfl hw_l_c7_0b el24_B11 ez3_B11 sb3_B11 un24_B11 rfl rfl (newElems_row1 (C := (EI .i64)) (y := z45) (m48.row (i := 2) rfl) rfl) rfl (by omega) (by first | omega | (simp only [splice, List.length_append, List.length_set, List.length_replicate, List.length_map, List.length_take, List.length_drop, List.length_cons, List.length_nil] <;> omega)) rfl (by kernel_rfl) rfl rfl rfl fun a50 D51 H49 m52 => ?_
      refine KD.storeM 16383 m52 (j := 4) rfl sz24_B11 rfl rfl rfl (show 0 + 1 ≤ 1 by decide) (show _ = [.slice a50 (n_c7_0b + 1) (n_c7_0b + 1)] from rfl) rfl (by kernel_rfl) rfl rfl fun H53 m54 => ?_
      refine KD.nil ⟨rfl, ?_⟩
      refine KC.region ?_
      refine KO.pv (PV.add rfl rfl (wrap64 (by omega) (by omega))) rfl rfl ?_
      refine KO.pv (PV.move rfl) rfl rfl ?_
      refine KO.nil ?_
      have m55 := m54.lxLst (i := 5) rfl
      exact ⟨_, _, (by omega), (.cons rfl (.cons rfl (.cons rfl (.cons rfl (.cons rfl (.cons rfl (.cons rfl .nil))))))), (x31 + 1), a50, (n_c7_0b + 1), (l_c7_0b ++ [z45]), D51, aa45, an45, ax45, aD45, fu45, rfl, rfl, (m55.pick [4, 5, 6, 0, 1] (by decide) rfl), (by first | omega | assumption | (constructor <;> omega)), (by first | omega | (simp only [splice, List.length_append, List.length_set, List.length_replicate, List.length_map, List.length_take, List.length_drop, List.length_cons, List.length_nil] <;> omega)), (by first | omega | (simp only [splice, List.length_append, List.length_set, List.length_replicate, List.length_map, List.length_take, List.length_drop, List.length_cons, List.length_nil] <;> omega)), (by first | omega | (simp only [splice, List.length_append, List.length_set, List.length_replicate, List.length_map, List.length_take, List.length_drop, List.length_cons, List.length_nil] <;> omega)), (all_app hw_l_c7_0b (all_one (wf64 (by omega) (by omega)))), (all_app hb7b (all_one (by first | omega | assumption | (constructor <;> omega)))), (by first | omega | (simp only [splice, List.length_append, List.length_set, List.length_replicate, List.length_map, List.length_take, List.length_drop, List.length_cons, List.length_nil] <;> omega)), (by assumption)⟩
    · refine KC.exit ?_
      refine KC.seq ?_
      refine KC.region ?_
      refine KO.pv (PV.move rfl) rfl rfl ?_
      refine KO.pv (PV.fieldAddr fo44_1_B11 rfl) rfl rfl ?_
      refine KO.load1 ag3_B11 rfl (m29.row (i := 2) rfl) rfl rfl rfl ?_
      refine KO.callV rfl rfl rfl rfl rfl (pr_putof A28 pl H3.next _ _ _ _ (wrap64 (by omega) (by omega)) (m29.row (i := 0) rfl) (m29.blt (i := 0) rfl) (m29.lxV (i := 1) rfl hw_l_c7_0b (by first | omega | (simp only [splice, List.length_append, List.length_set, List.length_replicate, List.length_map, List.length_take, List.length_drop, List.length_cons, List.length_nil] <;> omega))) (by first | omega | assumption) (by assumption)) fun v56 H56 q56 => ?_
      obtain ⟨z56, hv56, mc56, p56_0⟩ := q56
      dsimp only at hv56 mc56
      subst hv56
      have m57 := m29.seq mc56
      refine KO.pv (PV.assign rfl) rfl rfl ?_
      refine KO.nil ?_
      exact KC.ret ⟨rfl, _, (.tmp rfl .nil), z56, a_c0_0, n_c0_0, l_c0_0, D_c0_0, c0_3, rfl, m57.pick [3, 4] (by decide) rfl, (by first | omega | (intro h; omega) | (simp only [List.length_nil, true_and, and_true, or_true, true_or] <;> omega)), (by first | omega | (intro h; omega) | (simp only [List.length_nil, true_and, and_true, or_true, true_or] <;> omega) | (exact ⟨by omega, by omega⟩)), (by first | omega | (intro h; omega) | (simp only [List.length_nil, true_and, and_true, or_true, true_or] <;> omega) | exact wf_bA | assumption)⟩
theorem pr_putP (H : AHeap) (b_b : Nat) (a_bA : Option Addr) (n_bA : Nat) (bA : List (Int × Int)) (D_bA : List Nat) (bf : Int) (bu : Bool) (b_y : Nat) (a_ql : Option Addr) (n_ql c_ql : Nat) (n : Int) (a_pA : Option Addr) (n_pA c_pA : Nat) (pA : List (Int × Int)) (pl : Int) (ql : List Int) (h_g : Mem ([b_b] ++ (D_bA ++ ([b_y] ++ []))) H H [R.row b_b 207 true [.slice a_bA n_bA n_bA, .int .i64 bf, .func (.func 148) #[] #[.pointer (some ⟨b_y, 0, none⟩)], .bool bu], R.lst 145 2 a_bA n_bA (cells EP bA) D_bA, R.row b_y 24 true [.slice a_ql n_ql c_ql]]) (wf_bA : ∀ u ∈ bA, (EP).wf u) (w_bf : IntKind.i64.wrap bf = bf) (w_n : IntKind.i64.wrap n = n) (h_pA : V EP H a_pA n_pA c_pA pA) (s_pA : 0 < n_pA → ∀ y, a_pA = some y → y.block ∉ ([b_b] ++ (D_bA ++ ([b_y] ++ [])))) (w_pl : IntKind.i64.wrap pl = pl) (h_ql : V (EI .i64) H a_ql n_ql c_ql ql) (s_ql : 0 < n_ql → ∀ y, a_ql = some y → y.block ∉ ([b_b] ++ (D_bA ++ ([b_y] ++ [])))) (hb : 1 ≤ bf ∧ bf + n_bA ≤ 1001) (ok : PredOK n pA pl) (hnq : n ≤ n_ql) (hq : ∀ u ∈ ql, 0 ≤ u ∧ u ≤ 2001) : WF E0 146 [.pointer (some ⟨b_b, 0, none⟩), .int .i64 n, .agg #[.slice a_pA n_pA c_pA, .int .i64 pl]] H fun q => ∃ (z : Int) (aa : Option Addr) (an : Nat) (ax : List (Int × Int)) (aD : List Nat) (fu : Bool), q.1 = .int .i64 z ∧ Mem ([b_b] ++ (D_bA ++ ([b_y] ++ []))) H q.2 [R.row b_b 207 true [.slice aa an an, .int .i64 bf, .func (.func 148) #[] #[.pointer (some ⟨b_y, 0, none⟩)], .bool fu], R.lst 145 2 aa an (cells EP ax) aD, R.row b_y 24 true [.slice a_ql n_ql c_ql]] ∧ (0 ≤ z ∧ z ≤ 2001) ∧ (bf + an ≤ 1001 ∧ n_bA ≤ an) ∧ (∀ u ∈ ax, EP.wf u) := by
  have len_bA : bA.length = n_bA := h_g.lstLen (E := EP) (i := 1) rfl
  obtain ⟨lo_bf, hi_bf⟩ := rangei64 w_bf
  obtain ⟨lo_n, hi_n⟩ := rangei64 w_n
  obtain ⟨len_pA, cap_pA, max_pA, wf_pA⟩ := h_pA.len
  obtain ⟨lo_pl, hi_pl⟩ := rangei64 w_pl
  obtain ⟨len_ql, cap_ql, max_ql, wf_ql⟩ := h_ql.len
  obtain ⟨ok_n0, ok_n1, ok_al, ok_ha, ok_l0, ok_l1⟩ := id ok
  have m0 := h_g
  refine WF.kg Tryz.func146 rfl rfl ?_
  refine KC.seq ?_
  refine KC.region ?_
  refine KO.boxM m0 rfl rfl (show _ = [.slice a_pA n_pA c_pA, .int .i64 pl] from rfl) rfl rfl fun H1 m2 => ?_
  refine KO.pv (PV.assign rfl) rfl rfl ?_
  refine KO.nil ?_
  refine KC.seq ?_
  refine KC.region ?_
  refine KO.buildSliceM m2 el24_B11 ez3_B11 rfl rfl (show _ = some [.int .i64 0] from rfl) rfl rfl fun H3 m4 => ?_
  have m5 := m4.lxRow (C := (EI .i64)) 3 [0] (i := 0) (n := 1) rfl rfl
  refine KO.allocM m5 zt24_B11 rfl rfl fun H6 m7 => ?_
  refine KO.storeM m7 (i := 0) rfl sz24_B11 rfl rfl rfl (show 0 + 1 ≤ 1 by decide) (show _ = [.slice (some ⟨H1.next, 0, none⟩) 1 1] from rfl) rfl fun H8 m9 => ?_
  refine KO.nil ?_
  refine KC.seq ?_
  refine KC.seq ?_
  refine KC.region ?_
  refine KO.pv (PV.assign rfl) rfl rfl ?_
  refine KO.nil ?_
  refine KC.block ?_
  refine KC.sub (l' := [(0, .pointer (some ⟨b_b, 0, none⟩)), (1, .int .i64 n), (5, .pointer (some ⟨H.next, 0, none⟩)), (7, .pointer (some ⟨H3.next, 0, none⟩)), (8, .int .i64 1)]) (.cons rfl (.cons rfl (.cons rfl (.cons rfl (.cons rfl .nil))))) ?_
  refine KC.loopN (fun kq lq A => ∃ (x8 : Int) (a_c7_0 : Option Addr) (n_c7_0 : Nat) (l_c7_0 : List Int) (D_c7_0 : List Nat), kq = (n + 1 - x8).toNat ∧ lq = [(0, .pointer (some ⟨b_b, 0, none⟩)), (1, .int .i64 n), (5, .pointer (some ⟨H.next, 0, none⟩)), (7, .pointer (some ⟨H3.next, 0, none⟩)), (8, .int .i64 x8)] ∧ Mem ([b_b] ++ (D_bA ++ ([b_y] ++ []))) H A [R.row H3.next 24 true [.slice a_c7_0 n_c7_0 n_c7_0], R.lx 3 1 a_c7_0 n_c7_0 (cells (EI .i64) l_c7_0) D_c7_0, R.row H.next 44 true [.slice a_pA n_pA c_pA, .int .i64 pl], R.row b_b 207 true [.slice a_bA n_bA n_bA, .int .i64 bf, .func (.func 148) #[] #[.pointer (some ⟨b_y, 0, none⟩)], .bool bu], R.lst 145 2 a_bA n_bA (cells EP bA) D_bA, R.row b_y 24 true [.slice a_ql n_ql c_ql]] ∧ (1 ≤ x8 ∧ x8 ≤ n + 1) ∧ ((n_c7_0 : Int) = x8) ∧ (l_c7_0.length = n_c7_0) ∧ (∀ u ∈ l_c7_0, (EI .i64).wf u) ∧ (∀ u ∈ l_c7_0, 0 ≤ u ∧ u ≤ 2001)) ?_ ((n + 1 - 1).toNat) ⟨1, (some ⟨H1.next, 0, none⟩), 1, [0], [H1.next], rfl, rfl, (m9.pick [0, 1, 2, 3, 4, 5] (by decide) rfl), (by first | omega | (simp only [splice, List.length_append, List.length_set, List.length_replicate, List.length_map, List.length_take, List.length_drop, List.length_cons, List.length_nil] <;> omega)), (by first | omega | (simp only [splice, List.length_append, List.length_set, List.length_replicate, List.length_map, List.length_take, List.length_drop, List.length_cons, List.length_nil] <;> omega)), (by first | omega | (simp only [splice, List.length_append, List.length_set, List.length_replicate, List.length_map, List.length_take, List.length_drop, List.length_cons, List.length_nil] <;> omega)), (all_one (wf64 (by omega) (by omega))), (all_one (by first | omega | assumption | (constructor <;> omega)))⟩
  rintro kq lq A10 ⟨x8, a_c7_0, n_c7_0, l_c7_0, D_c7_0, rfl, rfl, m11, hx8, hn7, hl_l_c7_0, hw_l_c7_0, hb7⟩
  refine KC.seq ?_
  refine KC.seq ?_
  refine KC.region ?_
  refine KO.pv (PV.move rfl) rfl rfl ?_
  refine KO.pv (PV.move rfl) rfl rfl ?_
  refine KO.pv (PV.leqD rfl rfl rfl) rfl rfl ?_
  refine KO.nil ?_
  refine KC.condD rfl (fun h12 => ?_) (fun h12 => ?_)
  · refine KC.skip ?_
    refine KC.seq ?_
    refine KC.block ?_
    refine KC.drawG (n := 10) (anc := [0, 0, 2, 6, 14, 0, 62, 126, 255, 511]) (hv := [6, 8, 9]) (ord := [1, 2, 3, 4, 5, 6, 0, 7, 8, 9]) (by kernel_rfl) (by kernel_rfl) (by kernel_rfl) (by kernel_rfl) (by kernel_rfl) fun H13 n14 g15 => ?_
    have m16 := m11.room n14 g15 [7] (by decide) (by decide)
    refine KD.pv 2 (PV.move rfl) rfl rfl rfl (by kernel_rfl) rfl rfl rfl ?_
    refine KD.pv 6 (PV.nilCheck rfl) rfl rfl rfl (by kernel_rfl) rfl rfl rfl ?_
    refine KD.pv 14 (PV.fieldAddr fo207_2_B11 rfl) rfl rfl rfl (by kernel_rfl) rfl rfl rfl ?_
    refine KD.load 30 rfl (m16.row (i := 4) rfl) (by rw [read1 ag151_B11]; exact rfl) (pastGo (k := 1) (l := [H13]) (by kernel_rfl) rfl (pastCons ⟨_, (m16.row (i := 4) rfl), (by rw [read1 ag151_B11]; exact rfl)⟩ pastNil)) (veq_func veqNil (veqCons veqP veqNil)) rfl (by kernel_rfl) rfl rfl rfl ?_
    refine KD.pv 62 (PV.move rfl) rfl rfl rfl (by kernel_rfl) rfl rfl rfl ?_
    refine KD.callV 126 rfl rfl rfl rfl (by kernel_rfl) rfl rfl rfl (pr_put1l H13 x8 b_y _ _ _ _ (wrap64 (by omega) (by omega)) (m16.row (i := 6) rfl) (m16.blt (i := 6) rfl) (V.mem m16 h_ql s_ql) (by first | omega | assumption) (by assumption)) fun v17 H17 q17 => ?_
    obtain ⟨z17, hv17, mc17, p17_0⟩ := q17
    dsimp only at hv17 mc17
    subst hv17
    have m18 := m16.seq mc17
    refine KD.load 127 rfl (m18.row (i := 1) rfl) (by rw [read1 ag24_B11]; exact rfl) (pastGo (k := 2) (l := [H17, H13]) (by kernel_rfl) rfl (pastCons ⟨_, (m18.row (i := 1) rfl), (by rw [read1 ag24_B11]; exact rfl)⟩ (pastCons ⟨_, (m16.row (i := 1) rfl), (by rw [read1 ag24_B11]; exact rfl)⟩ pastNil))) veq_sl rfl (by kernel_rfl) rfl rfl rfl ?_
    refine KD.buildSliceM 255 m18 (j := 0) rfl el24_B11 ez3_B11 rfl rfl (show _ = some [.int .i64 z17] from rfl) rfl (by kernel_rfl) rfl rfl rfl fun H19 m20 => ?_
    refine KD.appendX 511 (C := (EI .i64)) m20 (j := 2) rfl hw_l_c7_0 el24_B11 ez3_B11 sb3_B11 un24_B11 rfl rfl (newElems_row1 (C := (EI .i64)) (y := z17) (m20.row (i := 0) rfl) rfl) rfl (by omega) (by first | omega | (simp only [splice, List.length_append, List.length_set, List.length_replicate, List.length_map, List.length_take, List.length_drop, List.length_cons, List.length_nil] <;> omega)) rfl (by kernel_rfl) rfl rfl rfl fun a22 D23 H21 m24 => ?_
    refine KD.storeM 1023 m24 (j := 1) rfl sz24_B11 rfl rfl rfl (show 0 + 1 ≤ 1 by decide) (show _ = [.slice a22 (n_c7_0 + 1) (n_c7_0 + 1)] from rfl) rfl (by kernel_rfl) rfl rfl fun H25 m26 => ?_
    refine KD.nil ⟨rfl, ?_⟩
    refine KC.region ?_
    refine KO.pv (PV.move rfl) rfl rfl ?_
    refine KO.pv (PV.add rfl rfl (wrap64 (by omega) (by omega))) rfl rfl ?_
    refine KO.pv (PV.assign rfl) rfl rfl ?_
    refine KO.nil ?_
    have m27 := m26.lxLst (i := 2) rfl
    exact ⟨_, _, (by omega), (.cons rfl (.cons rfl (.cons rfl (.cons rfl (.cons rfl .nil))))), (x8 + 1), a22, (n_c7_0 + 1), (l_c7_0 ++ [z17]), D23, rfl, rfl, (m27.pick [1, 2, 3, 4, 5, 6] (by decide) rfl), (by first | omega | (simp only [splice, List.length_append, List.length_set, List.length_replicate, List.length_map, List.length_take, List.length_drop, List.length_cons, List.length_nil] <;> omega)), (by first | omega | (simp only [splice, List.length_append, List.length_set, List.length_replicate, List.length_map, List.length_take, List.length_drop, List.length_cons, List.length_nil] <;> omega)), (by first | omega | (simp only [splice, List.length_append, List.length_set, List.length_replicate, List.length_map, List.length_take, List.length_drop, List.length_cons, List.length_nil] <;> omega)), (all_app hw_l_c7_0 (all_one (wf64 (by omega) (by omega)))), (all_app hb7 (all_one (by first | omega | assumption | (constructor <;> omega))))⟩
  · refine KC.exit ?_
    refine KC.seq ?_
    refine KC.region ?_
    refine KO.pv (PV.makeFunc rfl rfl) rfl rfl ?_
    refine KO.pv (PV.assign rfl) rfl rfl ?_
    refine KO.nil ?_
    refine KC.seq ?_
    refine KC.seq ?_
    refine KC.region ?_
    refine KO.pv (PV.fieldAddr fo44_0_B11 rfl) rfl rfl ?_
    refine KO.load1 ag23_B11 rfl (m11.row (i := 2) rfl) rfl rfl rfl ?_
    refine KO.pv (PV.len un23_B11 rfl) rfl rfl ?_
    refine KO.pv (PV.move rfl) rfl rfl ?_
    refine KO.nil ?_
    refine KC.block ?_
    refine KC.sub (l' := [(0, .pointer (some ⟨b_b, 0, none⟩)), (5, .pointer (some ⟨H.next, 0, none⟩)), (7, .pointer (some ⟨H3.next, 0, none⟩)), (9, .func (.func 193) #[] #[.pointer (some ⟨H3.next, 0, none⟩)]), (29, .slice a_pA n_pA c_pA), (30, .int .i64 (n_pA : Int)), (31, .int .i64 0)]) (.cons rfl (.cons rfl (.cons rfl (.cons rfl (.cons rfl (.cons rfl (.cons rfl .nil))))))) ?_
    refine KC.loopN (fun kq lq A => ∃ (x31 : Int) (a_c7_0b : Option Addr) (n_c7_0b : Nat) (l_c7_0b : List Int) (D_c7_0b : List Nat) (a_c0_0 : Option Addr) (n_c0_0 : Nat) (l_c0_0 : List (Int × Int)) (D_c0_0 : List Nat) (c0_3 : Bool), kq = ((n_pA : Int) - x31).toNat ∧ lq = [(0, .pointer (some ⟨b_b, 0, none⟩)), (5, .pointer (some ⟨H.next, 0, none⟩)), (7, .pointer (some ⟨H3.next, 0, none⟩)), (9, .func (.func 193) #[] #[.pointer (some ⟨H3.next, 0, none⟩)]), (29, .slice a_pA n_pA c_pA), (30, .int .i64 (n_pA : Int)), (31, .int .i64 x31)] ∧ Mem ([b_b] ++ (D_bA ++ ([b_y] ++ []))) H A [R.row H3.next 24 true [.slice a_c7_0b n_c7_0b n_c7_0b], R.lx 3 1 a_c7_0b n_c7_0b (cells (EI .i64) l_c7_0b) D_c7_0b, R.row H.next 44 true [.slice a_pA n_pA c_pA, .int .i64 pl], R.row b_b 207 true [.slice a_c0_0 n_c0_0 n_c0_0, .int .i64 bf, .func (.func 148) #[] #[.pointer (some ⟨b_y, 0, none⟩)], .bool c0_3], R.lst 145 2 a_c0_0 n_c0_0 (cells EP l_c0_0) D_c0_0, R.row b_y 24 true [.slice a_ql n_ql c_ql]] ∧ (0 ≤ x31 ∧ x31 ≤ (n_pA : Int)) ∧ ((n_c7_0b : Int) = 1 + n + x31) ∧ (bf + n_c0_0 ≤ 1001 ∧ n_bA ≤ n_c0_0) ∧ (l_c7_0b.length = n_c7_0b) ∧ (∀ u ∈ l_c7_0b, (EI .i64).wf u) ∧ (∀ u ∈ l_c7_0b, 0 ≤ u ∧ u ≤ 2001) ∧ (l_c0_0.length = n_c0_0) ∧ (∀ u ∈ l_c0_0, (EP).wf u)) ?_ (((n_pA : Int) - 0).toNat) ⟨0, a_c7_0, n_c7_0, l_c7_0, D_c7_0, a_bA, n_bA, bA, D_bA, bu, rfl, rfl, (m11.pick [0, 1, 2, 3, 4, 5] (by decide) rfl), (by first | omega | assumption | (constructor <;> omega)), (by first | omega | (simp only [splice, List.length_append, List.length_set, List.length_replicate, List.length_map, List.length_take, List.length_drop, List.length_cons, List.length_nil] <;> omega)), (by first | omega | (simp only [splice, List.length_append, List.length_set, List.length_replicate, List.length_map, List.length_take, List.length_drop, List.length_cons, List.length_nil] <;> omega)), (by first | omega | (simp only [splice, List.length_append, List.length_set, List.length_replicate, List.length_map, List.length_take, List.length_drop, List.length_cons, List.length_nil] <;> omega)), hw_l_c7_0, (by assumption), (by first | omega | (simp only [splice, List.length_append, List.length_set, List.length_replicate, List.length_map, List.length_take, List.length_drop, List.length_cons, List.length_nil] <;> omega)), wf_bA⟩
    rintro kq lq A28 ⟨x31, a_c7_0b, n_c7_0b, l_c7_0b, D_c7_0b, a_c0_0, n_c0_0, l_c0_0, D_c0_0, c0_3, rfl, rfl, m29, hr8, hn7b, hba, hl_l_c7_0b, hw_l_c7_0b, hb7b, hl_l_c0_0, hw_l_c0_0⟩
    refine KC.seq ?_
    refine KC.region ?_
    refine KO.pv (PV.lssD rfl rfl rfl) rfl rfl ?_
    refine KO.nil ?_
    refine KC.seq ?_
    refine KC.condD rfl (fun h30 => ?_) (fun h30 => ?_)
    · refine KC.skip ?_
      refine KC.seq ?_
      refine KC.block ?_
      refine KC.seq ?_
      refine KC.region ?_
      obtain ⟨b31, o31, p31, r31, e31, ha31, hb31, hr31, hx31, hw31, hc31, ht31⟩ := V.at_ h_pA (z := x31) (by omega) (by omega)
      have hs31 : b31 ∉ ([b_b] ++ (D_bA ++ ([b_y] ++ []))) := s_pA (by omega) _ ha31
      have hc31_0 : r31.cs[o31 + (x31).toNat * 2 + 0]? = some (.int .i64 e31.1) := hc31 0 (by decide)
      have hc31_1 : r31.cs[o31 + (x31).toNat * 2 + 1]? = some (.int .i64 e31.2) := hc31 1 (by decide)
      obtain ⟨hwa31, hwb31⟩ := hw31
      obtain ⟨loa31, hia31⟩ := rangei64 hwa31
      obtain ⟨lob31, hib31⟩ := rangei64 hwb31
      have gok_ha_31 := ok_ha _ _ hx31
      refine KO.pv (PV.indexAddrZ un23_B11 sz145_B11 rfl ha31 rfl (by omega) (by omega)) rfl rfl ?_
      refine KO.loadN ag145_B11 sz145_B11 rfl (m29.row0M hb31 (by assumption) hr31) ht31 rfl rfl ?_
      refine KO.allocM m29 zt145_B11 rfl rfl fun H32 m33 => ?_
      refine KO.storeM m33 (i := 0) rfl sz145_B11 rfl rfl rfl (show 0 + 2 ≤ 2 by decide) (show _ = [.int .i64 e31.1, .int .i64 e31.2] from rfl) rfl fun H34 m35 => ?_
      refine KO.nil ?_
      refine KC.drawG (n := 14) (anc := [0, 0, 0, 0, 8, 28, 0, 0, 128, 508, 1022, 2046, 4095, 8191]) (hv := [5, 9, 10, 12, 13]) (ord := [2, 3, 4, 5, 6, 7, 8, 9, 1, 10, 0, 11, 12, 13]) (by kernel_rfl) (by kernel_rfl) (by kernel_rfl) (by kernel_rfl) (by kernel_rfl) fun H36 n37 g38 => ?_
      have m39 := m35.room n37 g38 [11] (by decide) (by decide)
      refine KD.pv 4 (PV.move rfl) rfl rfl rfl (by kernel_rfl) rfl rfl rfl ?_
      refine KD.pv 12 (PV.fieldAddr fo145_0_B11 rfl) rfl rfl rfl (by kernel_rfl) rfl rfl rfl ?_
      refine KD.load 28 rfl (m39.row (i := 1) rfl) (by rw [read1 ag3_B11]; exact rfl) (pastGo (k := 1) (l := [H36]) (by kernel_rfl) rfl (pastCons ⟨_, (m39.row (i := 1) rfl), (by rw [read1 ag3_B11]; exact rfl)⟩ pastNil)) veq_int rfl (by kernel_rfl) rfl rfl rfl ?_
      refine KD.callV 60 rfl rfl rfl rfl (by kernel_rfl) rfl rfl rfl (pr_putof H36 e31.1 H3.next _ _ _ _ (wrap64 (by omega) (by omega)) (m39.row (i := 2) rfl) (m39.blt (i := 2) rfl) (m39.lxV (i := 3) rfl hw_l_c7_0b (by first | omega | (simp only [splice, List.length_append, List.length_set, List.length_replicate, List.length_map, List.length_take, List.length_drop, List.length_cons, List.length_nil] <;> omega))) (by first | omega | assumption) (by assumption)) fun v40 H40 q40 => ?_
      obtain ⟨z40, hv40, mc40, p40_0⟩ := q40
      dsimp only at hv40 mc40
      subst hv40
      have m41 := m39.seq mc40
      refine KD.pv 124 (PV.move rfl) rfl rfl rfl (by kernel_rfl) rfl rfl rfl ?_
      refine KD.pv 252 (PV.fieldAddr fo145_1_B11 rfl) rfl rfl rfl (by kernel_rfl) rfl rfl rfl ?_
      refine KD.load 508 rfl (m41.row (i := 1) rfl) (by rw [read1 ag3_B11]; exact rfl) (pastGo (k := 2) (l := [H40, H36]) (by kernel_rfl) rfl (pastCons ⟨_, (m41.row (i := 1) rfl), (by rw [read1 ag3_B11]; exact rfl)⟩ (pastCons ⟨_, (m39.row (i := 1) rfl), (by rw [read1 ag3_B11]; exact rfl)⟩ pastNil))) veq_int rfl (by kernel_rfl) rfl rfl rfl ?_
      refine KD.callV 1020 rfl rfl rfl rfl (by kernel_rfl) rfl rfl rfl (pr_putof H40 e31.2 H3.next _ _ _ _ (wrap64 (by omega) (by omega)) (m41.row (i := 2) rfl) (m41.blt (i := 2) rfl) (m41.lxV (i := 3) rfl hw_l_c7_0b (by first | omega | (simp only [splice, List.length_append, List.length_set, List.length_replicate, List.length_map, List.length_take, List.length_drop, List.length_cons, List.length_nil] <;> omega))) (by first | omega | assumption) (by assumption)) fun v42 H42 q42 => ?_
      obtain ⟨z42, hv42, mc42, p42_0⟩ := q42
      dsimp only at hv42 mc42
      subst hv42
      have m43 := m41.seq mc42
      refine KD.pv 1022 (PV.move rfl) rfl rfl rfl (by kernel_rfl) rfl rfl rfl ?_
      have m44 : Mem ([b_b] ++ (D_bA ++ ([b_y] ++ []))) H H42 [R.row b_b 207 true [.slice a_c0_0 n_c0_0 n_c0_0, .int .i64 bf, .func (.func 148) #[] #[.pointer (some ⟨b_y, 0, none⟩)], .bool c0_3], R.lst 145 2 a_c0_0 n_c0_0 (cells EP l_c0_0) D_c0_0, R.free (H34.next + 11), R.row A28.next 145 true [.int .i64 e31.1, .int .i64 e31.2], R.row H3.next 24 true [.slice a_c7_0b n_c7_0b n_c7_0b], R.lx 3 1 a_c7_0b n_c7_0b (cells (EI .i64) l_c7_0b) D_c7_0b, R.row H.next 44 true [.slice a_pA n_pA c_pA, .int .i64 pl], R.row b_y 24 true [.slice a_ql n_ql c_ql]] := m43.pick [5, 6, 0, 1, 2, 3, 4, 7] (by decide) rfl
      refine KD.call 2046 rfl rfl rfl (by kernel_rfl) rfl rfl rfl (pr_and H42 b_b _ _ _ D_c0_0 bf (.func (.func 148) #[] #[.pointer (some ⟨b_y, 0, none⟩)]) c0_3 z40 z42 (m44.ownK (Rs := [R.row b_b 207 true [.slice a_c0_0 n_c0_0 n_c0_0, .int .i64 bf, .func (.func 148) #[] #[.pointer (some ⟨b_y, 0, none⟩)], .bool c0_3], R.lst 145 2 a_c0_0 n_c0_0 (cells EP l_c0_0) D_c0_0])) hw_l_c0_0 (wrap64 (by omega) (by omega)) (wrap64 (by omega) (by omega)) (wrap64 (by omega) (by omega)) (by first | omega | assumption)) fun v45 H45 q45 => ?_
      obtain ⟨z45, aa45, an45, ax45, aD45, fu45, hv45, mc45, p45_0, p45_1, p45_2⟩ := q45
      dsimp only at hv45 mc45
      subst hv45
      have m46 := m44.seqK (Rs := [R.row b_b 207 true [.slice a_c0_0 n_c0_0 n_c0_0, .int .i64 bf, .func (.func 148) #[] #[.pointer (some ⟨b_y, 0, none⟩)], .bool c0_3], R.lst 145 2 a_c0_0 n_c0_0 (cells EP l_c0_0) D_c0_0]) mc45
      have ll45_1 : ax45.length = an45 := m46.lstLen (E := EP) (i := 1) rfl
      refine KD.load 2047 rfl (m46.row (i := 4) rfl) (by rw [read1 ag24_B11]; exact rfl) (pastGo (k := 4) (l := [H45, H42, H40, H36]) (by kernel_rfl) rfl (pastCons ⟨_, (m46.row (i := 4) rfl), (by rw [read1 ag24_B11]; exact rfl)⟩ (pastCons ⟨_, (m43.row (i := 2) rfl), (by rw [read1 ag24_B11]; exact rfl)⟩ (pastCons ⟨_, (m41.row (i := 2) rfl), (by rw [read1 ag24_B11]; exact rfl)⟩ (pastCons ⟨_, (m39.row (i := 2) rfl), (by rw [read1 ag24_B11]; exact rfl)⟩ pastNil))))) veq_sl rfl (by kernel_rfl) rfl rfl rfl ?_
      refine KD.buildSliceM 4095 m46 (j := 2) rfl el24_B11 ez3_B11 rfl rfl (show _ = some [.int .i64 z45] from rfl) rfl (by kernel_rfl) rfl rfl rfl fun H47 m48 => ?_
      refine KD.appendX 8191 (C := (EI .i64)) m48 (j := 5) rfl hw_l_c7_0b el24_B11 ez3_B11 sb3_B11 un24_B11 rfl rfl (newElems_row1 (C := (EI .i64)) (y := z45) (m48.row (i := 2) rfl) rfl) rfl (by omega) (by first | omega | (simp only [splice, List.length_append, List.length_set, List.length_replicate, List.length_map, List.length_take, List.length_drop, List.length_cons, List.length_nil] <;> omega)) rfl (by kernel_rfl) rfl rfl rfl fun a50 D51 H49 m52 => ?_
      refine KD.storeM 16383 m52 (j := 4) rfl sz24_B11 rfl rfl rfl (show 0 + 1 ≤ 1 by decide) (show _ = [.slice a50 (n_c7_0b + 1) (n_c7_0b + 1)] from rfl) rfl (by kernel_rfl) rfl rfl fun H53 m54 => ?_
      refine KD.nil ⟨rfl, ?_⟩
      refine KC.region ?_
      refine KO.pv (PV.add rfl rfl (wrap64 (by omega) (by omega))) rfl rfl ?_
      refine KO.pv (PV.move rfl) rfl rfl ?_
      refine KO.nil ?_
      have m55 := m54.lxLst (i := 5) rfl
      exact ⟨_, _, (by omega), (.cons rfl (.cons rfl (.cons rfl (.cons rfl (.cons rfl (.cons rfl (.cons rfl .nil))))))), (x31 + 1), a50, (n_c7_0b + 1), (l_c7_0b ++ [z45]), D51, aa45, an45, ax45, aD45, fu45, rfl, rfl, (m55.pick [4, 5, 6, 0, 1, 7] (by decide) rfl), (by first | omega | assumption | (constructor <;> omega)), (by first | omega | (simp only [splice, List.length_append, List.length_set, List.length_replicate, List.length_map, List.length_take, List.length_drop, List.length_cons, List.length_nil] <;> omega)), (by first | omega | (simp only [splice, List.length_append, List.length_set, List.length_replicate, List.length_map, List.length_take, List.length_drop, List.length_cons, List.length_nil] <;> omega)), (by first | omega | (simp only [splice, List.length_append, List.length_set, List.length_replicate, List.length_map, List.length_take, List.length_drop, List.length_cons, List.length_nil] <;> omega)), (all_app hw_l_c7_0b (all_one (wf64 (by omega) (by omega)))), (all_app hb7b (all_one (by first | omega | assumption | (constructor <;> omega)))), (by first | omega | (simp only [splice, List.length_append, List.length_set, List.length_replicate, List.length_map, List.length_take, List.length_drop, List.length_cons, List.length_nil] <;> omega)), (by assumption)⟩
    · refine KC.exit ?_
      refine KC.seq ?_
      refine KC.region ?_
      refine KO.pv (PV.move rfl) rfl rfl ?_
      refine KO.pv (PV.fieldAddr fo44_1_B11 rfl) rfl rfl ?_
      refine KO.load1 ag3_B11 rfl (m29.row (i := 2) rfl) rfl rfl rfl ?_
      refine KO.callV rfl rfl rfl rfl rfl (pr_putof A28 pl H3.next _ _ _ _ (wrap64 (by omega) (by omega)) (m29.row (i := 0) rfl) (m29.blt (i := 0) rfl) (m29.lxV (i := 1) rfl hw_l_c7_0b (by first | omega | (simp only [splice, List.length_append, List.length_set, List.length_replicate, List.length_map, List.length_take, List.length_drop, List.length_cons, List.length_nil] <;> omega))) (by first | omega | assumption) (by assumption)) fun v56 H56 q56 => ?_
      obtain ⟨z56, hv56, mc56, p56_0⟩ := q56
      dsimp only at hv56 mc56
      subst hv56
      have m57 := m29.seq mc56
      refine KO.pv (PV.assign rfl) rfl rfl ?_
      refine KO.nil ?_
      exact KC.ret ⟨rfl, _, (.tmp rfl .nil), z56, a_c0_0, n_c0_0, l_c0_0, D_c0_0, c0_3, rfl, m57.pick [3, 4, 5] (by decide) rfl, (by first | omega | (intro h; omega) | (simp only [List.length_nil, true_and, and_true, or_true, true_or] <;> omega)), (by first | omega | (intro h; omega) | (simp only [List.length_nil, true_and, and_true, or_true, true_or] <;> omega) | (exact ⟨by omega, by omega⟩)), (by first | omega | (intro h; omega) | (simp only [List.length_nil, true_and, and_true, or_true, true_or] <;> omega) | exact wf_bA | assumption)⟩
theorem pr_over (H : AHeap) (n : Int) (a_s : Option Addr) (n_s c_s : Nat) (s : List (Int × Int)) (w_n : IntKind.i64.wrap n = n) (h_s : V EP H a_s n_s c_s s) (h0 : 0 ≤ n ∧ n ≤ 1000) (hm : n_s ≤ 330000000) : WF E0 142 [.int .i64 n, .slice a_s n_s c_s] H fun q => ∃ (nb : Nat) (aa : Option Addr) (an : Nat) (ax : List (Int × Int)) (aD : List Nat), q.1 = .pointer (some ⟨nb, 0, none⟩) ∧ Mem [] H q.2 [R.row nb 207 true [.slice aa an an, .int .i64 (n + 1), .func (.func 190) #[] #[], .bool false], R.lst 145 2 aa an (cells EP ax) aD] ∧ (an = n_s) ∧ (∀ u ∈ ax, EP.wf u) := by
  obtain ⟨lo_n, hi_n⟩ := rangei64 w_n
  obtain ⟨len_s, cap_s, max_s, wf_s⟩ := h_s.len
  have m0 : Mem [] H H [] := Mem.start
  refine WF.kg Tryz.func142 rfl rfl ?_
  refine KC.seq ?_
  refine KC.region ?_
  refine KO.pv (PV.assign rfl) rfl rfl ?_
  refine KO.nil ?_
  refine KC.seq ?_
  refine KC.region ?_
  refine KO.pv (PV.move rfl) rfl rfl ?_
  refine KO.call rfl rfl rfl rfl (Clone_api_And H a_s n_s c_s _ (V.mem m0 h_s) (by first | omega | assumption)) fun v1 H1 q1 => ?_
  obtain ⟨a1, n1, xs1, D1, hv1, mc1, p1_0, p1_1, p1_2, p1_3⟩ := q1
  dsimp only at hv1 mc1
  subst hv1
  have m2 := m0.seq mc1
  refine KO.pv (PV.move rfl) rfl rfl ?_
  refine KO.pv (PV.add rfl rfl (wrap64 (by omega) (by omega))) rfl rfl ?_
  refine KO.pv (PV.build rfl (bl207_0s_1i64_2F190_B11 _ _ _ _)) rfl rfl ?_
  refine KO.boxM m2 rfl rfl (show _ = [.slice a1 n1 n1, .int .i64 (n + 1), .func (.func 190) #[] #[], .bool false] from rfl) rfl rfl fun H3 m4 => ?_
  refine KO.pv (PV.assign rfl) rfl rfl ?_
  refine KO.nil ?_
  exact KC.ret ⟨rfl, _, (.tmp rfl .nil), H1.next, a1, n1, xs1, D1, rfl, m4.pick [0, 1] (by decide) rfl, (by first | omega | (intro h; omega) | (simp only [List.length_nil, true_and, and_true, or_true, true_or] <;> omega)), (by first | omega | (intro h; omega) | (simp only [List.length_nil, true_and, and_true, or_true, true_or] <;> omega) | assumption)⟩
theorem pr_pred (H : AHeap) (b_b : Nat) (a_bA : Option Addr) (n_bA : Nat) (bA : List (Int × Int)) (D_bA : List Nat) (bf : Int) (fl : Value) (bu : Bool) (l : Int) (h_g : Mem ([b_b] ++ (D_bA ++ [])) H H [R.row b_b 207 true [.slice a_bA n_bA n_bA, .int .i64 bf, fl, .bool bu], R.lst 145 2 a_bA n_bA (cells EP bA) D_bA]) (wf_bA : ∀ u ∈ bA, (EP).wf u) (w_bf : IntKind.i64.wrap bf = bf) (w_l : IntKind.i64.wrap l = l) (hb : 1 ≤ bf ∧ bf + n_bA ≤ 1001) (hl : 0 ≤ l ∧ l ≤ 2001) : WF E0 144 [.pointer (some ⟨b_b, 0, none⟩), .int .i64 l] H fun q => ∃ (ra : Option Addr) (rn : Nat) (rc : Nat) (rx : List (Int × Int)) (rD : List Nat) (rl : Int) (e : Int), q.1 = .tuple #[.agg #[.slice ra rn rc, .int .i64 rl], .int .i64 e] ∧ Mem ([b_b] ++ (D_bA ++ [])) H q.2 [R.own EP ra rn rc rx rD] ∧ (rn ≤ 1001 ∧ 0 ≤ rl ∧ rl ≤ 2001) ∧ (0 ≤ e ∧ e ≤ 100) := by
  have len_bA : bA.length = n_bA := h_g.lstLen (E := EP) (i := 1) rfl
  obtain ⟨lo_bf, hi_bf⟩ := rangei64 w_bf
  obtain ⟨lo_l, hi_l⟩ := rangei64 w_l
  have m0 := h_g
  refine WF.kg Tryz.func144 rfl rfl ?_
  refine KC.seq ?_
  refine KC.region ?_
  refine KO.allocM m0 zt44_B11 rfl rfl fun H1 m2 => ?_
  refine KO.pv (PV.assign rfl) rfl rfl ?_
  refine KO.nil ?_
  refine KC.seq ?_
  refine KC.seq ?_
  refine KC.region ?_
  refine KO.pv (PV.move rfl) rfl rfl ?_
  refine KO.pv (PV.nilCheck rfl) rfl rfl ?_
  refine KO.pv (PV.fieldAddr fo207_3_B11 rfl) rfl rfl ?_
  refine KO.load1 ag4_B11 rfl (m2.row (i := 1) rfl) rfl rfl rfl ?_
  refine KO.nil ?_
  refine KC.cond rfl (fun h3 => ?_) (fun h3 => ?_)
  · subst h3
    refine KC.seq ?_
    refine KC.region ?_
    refine KO.pv (PV.build rfl bl44__B11) rfl rfl ?_
    refine KO.storeM m2 (i := 0) rfl sz44_B11 rfl rfl rfl (show 0 + 2 ≤ 2 by decide) (show _ = [.slice none 0 0, .int .i64 0] from rfl) rfl fun H4 m5 => ?_
    refine KO.pv (PV.assign rfl) rfl rfl ?_
    refine KO.nil ?_
    have m6 := m5.ownNil (C := EP)
    exact KC.ret ⟨rfl, _, (.cell rfl (ldN (m5.row (i := 0) rfl) ag44_B11 sz44_B11 rfl rfl) (.tmp rfl .nil)), none, 0, 0, [], [], 0, 4, rfl, m6.pick [0] (by decide) rfl, (by first | omega | (intro h; omega) | (simp only [List.length_nil, true_and, and_true, or_true, true_or] <;> omega)), (by first | omega | (intro h; omega) | (simp only [List.length_nil, true_and, and_true, or_true, true_or] <;> omega))⟩
  · subst h3
    refine KC.skip ?_
    refine KC.seq ?_
    refine KC.region ?_
    refine KO.pv (PV.move rfl) rfl rfl ?_
    refine KO.pv (PV.nilCheck rfl) rfl rfl ?_
    refine KO.pv (PV.fieldAddr fo207_0_B11 rfl) rfl rfl ?_
    refine KO.load1 ag23_B11 rfl (m2.row (i := 1) rfl) rfl rfl rfl ?_
    refine KO.pv (PV.move rfl) rfl rfl ?_
    refine KO.pv (PV.build rfl (bl44_0s_1i64_B11 _ _ _ _)) rfl rfl ?_
    refine KO.storeM m2 (i := 0) rfl sz44_B11 rfl rfl rfl (show 0 + 2 ≤ 2 by decide) (show _ = [.slice a_bA n_bA n_bA, .int .i64 l] from rfl) rfl fun H7 m8 => ?_
    refine KO.pv (PV.assign rfl) rfl rfl ?_
    refine KO.nil ?_
    have m9 := m8.ownLst (C := EP) (i := 2) rfl wf_bA (by first | omega | (simp only [splice, List.length_append, List.length_set, List.length_replicate, List.length_map, List.length_take, List.length_drop, List.length_cons, List.length_nil] <;> omega))
    exact KC.ret ⟨rfl, _, (.cell rfl (ldN (m8.row (i := 0) rfl) ag44_B11 sz44_B11 rfl rfl) (.tmp rfl .nil)), a_bA, n_bA, n_bA, bA, D_bA, l, 0, rfl, m9.pick [2] (by decide) rfl, (by first | omega | (intro h; omega) | (simp only [List.length_nil, true_and, and_true, or_true, true_or] <;> omega)), (by first | omega | (intro h; omega) | (simp only [List.length_nil, true_and, and_true, or_true, true_or] <;> omega))⟩
theorem pr_two (H : AHeap) (n : Int) (a_pA : Option Addr) (n_pA c_pA : Nat) (pA : List (Int × Int)) (pl : Int) (a_qA : Option Addr) (n_qA c_qA : Nat) (qA : List (Int × Int)) (ql : Int) (w_n : IntKind.i64.wrap n = n) (h_pA : V EP H a_pA n_pA c_pA pA) (w_pl : IntKind.i64.wrap pl = pl) (h_qA : V EP H a_qA n_qA c_qA qA) (w_ql : IntKind.i64.wrap ql = ql) : WF E0 145 [.int .i64 n, .agg #[.slice a_pA n_pA c_pA, .int .i64 pl], .agg #[.slice a_qA n_qA c_qA, .int .i64 ql]] H fun q => ∃ (e : Int), q.1 = .int .i64 e ∧ Mem [] H q.2 [] ∧ (e = 0 → PredOK n pA pl) ∧ (e = 0 → PredOK n qA ql) ∧ (0 ≤ e ∧ e ≤ 100) := by
  obtain ⟨lo_n, hi_n⟩ := rangei64 w_n
  obtain ⟨len_pA, cap_pA, max_pA, wf_pA⟩ := h_pA.len
  obtain ⟨lo_pl, hi_pl⟩ := rangei64 w_pl
  obtain ⟨len_qA, cap_qA, max_qA, wf_qA⟩ := h_qA.len
  obtain ⟨lo_ql, hi_ql⟩ := rangei64 w_ql
  have m0 : Mem [] H H [] := Mem.start
  refine WF.kg Tryz.func145 rfl rfl ?_
  refine KC.seq ?_
  refine KC.region ?_
  refine KO.boxM m0 rfl rfl (show _ = [.slice a_pA n_pA c_pA, .int .i64 pl] from rfl) rfl rfl fun H1 m2 => ?_
  refine KO.boxM m2 rfl rfl (show _ = [.slice a_qA n_qA c_qA, .int .i64 ql] from rfl) rfl rfl fun H3 m4 => ?_
  refine KO.pv (PV.assign rfl) rfl rfl ?_
  refine KO.nil ?_
  refine KC.seq ?_
  refine KC.seq ?_
  refine KC.region ?_
  refine KO.pv (PV.move rfl) rfl rfl ?_
  refine KO.loadN ag44_B11 sz44_B11 rfl (m4.row (i := 1) rfl) (takeN_of (p := [.slice a_pA n_pA c_pA, .int .i64 pl]) rfl rfl) rfl rfl ?_
  refine KO.call rfl rfl rfl rfl (pr_Check H3 n a_pA n_pA c_pA _ pl (wrap64 (by omega) (by omega)) (V.mem m4 h_pA) (wrap64 (by omega) (by omega))) fun v5 H5 q5 => ?_
  obtain ⟨e5, hv5, mc5, p5_0, p5_1⟩ := q5
  dsimp only at hv5 mc5
  subst hv5
  have m6 := m4.seq mc5
  refine KO.pv (PV.assign rfl) rfl rfl ?_
  refine KO.nil ?_
  refine KC.seq ?_
  refine KC.region ?_
  refine KO.pv (PV.move rfl) rfl rfl ?_
  refine KO.pv (PV.neqD rfl rfl rfl) rfl rfl ?_
  refine KO.nil ?_
  refine KC.condD rfl (fun h7 => ?_) (fun h7 => ?_)
  · refine KC.seq ?_
    refine KC.region ?_
    refine KO.pv (PV.move rfl) rfl rfl ?_
    refine KO.pv (PV.assign rfl) rfl rfl ?_
    refine KO.nil ?_
    exact KC.ret ⟨rfl, _, (.tmp rfl .nil), e5, rfl, m6.pick [] (by decide) rfl, (by first | omega | (intro h; omega) | (simp only [List.length_nil, true_and, and_true, or_true, true_or] <;> omega) | (exact fun _ => by assumption)), (by first | omega | (intro h; omega) | (simp only [List.length_nil, true_and, and_true, or_true, true_or] <;> omega)), (by first | omega | (intro h; omega) | (simp only [List.length_nil, true_and, and_true, or_true, true_or] <;> omega))⟩
  · have p5_0t := p5_0 (by omega)
    obtain ⟨p5_0_n0, p5_0_n1, p5_0_al, p5_0_ha, p5_0_l0, p5_0_l1⟩ := id p5_0t
    refine KC.skip ?_
    refine KC.seq ?_
    refine KC.region ?_
    refine KO.pv (PV.move rfl) rfl rfl ?_
    refine KO.loadN ag44_B11 sz44_B11 rfl (m6.row (i := 0) rfl) (takeN_of (p := [.slice a_qA n_qA c_qA, .int .i64 ql]) rfl rfl) rfl rfl ?_
    refine KO.call rfl rfl rfl rfl (pr_Check H5 n a_qA n_qA c_qA _ ql (wrap64 (by omega) (by omega)) (V.mem m6 h_qA) (wrap64 (by omega) (by omega))) fun v8 H8 q8 => ?_
    obtain ⟨e8, hv8, mc8, p8_0, p8_1⟩ := q8
    dsimp only at hv8 mc8
    subst hv8
    have m9 := m6.seq mc8
    refine KO.pv (PV.assign rfl) rfl rfl ?_
    refine KO.nil ?_
    exact KC.ret ⟨rfl, _, (.tmp rfl .nil), e8, rfl, m9.pick [] (by decide) rfl, (by first | omega | (intro h; omega) | (simp only [List.length_nil, true_and, and_true, or_true, true_or] <;> omega) | (exact fun _ => by assumption)), (by first | omega | (intro h; omega) | (simp only [List.length_nil, true_and, and_true, or_true, true_or] <;> omega) | (exact p8_0)), (by first | omega | (intro h; omega) | (simp only [List.length_nil, true_and, and_true, or_true, true_or] <;> omega))⟩
theorem pr_And (H : AHeap) (n : Int) (a_pA : Option Addr) (n_pA c_pA : Nat) (pA : List (Int × Int)) (pl : Int) (a_qA : Option Addr) (n_qA c_qA : Nat) (qA : List (Int × Int)) (ql : Int) (w_n : IntKind.i64.wrap n = n) (h_pA : V EP H a_pA n_pA c_pA pA) (w_pl : IntKind.i64.wrap pl = pl) (h_qA : V EP H a_qA n_qA c_qA qA) (w_ql : IntKind.i64.wrap ql = ql) : WF E0 65 [.int .i64 n, .agg #[.slice a_pA n_pA c_pA, .int .i64 pl], .agg #[.slice a_qA n_qA c_qA, .int .i64 ql]] H fun q => ∃ (ra : Option Addr) (rn : Nat) (rc : Nat) (rx : List (Int × Int)) (rD : List Nat) (rl : Int) (e : Int), q.1 = .tuple #[.agg #[.slice ra rn rc, .int .i64 rl], .int .i64 e] ∧ Mem [] H q.2 [R.own EP ra rn rc rx rD] ∧ (rn ≤ 1001 ∧ 0 ≤ rl ∧ rl ≤ 2001) ∧ (0 ≤ e ∧ e ≤ 100) := by
  obtain ⟨lo_n, hi_n⟩ := rangei64 w_n
  obtain ⟨len_pA, cap_pA, max_pA, wf_pA⟩ := h_pA.len
  obtain ⟨lo_pl, hi_pl⟩ := rangei64 w_pl
  obtain ⟨len_qA, cap_qA, max_qA, wf_qA⟩ := h_qA.len
  obtain ⟨lo_ql, hi_ql⟩ := rangei64 w_ql
  have m0 : Mem [] H H [] := Mem.start
  refine WF.kg Tryz.func65 rfl rfl ?_
  refine KC.seq ?_
  refine KC.region ?_
  refine KO.boxM m0 rfl rfl (show _ = [.slice a_pA n_pA c_pA, .int .i64 pl] from rfl) rfl rfl fun H1 m2 => ?_
  refine KO.boxM m2 rfl rfl (show _ = [.slice a_qA n_qA c_qA, .int .i64 ql] from rfl) rfl rfl fun H3 m4 => ?_
  refine KO.allocM m4 zt44_B11 rfl rfl fun H5 m6 => ?_
  refine KO.pv (PV.assign rfl) rfl rfl ?_
  refine KO.nil ?_
  refine KC.seq ?_
  refine KC.seq ?_
  refine KC.region ?_
  refine KO.pv (PV.move rfl) rfl rfl ?_
  refine KO.loadN ag44_B11 sz44_B11 rfl (m6.row (i := 2) rfl) (takeN_of (p := [.slice a_pA n_pA c_pA, .int .i64 pl]) rfl rfl) rfl rfl ?_
  refine KO.loadN ag44_B11 sz44_B11 rfl (m6.row (i := 1) rfl) (takeN_of (p := [.slice a_qA n_qA c_qA, .int .i64 ql]) rfl rfl) rfl rfl ?_
  refine KO.call rfl rfl rfl rfl (pr_two H5 n a_pA n_pA c_pA _ pl a_qA n_qA c_qA _ ql (wrap64 (by omega) (by omega)) (V.mem m6 h_pA) (wrap64 (by omega) (by omega)) (V.mem m6 h_qA) (wrap64 (by omega) (by omega))) fun v7 H7 q7 => ?_
  obtain ⟨e7, hv7, mc7, p7_0, p7_1, p7_2⟩ := q7
  dsimp only at hv7 mc7
  subst hv7
  have m8 := m6.seq mc7
  refine KO.pv (PV.assign rfl) rfl rfl ?_
  refine KO.nil ?_
  refine KC.seq ?_
  refine KC.region ?_
  refine KO.pv (PV.move rfl) rfl rfl ?_
  refine KO.pv (PV.neqD rfl rfl rfl) rfl rfl ?_
  refine KO.nil ?_
  refine KC.condD rfl (fun h9 => ?_) (fun h9 => ?_)
  · refine KC.seq ?_
    refine KC.region ?_
    refine KO.pv (PV.build rfl bl44__B11) rfl rfl ?_
    refine KO.pv (PV.move rfl) rfl rfl ?_
    refine KO.storeM m8 (i := 0) rfl sz44_B11 rfl rfl rfl (show 0 + 2 ≤ 2 by decide) (show _ = [.slice none 0 0, .int .i64 0] from rfl) rfl fun H10 m11 => ?_
    refine KO.pv (PV.assign rfl) rfl rfl ?_
    refine KO.nil ?_
    have m12 := m11.ownNil (C := EP)
    exact KC.ret ⟨rfl, _, (.cell rfl (ldN (m11.row (i := 0) rfl) ag44_B11 sz44_B11 rfl rfl) (.tmp rfl .nil)), none, 0, 0, [], [], 0, e7, rfl, m12.pick [0] (by decide) rfl, (by first | omega | (intro h; omega) | (simp only [List.length_nil, true_and, and_true, or_true, true_or] <;> omega)), (by first | omega | (intro h; omega) | (simp only [List.length_nil, true_and, and_true, or_true, true_or] <;> omega))⟩
  · have p7_0t := p7_0 (by omega)
    obtain ⟨p7_0_n0, p7_0_n1, p7_0_al, p7_0_ha, p7_0_l0, p7_0_l1⟩ := id p7_0t
    have p7_1t := p7_1 (by omega)
    obtain ⟨p7_1_n0, p7_1_n1, p7_1_al, p7_1_ha, p7_1_l0, p7_1_l1⟩ := id p7_1t
    refine KC.skip ?_
    refine KC.seq ?_
    refine KC.region ?_
    refine KO.pv (PV.move rfl) rfl rfl ?_
    refine KO.pv (PV.fieldAddr fo44_0_B11 rfl) rfl rfl ?_
    refine KO.load1 ag23_B11 rfl (m8.row (i := 2) rfl) rfl rfl rfl ?_
    refine KO.call rfl rfl rfl rfl (pr_over H7 n a_pA n_pA c_pA _ (wrap64 (by omega) (by omega)) (V.mem m8 h_pA) (by first | omega | assumption) (by first | omega | assumption)) fun v13 H13 q13 => ?_
    obtain ⟨nb13, aa13, an13, ax13, aD13, hv13, mc13, p13_0, p13_1⟩ := q13
    dsimp only at hv13 mc13
    subst hv13
    have m14 := m8.seq mc13
    have ll13_1 : ax13.length = an13 := m14.lstLen (E := EP) (i := 1) rfl
    refine KO.pv (PV.assign rfl) rfl rfl ?_
    refine KO.nil ?_
    refine KC.seq ?_
    refine KC.drawG (n := 14) (anc := [0, 0, 0, 4, 0, 0, 0, 112, 254, 511, 1023, 1023, 4095, 8191]) (hv := [7, 8, 9, 12]) (ord := [4, 5, 6, 7, 1, 2, 3, 8, 0, 9, 10, 11, 12, 13]) (by kernel_rfl) (by kernel_rfl) (by kernel_rfl) (by kernel_rfl) (by kernel_rfl) fun H15 n16 g17 => ?_
    have m18 := m14.room n16 g17 [] (by decide) (by decide)
    refine KD.pv 16 (PV.move rfl) rfl rfl rfl (by kernel_rfl) rfl rfl rfl ?_
    refine KD.pv 48 (PV.move rfl) rfl rfl rfl (by kernel_rfl) rfl rfl rfl ?_
    refine KD.load 112 rfl (m18.row (i := 3) rfl) (readN ag44_B11 sz44_B11 (takeN_of (p := [.slice a_qA n_qA c_qA, .int .i64 ql]) rfl rfl)) (pastGo (k := 1) (l := [H15]) (by kernel_rfl) rfl (pastCons ⟨_, (m18.row (i := 3) rfl), (readN ag44_B11 sz44_B11 (takeN_of (p := [.slice a_qA n_qA c_qA, .int .i64 ql]) rfl rfl))⟩ pastNil)) (veq_agg (veqCons veqS (veqCons veqI veqNil))) rfl (by kernel_rfl) rfl rfl rfl ?_
    have m19 : Mem [] H H15 [R.row nb13 207 true [.slice aa13 an13 an13, .int .i64 (n + 1), .func (.func 190) #[] #[], .bool false], R.lst 145 2 aa13 an13 (cells EP ax13) aD13, R.row H3.next 44 true [.slice none 0 0, .int .i64 0], R.row H1.next 44 true [.slice a_qA n_qA c_qA, .int .i64 ql], R.row H.next 44 true [.slice a_pA n_pA c_pA, .int .i64 pl]] := m18.pick [0, 1, 2, 3, 4] (by decide) rfl
    refine KD.call 240 rfl rfl rfl (by kernel_rfl) rfl rfl rfl (pr_putO H15 nb13 _ _ _ aD13 (n + 1) false n a_qA n_qA c_qA _ ql (m19.ownK (Rs := [R.row nb13 207 true [.slice aa13 an13 an13, .int .i64 (n + 1), .func (.func 190) #[] #[], .bool false], R.lst 145 2 aa13 an13 (cells EP ax13) aD13])) (by assumption) (wrap64 (by omega) (by omega)) (wrap64 (by omega) (by omega)) (V.mem m19 h_qA) (sepCons (V.sep m19 h_qA (i := 0) rfl) (sepCons (V.sep m19 h_qA (i := 1) rfl) sepEnd)) (wrap64 (by omega) (by omega)) (by first | omega | assumption) (by first | omega | assumption)) fun v20 H20 q20 => ?_
    obtain ⟨z20, aa20, an20, ax20, aD20, fu20, hv20, mc20, p20_0, p20_1, p20_2⟩ := q20
    dsimp only at hv20 mc20
    subst hv20
    have m21 := m19.seqK (Rs := [R.row nb13 207 true [.slice aa13 an13 an13, .int .i64 (n + 1), .func (.func 190) #[] #[], .bool false], R.lst 145 2 aa13 an13 (cells EP ax13) aD13]) mc20
    have ll20_1 : ax20.length = an20 := m21.lstLen (E := EP) (i := 1) rfl
    refine KD.pv 242 (PV.move rfl) rfl rfl rfl (by kernel_rfl) rfl rfl rfl ?_
    refine KD.pv 246 (PV.fieldAddr fo44_1_B11 rfl) rfl rfl rfl (by kernel_rfl) rfl rfl rfl ?_
    refine KD.load 254 rfl (m21.row (i := 4) rfl) (by rw [read1 ag3_B11]; exact rfl) (pastGo (k := 2) (l := [H20, H15]) (by kernel_rfl) rfl (pastCons ⟨_, (m21.row (i := 4) rfl), (by rw [read1 ag3_B11]; exact rfl)⟩ (pastCons ⟨_, (m18.row (i := 4) rfl), (by rw [read1 ag3_B11]; exact rfl)⟩ pastNil))) veq_int rfl (by kernel_rfl) rfl rfl rfl ?_
    have m22 : Mem [] H H20 [R.row nb13 207 true [.slice aa20 an20 an20, .int .i64 (n + 1), .func (.func 190) #[] #[], .bool fu20], R.lst 145 2 aa20 an20 (cells EP ax20) aD20, R.row H3.next 44 true [.slice none 0 0, .int .i64 0], R.row H1.next 44 true [.slice a_qA n_qA c_qA, .int .i64 ql], R.row H.next 44 true [.slice a_pA n_pA c_pA, .int .i64 pl]] := m21.pick [0, 1, 2, 3, 4] (by decide) rfl
    refine KD.call 510 rfl rfl rfl (by kernel_rfl) rfl rfl rfl (pr_and H20 nb13 _ _ _ aD20 (n + 1) (.func (.func 190) #[] #[]) fu20 pl z20 (m22.ownK (Rs := [R.row nb13 207 true [.slice aa20 an20 an20, .int .i64 (n + 1), .func (.func 190) #[] #[], .bool fu20], R.lst 145 2 aa20 an20 (cells EP ax20) aD20])) (by assumption) (wrap64 (by omega) (by omega)) (wrap64 (by omega) (by omega)) (wrap64 (by omega) (by omega)) (by first | omega | assumption)) fun v23 H23 q23 => ?_
    obtain ⟨z23, aa23, an23, ax23, aD23, fu23, hv23, mc23, p23_0, p23_1, p23_2⟩ := q23
    dsimp only at hv23 mc23
    subst hv23
    have m24 := m22.seqK (Rs := [R.row nb13 207 true [.slice aa20 an20 an20, .int .i64 (n + 1), .func (.func 190) #[] #[], .bool fu20], R.lst 145 2 aa20 an20 (cells EP ax20) aD20]) mc23
    have ll23_1 : ax23.length = an23 := m24.lstLen (E := EP) (i := 1) rfl
    refine KD.pv 511 (PV.move rfl) rfl rfl rfl (by kernel_rfl) rfl rfl rfl ?_
    have m25 : Mem [] H H23 [R.row nb13 207 true [.slice aa23 an23 an23, .int .i64 (n + 1), .func (.func 190) #[] #[], .bool fu23], R.lst 145 2 aa23 an23 (cells EP ax23) aD23, R.row H3.next 44 true [.slice none 0 0, .int .i64 0], R.row H1.next 44 true [.slice a_qA n_qA c_qA, .int .i64 ql], R.row H.next 44 true [.slice a_pA n_pA c_pA, .int .i64 pl]] := m24.pick [0, 1, 2, 3, 4] (by decide) rfl
    refine KD.call 1023 rfl rfl rfl (by kernel_rfl) rfl rfl rfl (pr_pred H23 nb13 _ _ _ aD23 (n + 1) (.func (.func 190) #[] #[]) fu23 z23 (m25.ownK (Rs := [R.row nb13 207 true [.slice aa23 an23 an23, .int .i64 (n + 1), .func (.func 190) #[] #[], .bool fu23], R.lst 145 2 aa23 an23 (cells EP ax23) aD23])) (by assumption) (wrap64 (by omega) (by omega)) (wrap64 (by omega) (by omega)) (by first | omega | assumption) (by first | omega | assumption)) fun v26 H26 q26 => ?_
    obtain ⟨ra26, rn26, rc26, rx26, rD26, rl26, e26, hv26, mc26, p26_0, p26_1⟩ := q26
    dsimp only at hv26 mc26
    subst hv26
    have m27 := m25.seqK (Rs := [R.row nb13 207 true [.slice aa23 an23 an23, .int .i64 (n + 1), .func (.func 190) #[] #[], .bool fu23], R.lst 145 2 aa23 an23 (cells EP ax23) aD23]) mc26
    refine KD.pv 2047 (PV.extract rfl rfl) rfl rfl rfl (by kernel_rfl) rfl rfl rfl ?_
    refine KD.pv 4095 (PV.extract rfl rfl) rfl rfl rfl (by kernel_rfl) rfl rfl rfl ?_
    refine KD.storeM 8191 m27 (j := 1) rfl sz44_B11 rfl rfl rfl (show 0 + 2 ≤ 2 by decide) (show _ = [.slice ra26 rn26 rc26, .int .i64 rl26] from rfl) rfl (by kernel_rfl) rfl rfl fun H28 m29 => ?_
    refine KD.pv 16383 (PV.assign rfl) rfl rfl rfl (by kernel_rfl) rfl rfl rfl ?_
    refine KD.nil ⟨rfl, ?_⟩
    exact KC.ret ⟨rfl, _, (.cell rfl (ldN (m29.row (i := 1) rfl) ag44_B11 sz44_B11 rfl rfl) (.tmp rfl .nil)), ra26, rn26, rc26, rx26, rD26, rl26, e26, rfl, m29.pick [0] (by decide) rfl, (by first | omega | (intro h; omega) | (simp only [List.length_nil, true_and, and_true, or_true, true_or] <;> omega)), (by first | omega | (intro h; omega) | (simp only [List.length_nil, true_and, and_true, or_true, true_or] <;> omega))⟩
theorem pr_Or (H : AHeap) (n : Int) (a_pA : Option Addr) (n_pA c_pA : Nat) (pA : List (Int × Int)) (pl : Int) (a_qA : Option Addr) (n_qA c_qA : Nat) (qA : List (Int × Int)) (ql : Int) (w_n : IntKind.i64.wrap n = n) (h_pA : V EP H a_pA n_pA c_pA pA) (w_pl : IntKind.i64.wrap pl = pl) (h_qA : V EP H a_qA n_qA c_qA qA) (w_ql : IntKind.i64.wrap ql = ql) : WF E0 68 [.int .i64 n, .agg #[.slice a_pA n_pA c_pA, .int .i64 pl], .agg #[.slice a_qA n_qA c_qA, .int .i64 ql]] H fun q => ∃ (ra : Option Addr) (rn : Nat) (rc : Nat) (rx : List (Int × Int)) (rD : List Nat) (rl : Int) (e : Int), q.1 = .tuple #[.agg #[.slice ra rn rc, .int .i64 rl], .int .i64 e] ∧ Mem [] H q.2 [R.own EP ra rn rc rx rD] ∧ (rn ≤ 1001 ∧ 0 ≤ rl ∧ rl ≤ 2001) ∧ (0 ≤ e ∧ e ≤ 100) := by
  obtain ⟨lo_n, hi_n⟩ := rangei64 w_n
  obtain ⟨len_pA, cap_pA, max_pA, wf_pA⟩ := h_pA.len
  obtain ⟨lo_pl, hi_pl⟩ := rangei64 w_pl
  obtain ⟨len_qA, cap_qA, max_qA, wf_qA⟩ := h_qA.len
  obtain ⟨lo_ql, hi_ql⟩ := rangei64 w_ql
  have m0 : Mem [] H H [] := Mem.start
  refine WF.kg Tryz.func68 rfl rfl ?_
  refine KC.seq ?_
  refine KC.region ?_
  refine KO.boxM m0 rfl rfl (show _ = [.slice a_pA n_pA c_pA, .int .i64 pl] from rfl) rfl rfl fun H1 m2 => ?_
  refine KO.boxM m2 rfl rfl (show _ = [.slice a_qA n_qA c_qA, .int .i64 ql] from rfl) rfl rfl fun H3 m4 => ?_
  refine KO.allocM m4 zt44_B11 rfl rfl fun H5 m6 => ?_
  refine KO.pv (PV.assign rfl) rfl rfl ?_
  refine KO.nil ?_
  refine KC.seq ?_
  refine KC.seq ?_
  refine KC.region ?_
  refine KO.pv (PV.move rfl) rfl rfl ?_
  refine KO.loadN ag44_B11 sz44_B11 rfl (m6.row (i := 2) rfl) (takeN_of (p := [.slice a_pA n_pA c_pA, .int .i64 pl]) rfl rfl) rfl rfl ?_
  refine KO.loadN ag44_B11 sz44_B11 rfl (m6.row (i := 1) rfl) (takeN_of (p := [.slice a_qA n_qA c_qA, .int .i64 ql]) rfl rfl) rfl rfl ?_
  refine KO.call rfl rfl rfl rfl (pr_two H5 n a_pA n_pA c_pA _ pl a_qA n_qA c_qA _ ql (wrap64 (by omega) (by omega)) (V.mem m6 h_pA) (wrap64 (by omega) (by omega)) (V.mem m6 h_qA) (wrap64 (by omega) (by omega))) fun v7 H7 q7 => ?_
  obtain ⟨e7, hv7, mc7, p7_0, p7_1, p7_2⟩ := q7
  dsimp only at hv7 mc7
  subst hv7
  have m8 := m6.seq mc7
  refine KO.pv (PV.assign rfl) rfl rfl ?_
  refine KO.nil ?_
  refine KC.seq ?_
  refine KC.region ?_
  refine KO.pv (PV.move rfl) rfl rfl ?_
  refine KO.pv (PV.neqD rfl rfl rfl) rfl rfl ?_
  refine KO.nil ?_
  refine KC.condD rfl (fun h9 => ?_) (fun h9 => ?_)
  · refine KC.seq ?_
    refine KC.region ?_
    refine KO.pv (PV.build rfl bl44__B11) rfl rfl ?_
    refine KO.pv (PV.move rfl) rfl rfl ?_
    refine KO.storeM m8 (i := 0) rfl sz44_B11 rfl rfl rfl (show 0 + 2 ≤ 2 by decide) (show _ = [.slice none 0 0, .int .i64 0] from rfl) rfl fun H10 m11 => ?_
    refine KO.pv (PV.assign rfl) rfl rfl ?_
    refine KO.nil ?_
    have m12 := m11.ownNil (C := EP)
    exact KC.ret ⟨rfl, _, (.cell rfl (ldN (m11.row (i := 0) rfl) ag44_B11 sz44_B11 rfl rfl) (.tmp rfl .nil)), none, 0, 0, [], [], 0, e7, rfl, m12.pick [0] (by decide) rfl, (by first | omega | (intro h; omega) | (simp only [List.length_nil, true_and, and_true, or_true, true_or] <;> omega)), (by first | omega | (intro h; omega) | (simp only [List.length_nil, true_and, and_true, or_true, true_or] <;> omega))⟩
  · have p7_0t := p7_0 (by omega)
    obtain ⟨p7_0_n0, p7_0_n1, p7_0_al, p7_0_ha, p7_0_l0, p7_0_l1⟩ := id p7_0t
    have p7_1t := p7_1 (by omega)
    obtain ⟨p7_1_n0, p7_1_n1, p7_1_al, p7_1_ha, p7_1_l0, p7_1_l1⟩ := id p7_1t
    refine KC.skip ?_
    refine KC.seq ?_
    refine KC.region ?_
    refine KO.pv (PV.fieldAddr fo44_1_B11 rfl) rfl rfl ?_
    refine KO.load1 ag3_B11 rfl (m8.row (i := 2) rfl) rfl rfl rfl ?_
    obtain ⟨x13, dx13, rx13, zx13, qx13⟩ := xor1 (pl) (by omega) (by omega)
    refine KO.pv (PV.xor1 rfl rfl qx13) rfl rfl ?_
    refine KO.pv (PV.fieldAddr fo44_1_B11 rfl) rfl rfl ?_
    refine KO.storeM m8 (i := 2) rfl sz3_B11 rfl rfl rfl (show 1 + 1 ≤ 2 by decide) (show _ = [.slice a_pA n_pA c_pA, .int .i64 x13] from rfl) rfl fun H14 m15 => ?_
    refine KO.nil ?_
    refine KC.seq ?_
    refine KC.region ?_
    refine KO.pv (PV.fieldAddr fo44_1_B11 rfl) rfl rfl ?_
    refine KO.load1 ag3_B11 rfl (m15.row (i := 1) rfl) rfl rfl rfl ?_
    obtain ⟨x16, dx16, rx16, zx16, qx16⟩ := xor1 (ql) (by omega) (by omega)
    refine KO.pv (PV.xor1 rfl rfl qx16) rfl rfl ?_
    refine KO.pv (PV.fieldAddr fo44_1_B11 rfl) rfl rfl ?_
    refine KO.storeM m15 (i := 1) rfl sz3_B11 rfl rfl rfl (show 1 + 1 ≤ 2 by decide) (show _ = [.slice a_qA n_qA c_qA, .int .i64 x16] from rfl) rfl fun H17 m18 => ?_
    refine KO.nil ?_
    refine KC.seq ?_
    refine KC.region ?_
    refine KO.pv (PV.move rfl) rfl rfl ?_
    refine KO.loadN ag44_B11 sz44_B11 rfl (m18.row (i := 2) rfl) (takeN_of (p := [.slice a_pA n_pA c_pA, .int .i64 x13]) rfl rfl) rfl rfl ?_
    refine KO.loadN ag44_B11 sz44_B11 rfl (m18.row (i := 1) rfl) (takeN_of (p := [.slice a_qA n_qA c_qA, .int .i64 x16]) rfl rfl) rfl rfl ?_
    refine KO.call rfl rfl rfl rfl (pr_And H17 n a_pA n_pA c_pA _ x13 a_qA n_qA c_qA _ x16 (wrap64 (by omega) (by omega)) (V.mem m18 h_pA) (wrap64 (by omega) (by omega)) (V.mem m18 h_qA) (wrap64 (by omega) (by omega))) fun v19 H19 q19 => ?_
    obtain ⟨ra19, rn19, rc19, rx19, rD19, rl19, e19, hv19, mc19, p19_0, p19_1⟩ := q19
    dsimp only at hv19 mc19
    subst hv19
    have m20 := m18.seq mc19
    refine KO.pv (PV.move rfl) rfl rfl ?_
    refine KO.pv (PV.extract rfl rfl) rfl rfl ?_
    refine KO.pv (PV.extract rfl rfl) rfl rfl ?_
    refine KO.allocM m20 zt44_B11 rfl rfl fun H21 m22 => ?_
    refine KO.storeM m22 (i := 0) rfl sz44_B11 rfl rfl rfl (show 0 + 2 ≤ 2 by decide) (show _ = [.slice ra19 rn19 rc19, .int .i64 rl19] from rfl) rfl fun H23 m24 => ?_
    refine KO.pv (PV.assign rfl) rfl rfl ?_
    refine KO.nil ?_
    refine KC.seq ?_
    refine KC.seq ?_
    refine KC.region ?_
    refine KO.pv (PV.move rfl) rfl rfl ?_
    refine KO.pv (PV.neqD rfl rfl rfl) rfl rfl ?_
    refine KO.nil ?_
    refine KC.condD rfl (fun h25 => ?_) (fun h25 => ?_)
    · refine KC.seq ?_
      refine KC.region ?_
      refine KO.pv (PV.build rfl bl44__B11) rfl rfl ?_
      refine KO.pv (PV.move rfl) rfl rfl ?_
      refine KO.storeM m24 (i := 2) rfl sz44_B11 rfl rfl rfl (show 0 + 2 ≤ 2 by decide) (show _ = [.slice none 0 0, .int .i64 0] from rfl) rfl fun H26 m27 => ?_
      refine KO.pv (PV.assign rfl) rfl rfl ?_
      refine KO.nil ?_
      have m28 := m27.ownNil (C := EP)
      exact KC.ret ⟨rfl, _, (.cell rfl (ldN (m27.row (i := 2) rfl) ag44_B11 sz44_B11 rfl rfl) (.tmp rfl .nil)), none, 0, 0, [], [], 0, e19, rfl, m28.pick [0] (by decide) rfl, (by first | omega | (intro h; omega) | (simp only [List.length_nil, true_and, and_true, or_true, true_or] <;> omega)), (by first | omega | (intro h; omega) | (simp only [List.length_nil, true_and, and_true, or_true, true_or] <;> omega))⟩
    · refine KC.skip ?_
      refine KC.seq ?_
      refine KC.region ?_
      refine KO.pv (PV.fieldAddr fo44_1_B11 rfl) rfl rfl ?_
      refine KO.load1 ag3_B11 rfl (m24.row (i := 0) rfl) rfl rfl rfl ?_
      obtain ⟨x29, dx29, rx29, zx29, qx29⟩ := xor1 (rl19) (by omega) (by omega)
      refine KO.pv (PV.xor1 rfl rfl qx29) rfl rfl ?_
      refine KO.pv (PV.fieldAddr fo44_1_B11 rfl) rfl rfl ?_
      refine KO.storeM m24 (i := 0) rfl sz3_B11 rfl rfl rfl (show 1 + 1 ≤ 2 by decide) (show _ = [.slice ra19 rn19 rc19, .int .i64 x29] from rfl) rfl fun H30 m31 => ?_
      refine KO.nil ?_
      refine KC.seq ?_
      refine KC.region ?_
      refine KO.loadN ag44_B11 sz44_B11 rfl (m31.row (i := 0) rfl) (takeN_of (p := [.slice ra19 rn19 rc19, .int .i64 x29]) rfl rfl) rfl rfl ?_
      refine KO.storeM m31 (i := 2) rfl sz44_B11 rfl rfl rfl (show 0 + 2 ≤ 2 by decide) (show _ = [.slice ra19 rn19 rc19, .int .i64 x29] from rfl) rfl fun H32 m33 => ?_
      refine KO.pv (PV.assign rfl) rfl rfl ?_
      refine KO.nil ?_
      exact KC.ret ⟨rfl, _, (.cell rfl (ldN (m33.row (i := 2) rfl) ag44_B11 sz44_B11 rfl rfl) (.tmp rfl .nil)), ra19, rn19, rc19, rx19, rD19, x29, 0, rfl, m33.pick [1] (by decide) rfl, (by first | omega | (intro h; omega) | (simp only [List.length_nil, true_and, and_true, or_true, true_or] <;> omega)), (by first | omega | (intro h; omega) | (simp only [List.length_nil, true_and, and_true, or_true, true_or] <;> omega))⟩
theorem pr_Not (H : AHeap) (n : Int) (a_pA : Option Addr) (n_pA c_pA : Nat) (pA : List (Int × Int)) (pl : Int) (w_n : IntKind.i64.wrap n = n) (h_pA : V EP H a_pA n_pA c_pA pA) (w_pl : IntKind.i64.wrap pl = pl) : WF E0 71 [.int .i64 n, .agg #[.slice a_pA n_pA c_pA, .int .i64 pl]] H fun q => ∃ (ra : Option Addr) (rn : Nat) (rc : Nat) (rx : List (Int × Int)) (rD : List Nat) (rl : Int) (e : Int), q.1 = .tuple #[.agg #[.slice ra rn rc, .int .i64 rl], .int .i64 e] ∧ Mem [] H q.2 [R.own EP ra rn rc rx rD] ∧ (rn ≤ 1001 ∧ 0 ≤ rl ∧ rl ≤ 2001) ∧ (0 ≤ e ∧ e ≤ 100) := by
  obtain ⟨lo_n, hi_n⟩ := rangei64 w_n
  obtain ⟨len_pA, cap_pA, max_pA, wf_pA⟩ := h_pA.len
  obtain ⟨lo_pl, hi_pl⟩ := rangei64 w_pl
  have m0 : Mem [] H H [] := Mem.start
  refine WF.kg Tryz.func71 rfl rfl ?_
  refine KC.seq ?_
  refine KC.region ?_
  refine KO.boxM m0 rfl rfl (show _ = [.slice a_pA n_pA c_pA, .int .i64 pl] from rfl) rfl rfl fun H1 m2 => ?_
  refine KO.allocM m2 zt44_B11 rfl rfl fun H3 m4 => ?_
  refine KO.pv (PV.assign rfl) rfl rfl ?_
  refine KO.nil ?_
  refine KC.seq ?_
  refine KC.seq ?_
  refine KC.region ?_
  refine KO.pv (PV.move rfl) rfl rfl ?_
  refine KO.loadN ag44_B11 sz44_B11 rfl (m4.row (i := 1) rfl) (takeN_of (p := [.slice a_pA n_pA c_pA, .int .i64 pl]) rfl rfl) rfl rfl ?_
  refine KO.call rfl rfl rfl rfl (pr_Check H3 n a_pA n_pA c_pA _ pl (wrap64 (by omega) (by omega)) (V.mem m4 h_pA) (wrap64 (by omega) (by omega))) fun v5 H5 q5 => ?_
  obtain ⟨e5, hv5, mc5, p5_0, p5_1⟩ := q5
  dsimp only at hv5 mc5
  subst hv5
  have m6 := m4.seq mc5
  refine KO.pv (PV.assign rfl) rfl rfl ?_
  refine KO.nil ?_
  refine KC.seq ?_
  refine KC.region ?_
  refine KO.pv (PV.move rfl) rfl rfl ?_
  refine KO.pv (PV.neqD rfl rfl rfl) rfl rfl ?_
  refine KO.nil ?_
  refine KC.condD rfl (fun h7 => ?_) (fun h7 => ?_)
  · refine KC.seq ?_
    refine KC.region ?_
    refine KO.pv (PV.build rfl bl44__B11) rfl rfl ?_
    refine KO.pv (PV.move rfl) rfl rfl ?_
    refine KO.storeM m6 (i := 0) rfl sz44_B11 rfl rfl rfl (show 0 + 2 ≤ 2 by decide) (show _ = [.slice none 0 0, .int .i64 0] from rfl) rfl fun H8 m9 => ?_
    refine KO.pv (PV.assign rfl) rfl rfl ?_
    refine KO.nil ?_
    have m10 := m9.ownNil (C := EP)
    exact KC.ret ⟨rfl, _, (.cell rfl (ldN (m9.row (i := 0) rfl) ag44_B11 sz44_B11 rfl rfl) (.tmp rfl .nil)), none, 0, 0, [], [], 0, e5, rfl, m10.pick [0] (by decide) rfl, (by first | omega | (intro h; omega) | (simp only [List.length_nil, true_and, and_true, or_true, true_or] <;> omega)), (by first | omega | (intro h; omega) | (simp only [List.length_nil, true_and, and_true, or_true, true_or] <;> omega))⟩
  · have p5_0t := p5_0 (by omega)
    obtain ⟨p5_0_n0, p5_0_n1, p5_0_al, p5_0_ha, p5_0_l0, p5_0_l1⟩ := id p5_0t
    refine KC.skip ?_
    refine KC.seq ?_
    refine KC.drawG (n := 9) (anc := [0, 1, 3, 0, 8, 24, 63, 127, 255]) (hv := [2, 7]) (ord := [0, 1, 2, 3, 4, 5, 6, 7, 8]) (by kernel_rfl) (by kernel_rfl) (by kernel_rfl) (by kernel_rfl) (by kernel_rfl) fun H11 n12 g13 => ?_
    have m14 := m6.room n12 g13 [] (by decide) (by decide)
    refine KD.pv 1 (PV.fieldAddr fo44_0_B11 rfl) rfl rfl rfl (by kernel_rfl) rfl rfl rfl ?_
    refine KD.load 3 rfl (m14.row (i := 1) rfl) (by rw [read1 ag23_B11]; exact rfl) (pastGo (k := 1) (l := [H11]) (by kernel_rfl) rfl (pastCons ⟨_, (m14.row (i := 1) rfl), (by rw [read1 ag23_B11]; exact rfl)⟩ pastNil)) veq_sl rfl (by kernel_rfl) rfl rfl rfl ?_
    refine KD.call 7 rfl rfl rfl (by kernel_rfl) rfl rfl rfl (Clone_api_And H11 a_pA n_pA c_pA _ (V.mem m14 h_pA) (by first | omega | assumption)) fun v15 H15 q15 => ?_
    obtain ⟨a15, n15, xs15, D15, hv15, mc15, p15_0, p15_1, p15_2, p15_3⟩ := q15
    dsimp only at hv15 mc15
    subst hv15
    have m16 := m14.seq mc15
    refine KD.pv 15 (PV.fieldAddr fo44_1_B11 rfl) rfl rfl rfl (by kernel_rfl) rfl rfl rfl ?_
    refine KD.load 31 rfl (m16.row (i := 2) rfl) (by rw [read1 ag3_B11]; exact rfl) (pastGo (k := 2) (l := [H15, H11]) (by kernel_rfl) rfl (pastCons ⟨_, (m16.row (i := 2) rfl), (by rw [read1 ag3_B11]; exact rfl)⟩ (pastCons ⟨_, (m14.row (i := 1) rfl), (by rw [read1 ag3_B11]; exact rfl)⟩ pastNil))) veq_int rfl (by kernel_rfl) rfl rfl rfl ?_
    obtain ⟨x17, dx17, rx17, zx17, qx17⟩ := xor1 (pl) (by omega) (by omega)
    refine KD.pv 63 (PV.xor1 rfl rfl qx17) rfl rfl rfl (by kernel_rfl) rfl rfl rfl ?_
    refine KD.pv 127 (PV.build rfl (bl44_0s_1i64_B11 _ _ _ _)) rfl rfl rfl (by kernel_rfl) rfl rfl rfl ?_
    refine KD.storeM 255 m16 (j := 1) rfl sz44_B11 rfl rfl rfl (show 0 + 2 ≤ 2 by decide) (show _ = [.slice a15 n15 n15, .int .i64 x17] from rfl) rfl (by kernel_rfl) rfl rfl fun H18 m19 => ?_
    refine KD.pv 511 (PV.assign rfl) rfl rfl rfl (by kernel_rfl) rfl rfl rfl ?_
    refine KD.nil ⟨rfl, ?_⟩
    have m20 := m19.ownLst (C := EP) (i := 0) rfl (by assumption) (by first | omega | (simp only [splice, List.length_append, List.length_set, List.length_replicate, List.length_map, List.length_take, List.length_drop, List.length_cons, List.length_nil] <;> omega))
    exact KC.ret ⟨rfl, _, (.cell rfl (ldN (m19.row (i := 1) rfl) ag44_B11 sz44_B11 rfl rfl) (.tmp rfl .nil)), a15, n15, n15, xs15, D15, x17, 0, rfl, m20.pick [0] (by decide) rfl, (by first | omega | (intro h; omega) | (simp only [List.length_nil, true_and, and_true, or_true, true_or] <;> omega)), (by first | omega | (intro h; omega) | (simp only [List.length_nil, true_and, and_true, or_true, true_or] <;> omega))⟩
theorem pr_Clauses (H : AHeap) (n : Int) (a_l : Option Addr) (n_l c_l : Nat) (v_l : List (Option Addr × Nat × Nat)) (l : List (List Int)) (w_n : IntKind.i64.wrap n = n) (h_l : V ES H a_l n_l c_l v_l) (i_l : VV (EI .i64) H v_l l) : WF E0 61 [.int .i64 n, .slice a_l n_l c_l] H fun q => ∃ (ra : Option Addr) (rn : Nat) (rc : Nat) (rx : List (Int × Int)) (rD : List Nat) (rl : Int) (e : Int), q.1 = .tuple #[.agg #[.slice ra rn rc, .int .i64 rl], .int .i64 e] ∧ Mem [] H q.2 [R.own EP ra rn rc rx rD] ∧ (rn ≤ 1001 ∧ 0 ≤ rl ∧ rl ≤ 2001) ∧ (0 ≤ e ∧ e ≤ 100) := by
  obtain ⟨lo_n, hi_n⟩ := rangei64 w_n
  obtain ⟨len_l, cap_l, max_l, wf_l⟩ := h_l.len
  have len2_l := i_l.1
  have len3_l : l.length = n_l := by omega
  have m0 : Mem [] H H [] := Mem.start
  refine WF.kg Tryz.func61 rfl rfl ?_
  refine KC.seq ?_
  refine KC.region ?_
  refine KO.allocM m0 zt44_B11 rfl rfl fun H1 m2 => ?_
  refine KO.pv (PV.assign rfl) rfl rfl ?_
  refine KO.nil ?_
  refine KC.seq ?_
  refine KC.seq ?_
  refine KC.region ?_
  refine KO.pv (PV.move rfl) rfl rfl ?_
  by_cases h3 : n < 0
  · refine KO.pv (PV.lssD rfl rfl (decide_eq_true h3)) rfl rfl ?_
    refine KO.pv (PV.move rfl) rfl rfl ?_
    refine KO.no rfl rfl rfl ?_
    refine KO.no rfl rfl rfl ?_
    refine KO.pv (PV.pickT rfl rfl rfl) rfl rfl ?_
    refine KO.nil ?_
    refine KC.condT rfl ?_
    refine KC.seq ?_
    refine KC.region ?_
    refine KO.pv (PV.build rfl bl44__B11) rfl rfl ?_
    refine KO.storeM m2 (i := 0) rfl sz44_B11 rfl rfl rfl (show 0 + 2 ≤ 2 by decide) (show _ = [.slice none 0 0, .int .i64 0] from rfl) rfl fun H4 m5 => ?_
    refine KO.pv (PV.assign rfl) rfl rfl ?_
    refine KO.nil ?_
    have m6 := m5.ownNil (C := EP)
    exact KC.ret ⟨rfl, _, (.cell rfl (ldN (m5.row (i := 0) rfl) ag44_B11 sz44_B11 rfl rfl) (.tmp rfl .nil)), none, 0, 0, [], [], 0, 2, rfl, m6.pick [0] (by decide) rfl, (by first | omega | (intro h; omega) | (simp only [List.length_nil, true_and, and_true, or_true, true_or] <;> omega)), (by first | omega | (intro h; omega) | (simp only [List.length_nil, true_and, and_true, or_true, true_or] <;> omega))⟩
  · refine KO.pv (PV.lssD rfl rfl (decide_eq_false h3)) rfl rfl ?_
    refine KO.pv (PV.move rfl) rfl rfl ?_
    refine KO.pv (PV.move rfl) rfl rfl ?_
    refine KO.pv (PV.gtrD rfl rfl rfl) rfl rfl ?_
    refine KO.pv (PV.pickF rfl rfl rfl) rfl rfl ?_
    refine KO.nil ?_
    refine KC.condD rfl (fun h7 => ?_) (fun h7 => ?_)
    · refine KC.seq ?_
      refine KC.region ?_
      refine KO.pv (PV.build rfl bl44__B11) rfl rfl ?_
      refine KO.storeM m2 (i := 0) rfl sz44_B11 rfl rfl rfl (show 0 + 2 ≤ 2 by decide) (show _ = [.slice none 0 0, .int .i64 0] from rfl) rfl fun H8 m9 => ?_
      refine KO.pv (PV.assign rfl) rfl rfl ?_
      refine KO.nil ?_
      have m10 := m9.ownNil (C := EP)
      exact KC.ret ⟨rfl, _, (.cell rfl (ldN (m9.row (i := 0) rfl) ag44_B11 sz44_B11 rfl rfl) (.tmp rfl .nil)), none, 0, 0, [], [], 0, 2, rfl, m10.pick [0] (by decide) rfl, (by first | omega | (intro h; omega) | (simp only [List.length_nil, true_and, and_true, or_true, true_or] <;> omega)), (by first | omega | (intro h; omega) | (simp only [List.length_nil, true_and, and_true, or_true, true_or] <;> omega))⟩
    · refine KC.skip ?_
      refine KC.seq ?_
      refine KC.seq ?_
      refine KC.region ?_
      refine KO.pv (PV.move rfl) rfl rfl ?_
      refine KO.pv (PV.len un42_B11 rfl) rfl rfl ?_
      refine KO.pv (PV.gtrD rfl rfl rfl) rfl rfl ?_
      refine KO.nil ?_
      refine KC.condD rfl (fun h11 => ?_) (fun h11 => ?_)
      · refine KC.seq ?_
        refine KC.region ?_
        refine KO.pv (PV.build rfl bl44__B11) rfl rfl ?_
        refine KO.storeM m2 (i := 0) rfl sz44_B11 rfl rfl rfl (show 0 + 2 ≤ 2 by decide) (show _ = [.slice none 0 0, .int .i64 0] from rfl) rfl fun H12 m13 => ?_
        refine KO.pv (PV.assign rfl) rfl rfl ?_
        refine KO.nil ?_
        have m14 := m13.ownNil (C := EP)
        exact KC.ret ⟨rfl, _, (.cell rfl (ldN (m13.row (i := 0) rfl) ag44_B11 sz44_B11 rfl rfl) (.tmp rfl .nil)), none, 0, 0, [], [], 0, 4, rfl, m14.pick [0] (by decide) rfl, (by first | omega | (intro h; omega) | (simp only [List.length_nil, true_and, and_true, or_true, true_or] <;> omega)), (by first | omega | (intro h; omega) | (simp only [List.length_nil, true_and, and_true, or_true, true_or] <;> omega))⟩
      · refine KC.skip ?_
        refine KC.seq ?_
        refine KC.seq ?_
        refine KC.region ?_
        refine KO.pv (PV.move rfl) rfl rfl ?_
        refine KO.pv (PV.len un42_B11 rfl) rfl rfl ?_
        refine KO.pv (PV.move rfl) rfl rfl ?_
        refine KO.nil ?_
        refine KC.block ?_
        refine KC.sub (l' := [(0, .int .i64 n), (1, .slice a_l n_l c_l), (4, .pointer (some ⟨H.next, 0, none⟩)), (26, .slice a_l n_l c_l), (27, .int .i64 (n_l : Int)), (28, .int .i64 0)]) (.cons rfl (.cons rfl (.cons rfl (.cons rfl (.cons rfl (.cons rfl .nil)))))) ?_
        refine KC.loopN (fun kq lq A => ∃ (x28 : Int), kq = ((n_l : Int) - x28).toNat ∧ lq = [(0, .int .i64 n), (1, .slice a_l n_l c_l), (4, .pointer (some ⟨H.next, 0, none⟩)), (26, .slice a_l n_l c_l), (27, .int .i64 (n_l : Int)), (28, .int .i64 x28)] ∧ Mem [] H A [R.row H.next 44 true [.slice none 0 0, .int .i64 0]] ∧ (0 ≤ x28 ∧ x28 ≤ (n_l : Int)) ∧ (Ahead l x28 fun _ c => ClOK n c)) ?_ (((n_l : Int) - 0).toNat) ⟨0, rfl, rfl, (m2.pick [0] (by decide) rfl), (by first | omega | assumption | (constructor <;> omega)), Ahead.zero⟩
        rintro kq lq A15 ⟨x28, rfl, rfl, m16, hr6, hpre⟩
        refine KC.seq ?_
        refine KC.region ?_
        refine KO.pv (PV.lssD rfl rfl rfl) rfl rfl ?_
        refine KO.nil ?_
        refine KC.seq ?_
        refine KC.condD rfl (fun h17 => ?_) (fun h17 => ?_)
        · refine KC.skip ?_
          refine KC.seq ?_
          refine KC.block ?_
          refine KC.seq ?_
          refine KC.region ?_
          obtain ⟨b18, o18, p18, r18, e18, ha18, hb18, hr18, hx18, hw18, hc18, ht18⟩ := V.at_ h_l (z := x28) (by omega) (by omega)
          have hc18_0 : r18.cs[o18 + (x28).toNat * 1 + 0]? = some (.slice e18.1 e18.2.1 e18.2.2) := hc18 0 (by decide)
          obtain ⟨xs18, hxs18, hV18⟩ := VV.at_ i_l hx18
          obtain ⟨len18, cap18, max18, wf18⟩ := hV18.len
          refine KO.pv (PV.indexAddrZ un42_B11 sz24_B11 rfl ha18 rfl (by omega) (by omega)) rfl rfl ?_
          refine KO.load1 ag24_B11 rfl (m16.row0 hb18 hr18) hc18_0 rfl rfl ?_
          refine KO.pv (PV.assign rfl) rfl rfl ?_
          refine KO.nil ?_
          refine KC.seq ?_
          refine KC.region ?_
          refine KO.pv (PV.move rfl) rfl rfl ?_
          refine KO.pv (PV.move rfl) rfl rfl ?_
          refine KO.call rfl rfl rfl rfl (cl_Check A15 n e18.1 e18.2.1 e18.2.2 _ (wrap64 (by omega) (by omega)) (V.mem m16 hV18)) fun v19 H19 q19 => ?_
          obtain ⟨e19, hv19, mc19, p19_0, p19_1⟩ := q19
          dsimp only at hv19 mc19
          subst hv19
          have m20 := m16.seq mc19
          refine KO.pv (PV.neqD rfl rfl rfl) rfl rfl ?_
          refine KO.nil ?_
          refine KC.condD rfl (fun h21 => ?_) (fun h21 => ?_)
          · refine KC.seq ?_
            refine KC.region ?_
            refine KO.pv (PV.build rfl bl44__B11) rfl rfl ?_
            refine KO.storeM m20 (i := 0) rfl sz44_B11 rfl rfl rfl (show 0 + 2 ≤ 2 by decide) (show _ = [.slice none 0 0, .int .i64 0] from rfl) rfl fun H22 m23 => ?_
            refine KO.pv (PV.assign rfl) rfl rfl ?_
            refine KO.nil ?_
            have m24 := m23.ownNil (C := EP)
            exact KC.ret ⟨rfl, _, (.cell rfl (ldN (m23.row (i := 0) rfl) ag44_B11 sz44_B11 rfl rfl) (.tmp rfl .nil)), none, 0, 0, [], [], 0, 8, rfl, m24.pick [0] (by decide) rfl, (by first | omega | (intro h; omega) | (simp only [List.length_nil, true_and, and_true, or_true, true_or] <;> omega)), (by first | omega | (intro h; omega) | (simp only [List.length_nil, true_and, and_true, or_true, true_or] <;> omega))⟩
          · have p19_0t := p19_0 (by omega)
            obtain ⟨p19_0_v0, p19_0_v1, p19_0_l, p19_0_lt, p19_0_n⟩ := id p19_0t
            refine KC.skip ?_
            refine KC.region ?_
            refine KO.pv (PV.add rfl rfl (wrap64 (by omega) (by omega))) rfl rfl ?_
            refine KO.pv (PV.move rfl) rfl rfl ?_
            refine KO.nil ?_
            exact ⟨_, _, (by omega), (.cons rfl (.cons rfl (.cons rfl (.cons rfl (.cons rfl (.cons rfl .nil)))))), (x28 + 1), rfl, rfl, (m20.pick [0] (by decide) rfl), (by first | omega | assumption | (constructor <;> omega)), (hpre.step hxs18 (by omega) (by assumption))⟩
        · refine KC.exit ?_
          have hcl := hpre.mem len3_l (by omega)
          have hcl2 : ∀ c ∈ l, ∀ u ∈ c, 2 ≤ u ∧ u / 2 ≤ n := fun c hc u hu => by have := (hcl c hc).l u hu; omega
          refine KC.seq ?_
          refine KC.region ?_
          refine KO.pv (PV.move rfl) rfl rfl ?_
          refine KO.call rfl rfl rfl rfl (pr_over A15 n none 0 0 [] (wrap64 (by omega) (by omega)) (V.nil (fun _ h => by cases h)) (by first | omega | assumption) (by first | omega | assumption)) fun v25 H25 q25 => ?_
          obtain ⟨nb25, aa25, an25, ax25, aD25, hv25, mc25, p25_0, p25_1⟩ := q25
          dsimp only at hv25 mc25
          subst hv25
          have m26 := m16.seq mc25
          have ll25_1 : ax25.length = an25 := m26.lstLen (E := EP) (i := 1) rfl
          refine KO.pv (PV.assign rfl) rfl rfl ?_
          refine KO.nil ?_
          refine KC.seq ?_
          refine KC.region ?_
          refine KO.pv (PV.assign rfl) rfl rfl ?_
          refine KO.nil ?_
          refine KC.seq ?_
          refine KC.seq ?_
          refine KC.region ?_
          refine KO.pv (PV.move rfl) rfl rfl ?_
          refine KO.pv (PV.len un42_B11 rfl) rfl rfl ?_
          refine KO.pv (PV.move rfl) rfl rfl ?_
          refine KO.nil ?_
          refine KC.block ?_
          refine KC.sub (l' := [(4, .pointer (some ⟨H.next, 0, none⟩)), (8, .pointer (some ⟨nb25, 0, none⟩)), (9, .int .i64 1), (40, .slice a_l n_l c_l), (41, .int .i64 (n_l : Int)), (42, .int .i64 0)]) (.cons rfl (.cons rfl (.cons rfl (.cons rfl (.cons rfl (.cons rfl .nil)))))) ?_
          refine KC.loopN (fun kq lq A => ∃ (x9 : Int) (x42 : Int) (a_c8_0 : Option Addr) (n_c8_0 : Nat) (l_c8_0 : List (Int × Int)) (D_c8_0 : List Nat) (c8_3 : Bool), kq = ((n_l : Int) - x42).toNat ∧ lq = [(4, .pointer (some ⟨H.next, 0, none⟩)), (8, .pointer (some ⟨nb25, 0, none⟩)), (9, .int .i64 x9), (40, .slice a_l n_l c_l), (41, .int .i64 (n_l : Int)), (42, .int .i64 x42)] ∧ Mem [] H A [R.row nb25 207 true [.slice a_c8_0 n_c8_0 n_c8_0, .int .i64 (n + 1), .func (.func 190) #[] #[], .bool c8_3], R.lst 145 2 a_c8_0 n_c8_0 (cells EP l_c8_0) D_c8_0, R.row H.next 44 true [.slice none 0 0, .int .i64 0]] ∧ (0 ≤ x42 ∧ x42 ≤ (n_l : Int)) ∧ (n + 1 + n_c8_0 ≤ 1001) ∧ (0 ≤ x9 ∧ x9 ≤ 2001) ∧ (l_c8_0.length = n_c8_0) ∧ (∀ u ∈ l_c8_0, (EP).wf u)) ?_ (((n_l : Int) - 0).toNat) ⟨1, 0, aa25, an25, ax25, aD25, false, rfl, rfl, (m26.pick [0, 1, 2] (by decide) rfl), (by first | omega | assumption | (constructor <;> omega)), (by first | omega | (simp only [splice, List.length_append, List.length_set, List.length_replicate, List.length_map, List.length_take, List.length_drop, List.length_cons, List.length_nil] <;> omega)), (by first | omega | (simp only [splice, List.length_append, List.length_set, List.length_replicate, List.length_map, List.length_take, List.length_drop, List.length_cons, List.length_nil] <;> omega)), (by first | omega | (simp only [splice, List.length_append, List.length_set, List.length_replicate, List.length_map, List.length_take, List.length_drop, List.length_cons, List.length_nil] <;> omega)), (by assumption)⟩
          rintro kq lq A27 ⟨x9, x42, a_c8_0, n_c8_0, l_c8_0, D_c8_0, c8_3, rfl, rfl, m28, hr14, hba, hx9, hl_l_c8_0, hw_l_c8_0⟩
          refine KC.seq ?_
          refine KC.region ?_
          refine KO.pv (PV.lssD rfl rfl rfl) rfl rfl ?_
          refine KO.nil ?_
          refine KC.seq ?_
          refine KC.condD rfl (fun h29 => ?_) (fun h29 => ?_)
          · refine KC.skip ?_
            refine KC.seq ?_
            refine KC.block ?_
            refine KC.seq ?_
            refine KC.region ?_
            obtain ⟨b30, o30, p30, r30, e30, ha30, hb30, hr30, hx30, hw30, hc30, ht30⟩ := V.at_ h_l (z := x42) (by omega) (by omega)
            have hc30_0 : r30.cs[o30 + (x42).toNat * 1 + 0]? = some (.slice e30.1 e30.2.1 e30.2.2) := hc30 0 (by decide)
            obtain ⟨xs30, hxs30, hV30⟩ := VV.at_ i_l hx30
            obtain ⟨len30, cap30, max30, wf30⟩ := hV30.len
            have hcl230 := hcl2 _ (List.mem_of_getElem? hxs30)
            refine KO.pv (PV.indexAddrZ un42_B11 sz24_B11 rfl ha30 rfl (by omega) (by omega)) rfl rfl ?_
            refine KO.load1 ag24_B11 rfl (m28.row0 hb30 hr30) hc30_0 rfl rfl ?_
            refine KO.pv (PV.assign rfl) rfl rfl ?_
            refine KO.nil ?_
            refine KC.seq ?_
            refine KC.region ?_
            refine KO.pv (PV.assign rfl) rfl rfl ?_
            refine KO.nil ?_
            refine KC.seq ?_
            refine KC.seq ?_
            refine KC.region ?_
            refine KO.pv (PV.move rfl) rfl rfl ?_
            refine KO.pv (PV.len un24_B11 rfl) rfl rfl ?_
            refine KO.pv (PV.move rfl) rfl rfl ?_
            refine KO.nil ?_
            refine KC.block ?_
            refine KC.sub (l' := [(4, .pointer (some ⟨H.next, 0, none⟩)), (8, .pointer (some ⟨nb25, 0, none⟩)), (9, .int .i64 x9), (12, .int .i64 1), (40, .slice a_l n_l c_l), (41, .int .i64 (n_l : Int)), (42, .int .i64 x42), (46, .slice e30.1 e30.2.1 e30.2.2), (47, .int .i64 (e30.2.1 : Int)), (48, .int .i64 0)]) (.cons rfl (.cons rfl (.cons rfl (.cons rfl (.cons rfl (.cons rfl (.cons rfl (.cons rfl (.cons rfl (.cons rfl .nil)))))))))) ?_
            refine KC.loopN (fun kq lq A => ∃ (x12 : Int) (x48 : Int) (a_c8_0b : Option Addr) (n_c8_0b : Nat) (l_c8_0b : List (Int × Int)) (D_c8_0b : List Nat) (c8_3b : Bool), kq = ((e30.2.1 : Int) - x48).toNat ∧ lq = [(4, .pointer (some ⟨H.next, 0, none⟩)), (8, .pointer (some ⟨nb25, 0, none⟩)), (9, .int .i64 x9), (12, .int .i64 x12), (40, .slice a_l n_l c_l), (41, .int .i64 (n_l : Int)), (42, .int .i64 x42), (46, .slice e30.1 e30.2.1 e30.2.2), (47, .int .i64 (e30.2.1 : Int)), (48, .int .i64 x48)] ∧ Mem [] H A [R.row nb25 207 true [.slice a_c8_0b n_c8_0b n_c8_0b, .int .i64 (n + 1), .func (.func 190) #[] #[], .bool c8_3b], R.lst 145 2 a_c8_0b n_c8_0b (cells EP l_c8_0b) D_c8_0b, R.row H.next 44 true [.slice none 0 0, .int .i64 0]] ∧ (0 ≤ x48 ∧ x48 ≤ (e30.2.1 : Int)) ∧ (n + 1 + n_c8_0b ≤ 1001) ∧ (0 ≤ x12 ∧ x12 ≤ 2001) ∧ (l_c8_0b.length = n_c8_0b) ∧ (∀ u ∈ l_c8_0b, (EP).wf u)) ?_ (((e30.2.1 : Int) - 0).toNat) ⟨1, 0, a_c8_0, n_c8_0, l_c8_0, D_c8_0, c8_3, rfl, rfl, (m28.pick [0, 1, 2] (by decide) rfl), (by first | omega | assumption | (constructor <;> omega)), (by first | omega | (simp only [splice, List.length_append, List.length_set, List.length_replicate, List.length_map, List.length_take, List.length_drop, List.length_cons, List.length_nil] <;> omega)), (by first | omega | (simp only [splice, List.length_append, List.length_set, List.length_replicate, List.length_map, List.length_take, List.length_drop, List.length_cons, List.length_nil] <;> omega)), (by first | omega | (simp only [splice, List.length_append, List.length_set, List.length_replicate, List.length_map, List.length_take, List.length_drop, List.length_cons, List.length_nil] <;> omega)), hw_l_c8_0⟩
            rintro kq lq A31 ⟨x12, x48, a_c8_0b, n_c8_0b, l_c8_0b, D_c8_0b, c8_3b, rfl, rfl, m32, hr18, hbab, hx12, hl_l_c8_0b, hw_l_c8_0b⟩
            refine KC.seq ?_
            refine KC.region ?_
            refine KO.pv (PV.lssD rfl rfl rfl) rfl rfl ?_
            refine KO.nil ?_
            refine KC.seq ?_
            refine KC.condD rfl (fun h33 => ?_) (fun h33 => ?_)
            · refine KC.skip ?_
              refine KC.seq ?_
              refine KC.block ?_
              refine KC.seq ?_
              refine KC.region ?_
              obtain ⟨b34, o34, p34, r34, e34, ha34, hb34, hr34, hx34, hw34, hc34, ht34⟩ := V.at_ hV30 (z := x48) (by omega) (by omega)
              have hc34_0 : r34.cs[o34 + (x48).toNat * 1 + 0]? = some (.int .i64 e34) := hc34 0 (by decide)
              have hw34 : IntKind.i64.wrap e34 = e34 := hw34
              obtain ⟨lo34, hi34⟩ := rangei64 hw34
              have hcl2i34 := hcl230 _ (List.mem_of_getElem? hx34)
              refine KO.pv (PV.indexAddrZ un24_B11 sz3_B11 rfl ha34 rfl (by omega) (by omega)) rfl rfl ?_
              refine KO.load1 ag3_B11 rfl (m32.row0 hb34 hr34) hc34_0 rfl rfl ?_
              refine KO.pv (PV.assign rfl) rfl rfl ?_
              refine KO.nil ?_
              refine KC.region ?_
              refine KO.pv (PV.move rfl) rfl rfl ?_
              refine KO.pv (PV.move rfl) rfl rfl ?_
              refine KO.pv (PV.move rfl) rfl rfl ?_
              obtain ⟨x35, dx35, rx35, zx35, qx35⟩ := xor1 (e34) (by omega) (by omega)
              refine KO.pv (PV.xor1 rfl rfl qx35) rfl rfl ?_
              have m36 : Mem [] H A31 [R.row nb25 207 true [.slice a_c8_0b n_c8_0b n_c8_0b, .int .i64 (n + 1), .func (.func 190) #[] #[], .bool c8_3b], R.lst 145 2 a_c8_0b n_c8_0b (cells EP l_c8_0b) D_c8_0b, R.row H.next 44 true [.slice none 0 0, .int .i64 0]] := m32.pick [0, 1, 2] (by decide) rfl
              refine KO.call rfl rfl rfl rfl (pr_and A31 nb25 _ _ _ D_c8_0b (n + 1) (.func (.func 190) #[] #[]) c8_3b x12 x35 (m36.ownK (Rs := [R.row nb25 207 true [.slice a_c8_0b n_c8_0b n_c8_0b, .int .i64 (n + 1), .func (.func 190) #[] #[], .bool c8_3b], R.lst 145 2 a_c8_0b n_c8_0b (cells EP l_c8_0b) D_c8_0b])) hw_l_c8_0b (wrap64 (by omega) (by omega)) (wrap64 (by omega) (by omega)) (wrap64 (by omega) (by omega)) (by first | omega | assumption)) fun v37 H37 q37 => ?_
              obtain ⟨z37, aa37, an37, ax37, aD37, fu37, hv37, mc37, p37_0, p37_1, p37_2⟩ := q37
              dsimp only at hv37 mc37
              subst hv37
              have m38 := m36.seqK (Rs := [R.row nb25 207 true [.slice a_c8_0b n_c8_0b n_c8_0b, .int .i64 (n + 1), .func (.func 190) #[] #[], .bool c8_3b], R.lst 145 2 a_c8_0b n_c8_0b (cells EP l_c8_0b) D_c8_0b]) mc37
              have ll37_1 : ax37.length = an37 := m38.lstLen (E := EP) (i := 1) rfl
              refine KO.pv (PV.assign rfl) rfl rfl ?_
              refine KO.nil ?_
              refine KC.region ?_
              refine KO.pv (PV.add rfl rfl (wrap64 (by omega) (by omega))) rfl rfl ?_
              refine KO.pv (PV.move rfl) rfl rfl ?_
              refine KO.nil ?_
              exact ⟨_, _, (by omega), (.cons rfl (.cons rfl (.cons rfl (.cons rfl (.cons rfl (.cons rfl (.cons rfl (.cons rfl (.cons rfl (.cons rfl .nil)))))))))), z37, (x48 + 1), aa37, an37, ax37, aD37, fu37, rfl, rfl, (m38.pick [0, 1, 2] (by decide) rfl), (by first | omega | assumption | (constructor <;> omega)), (by first | omega | (simp only [splice, List.length_append, List.length_set, List.length_replicate, List.length_map, List.length_take, List.length_drop, List.length_cons, List.length_nil] <;> omega)), (by first | omega | (simp only [splice, List.length_append, List.length_set, List.length_replicate, List.length_map, List.length_take, List.length_drop, List.length_cons, List.length_nil] <;> omega)), (by first | omega | (simp only [splice, List.length_append, List.length_set, List.length_replicate, List.length_map, List.length_take, List.length_drop, List.length_cons, List.length_nil] <;> omega)), (by assumption)⟩
            · refine KC.exit ?_
              refine KC.region ?_
              refine KO.pv (PV.move rfl) rfl rfl ?_
              refine KO.pv (PV.move rfl) rfl rfl ?_
              refine KO.pv (PV.move rfl) rfl rfl ?_
              obtain ⟨x39, dx39, rx39, zx39, qx39⟩ := xor1 (x12) (by omega) (by omega)
              refine KO.pv (PV.xor1 rfl rfl qx39) rfl rfl ?_
              have m40 : Mem [] H A31 [R.row nb25 207 true [.slice a_c8_0b n_c8_0b n_c8_0b, .int .i64 (n + 1), .func (.func 190) #[] #[], .bool c8_3b], R.lst 145 2 a_c8_0b n_c8_0b (cells EP l_c8_0b) D_c8_0b, R.row H.next 44 true [.slice none 0 0, .int .i64 0]] := m32.pick [0, 1, 2] (by decide) rfl
              refine KO.call rfl rfl rfl rfl (pr_and A31 nb25 _ _ _ D_c8_0b (n + 1) (.func (.func 190) #[] #[]) c8_3b x9 x39 (m40.ownK (Rs := [R.row nb25 207 true [.slice a_c8_0b n_c8_0b n_c8_0b, .int .i64 (n + 1), .func (.func 190) #[] #[], .bool c8_3b], R.lst 145 2 a_c8_0b n_c8_0b (cells EP l_c8_0b) D_c8_0b])) hw_l_c8_0b (wrap64 (by omega) (by omega)) (wrap64 (by omega) (by omega)) (wrap64 (by omega) (by omega)) (by first | omega | assumption)) fun v41 H41 q41 => ?_
              obtain ⟨z41, aa41, an41, ax41, aD41, fu41, hv41, mc41, p41_0, p41_1, p41_2⟩ := q41
              dsimp only at hv41 mc41
              subst hv41
              have m42 := m40.seqK (Rs := [R.row nb25 207 true [.slice a_c8_0b n_c8_0b n_c8_0b, .int .i64 (n + 1), .func (.func 190) #[] #[], .bool c8_3b], R.lst 145 2 a_c8_0b n_c8_0b (cells EP l_c8_0b) D_c8_0b]) mc41
              have ll41_1 : ax41.length = an41 := m42.lstLen (E := EP) (i := 1) rfl
              refine KO.pv (PV.assign rfl) rfl rfl ?_
              refine KO.nil ?_
              refine KC.region ?_
              refine KO.pv (PV.add rfl rfl (wrap64 (by omega) (by omega))) rfl rfl ?_
              refine KO.pv (PV.move rfl) rfl rfl ?_
              refine KO.nil ?_
              exact ⟨_, _, (by omega), (.cons rfl (.cons rfl (.cons rfl (.cons rfl (.cons rfl (.cons rfl .nil)))))), z41, (x42 + 1), aa41, an41, ax41, aD41, fu41, rfl, rfl, (m42.pick [0, 1, 2] (by decide) rfl), (by first | omega | assumption | (constructor <;> omega)), (by first | omega | (simp only [splice, List.length_append, List.length_set, List.length_replicate, List.length_map, List.length_take, List.length_drop, List.length_cons, List.length_nil] <;> omega)), (by first | omega | (simp only [splice, List.length_append, List.length_set, List.length_replicate, List.length_map, List.length_take, List.length_drop, List.length_cons, List.length_nil] <;> omega)), (by first | omega | (simp only [splice, List.length_append, List.length_set, List.length_replicate, List.length_map, List.length_take, List.length_drop, List.length_cons, List.length_nil] <;> omega)), (by assumption)⟩
          · refine KC.exit ?_
            refine KC.seq ?_
            refine KC.region ?_
            refine KO.pv (PV.move rfl) rfl rfl ?_
            refine KO.pv (PV.move rfl) rfl rfl ?_
            have m43 : Mem [] H A27 [R.row nb25 207 true [.slice a_c8_0 n_c8_0 n_c8_0, .int .i64 (n + 1), .func (.func 190) #[] #[], .bool c8_3], R.lst 145 2 a_c8_0 n_c8_0 (cells EP l_c8_0) D_c8_0, R.row H.next 44 true [.slice none 0 0, .int .i64 0]] := m28.pick [0, 1, 2] (by decide) rfl
            refine KO.call rfl rfl rfl rfl (pr_pred A27 nb25 _ _ _ D_c8_0 (n + 1) (.func (.func 190) #[] #[]) c8_3 x9 (m43.ownK (Rs := [R.row nb25 207 true [.slice a_c8_0 n_c8_0 n_c8_0, .int .i64 (n + 1), .func (.func 190) #[] #[], .bool c8_3], R.lst 145 2 a_c8_0 n_c8_0 (cells EP l_c8_0) D_c8_0])) hw_l_c8_0 (wrap64 (by omega) (by omega)) (wrap64 (by omega) (by omega)) (by first | omega | assumption) (by first | omega | assumption)) fun v44 H44 q44 => ?_
            obtain ⟨ra44, rn44, rc44, rx44, rD44, rl44, e44, hv44, mc44, p44_0, p44_1⟩ := q44
            dsimp only at hv44 mc44
            subst hv44
            have m45 := m43.seqK (Rs := [R.row nb25 207 true [.slice a_c8_0 n_c8_0 n_c8_0, .int .i64 (n + 1), .func (.func 190) #[] #[], .bool c8_3], R.lst 145 2 a_c8_0 n_c8_0 (cells EP l_c8_0) D_c8_0]) mc44
            refine KO.pv (PV.extract rfl rfl) rfl rfl ?_
            refine KO.pv (PV.extract rfl rfl) rfl rfl ?_
            refine KO.storeM m45 (i := 1) rfl sz44_B11 rfl rfl rfl (show 0 + 2 ≤ 2 by decide) (show _ = [.slice ra44 rn44 rc44, .int .i64 rl44] from rfl) rfl fun H46 m47 => ?_
            refine KO.pv (PV.assign rfl) rfl rfl ?_
            refine KO.nil ?_
            exact KC.ret ⟨rfl, _, (.cell rfl (ldN (m47.row (i := 1) rfl) ag44_B11 sz44_B11 rfl rfl) (.tmp rfl .nil)), ra44, rn44, rc44, rx44, rD44, rl44, e44, rfl, m47.pick [0] (by decide) rfl, (by first | omega | (intro h; omega) | (simp only [List.length_nil, true_and, and_true, or_true, true_or] <;> omega)), (by first | omega | (intro h; omega) | (simp only [List.length_nil, true_and, and_true, or_true, true_or] <;> omega))⟩
theorem pr_Put (H : AHeap) (ci : Int) (a_cL : Option Addr) (n_cL c_cL : Nat) (cL : List (Int × Int)) (a_cA : Option Addr) (n_cA c_cA : Nat) (cA : List (Int × Int)) (a_cB : Option Addr) (n_cB c_cB : Nat) (cB : List Int) (a_cC : Option Addr) (n_cC c_cC : Nat) (cC : List Int) (a_pA : Option Addr) (n_pA c_pA : Nat) (pA : List (Int × Int)) (pl : Int) (a_l : Option Addr) (n_l c_l : Nat) (l : List Int) (w_ci : IntKind.i64.wrap ci = ci) (h_cL : V EP H a_cL n_cL c_cL cL) (h_cA : V EP H a_cA n_cA c_cA cA) (h_cB : V (EI .i64) H a_cB n_cB c_cB cB) (h_cC : V (EI .i64) H a_cC n_cC c_cC cC) (h_pA : V EP H a_pA n_pA c_pA pA) (w_pl : IntKind.i64.wrap pl = pl) (h_l : V (EI .i64) H a_l n_l c_l l) : WF E0 74 [.agg #[.int .i64 ci, .slice a_cL n_cL c_cL, .slice a_cA n_cA c_cA, .slice a_cB n_cB c_cB, .slice a_cC n_cC c_cC], .agg #[.slice a_pA n_pA c_pA, .int .i64 pl], .slice a_l n_l c_l] H fun q => ∃ (ri : Int) (la : Option Addr) (ln : Nat) (lc : Nat) (lx : List (Int × Int)) (lD : List Nat) (aa : Option Addr) (an : Nat) (ac : Nat) (ax : List (Int × Int)) (aD : List Nat) (ba : Option Addr) (bn : Nat) (bc : Nat) (bx : List Int) (bD : List Nat) (qa : Option Addr) (qn : Nat) (qc : Nat) (qx : List Int) (qD : List Nat) (z : Int) (e : Int), q.1 = .tuple #[.agg #[.int .i64 ri, .slice la ln lc, .slice aa an ac, .slice ba bn bc, .slice qa qn qc], .int .i64 z, .int .i64 e] ∧ Mem [] H q.2 [R.own EP la ln lc lx lD, R.own EP aa an ac ax aD, R.own (EI .i64) ba bn bc bx bD, R.own (EI .i64) qa qn qc qx qD] ∧ (-9000000000 ≤ ri ∧ ri ≤ 9000000000 ∧ ln ≤ 70000 ∧ an ≤ 70000 ∧ bn ≤ 70000 ∧ qn ≤ 70000) ∧ (0 ≤ z ∧ z ≤ 2001) ∧ (0 ≤ e ∧ e ≤ 100) := by
  obtain ⟨lo_ci, hi_ci⟩ := rangei64 w_ci
  obtain ⟨len_cL, cap_cL, max_cL, wf_cL⟩ := h_cL.len
  obtain ⟨len_cA, cap_cA, max_cA, wf_cA⟩ := h_cA.len
  obtain ⟨len_cB, cap_cB, max_cB, wf_cB⟩ := h_cB.len
  obtain ⟨len_cC, cap_cC, max_cC, wf_cC⟩ := h_cC.len
  obtain ⟨len_pA, cap_pA, max_pA, wf_pA⟩ := h_pA.len
  obtain ⟨lo_pl, hi_pl⟩ := rangei64 w_pl
  obtain ⟨len_l, cap_l, max_l, wf_l⟩ := h_l.len
  have m0 : Mem [] H H [] := Mem.start
  refine WF.kg Tryz.func74 rfl rfl ?_
  refine KC.seq ?_
  refine KC.region ?_
  refine KO.boxM m0 rfl rfl (show _ = [.int .i64 ci, .slice a_cL n_cL c_cL, .slice a_cA n_cA c_cA, .slice a_cB n_cB c_cB, .slice a_cC n_cC c_cC] from rfl) rfl rfl fun H1 m2 => ?_
  refine KO.boxM m2 rfl rfl (show _ = [.slice a_pA n_pA c_pA, .int .i64 pl] from rfl) rfl rfl fun H3 m4 => ?_
  refine KO.boxM m4 rfl rfl (show _ = [.slice a_l n_l c_l] from rfl) rfl rfl fun H5 m6 => ?_
  refine KO.allocM m6 zt26_B11 rfl rfl fun H7 m8 => ?_
  refine KO.pv (PV.assign rfl) rfl rfl ?_
  refine KO.pv (PV.assign rfl) rfl rfl ?_
  refine KO.nil ?_
  refine KC.seq ?_
  refine KC.region ?_
  refine KO.loadN ag26_B11 sz26_B11 rfl (m8.row (i := 3) rfl) (takeN_of (p := [.int .i64 ci, .slice a_cL n_cL c_cL, .slice a_cA n_cA c_cA, .slice a_cB n_cB c_cB, .slice a_cC n_cC c_cC]) rfl rfl) rfl rfl ?_
  refine KO.call rfl rfl rfl rfl (gates_Vars H7 ci a_cL n_cL c_cL _ a_cA n_cA c_cA _ a_cB n_cB c_cB _ a_cC n_cC c_cC _ (wrap64 (by omega) (by omega)) (V.mem m8 h_cL) (V.mem m8 h_cA) (V.mem m8 h_cB) (V.mem m8 h_cC)) fun v9 H9 q9 => ?_
  obtain ⟨n9, e9, hv9, mc9, p9_0, p9_1⟩ := q9
  dsimp only at hv9 mc9
  subst hv9
  have m10 := m8.seq mc9
  refine KO.pv (PV.move rfl) rfl rfl ?_
  refine KO.pv (PV.extract rfl rfl) rfl rfl ?_
  refine KO.pv (PV.extract rfl rfl) rfl rfl ?_
  refine KO.pv (PV.assign rfl) rfl rfl ?_
  refine KO.pv (PV.assign rfl) rfl rfl ?_
  refine KO.nil ?_
  refine KC.seq ?_
  refine KC.seq ?_
  refine KC.region ?_
  refine KO.pv (PV.move rfl) rfl rfl ?_
  refine KO.pv (PV.neqD rfl rfl rfl) rfl rfl ?_
  refine KO.nil ?_
  refine KC.condD rfl (fun h11 => ?_) (fun h11 => ?_)
  · refine KC.seq ?_
    refine KC.region ?_
    refine KO.pv (PV.build rfl bl26__B11) rfl rfl ?_
    refine KO.pv (PV.move rfl) rfl rfl ?_
    refine KO.storeM m10 (i := 0) rfl sz26_B11 rfl rfl rfl (show 0 + 5 ≤ 5 by decide) (show _ = [.int .i64 0, .slice none 0 0, .slice none 0 0, .slice none 0 0, .slice none 0 0] from rfl) rfl fun H12 m13 => ?_
    refine KO.pv (PV.assign rfl) rfl rfl ?_
    refine KO.pv (PV.assign rfl) rfl rfl ?_
    refine KO.nil ?_
    have m14 := m13.ownNil (C := EP)
    have m15 := m14.ownNil (C := EP)
    have m16 := m15.ownNil (C := (EI .i64))
    have m17 := m16.ownNil (C := (EI .i64))
    exact KC.ret ⟨rfl, _, (.cell rfl (ldN (m13.row (i := 0) rfl) ag26_B11 sz26_B11 rfl rfl) (.tmp rfl (.tmp rfl .nil))), 0, none, 0, 0, [], [], none, 0, 0, [], [], none, 0, 0, [], [], none, 0, 0, [], [], 0, e9, rfl, m17.pick [3, 2, 1, 0] (by decide) rfl, (by first | omega | (intro h; omega) | (simp only [List.length_nil, true_and, and_true, or_true, true_or] <;> omega)), (by first | omega | (intro h; omega) | (simp only [List.length_nil, true_and, and_true, or_true, true_or] <;> omega)), (by first | omega | (intro h; omega) | (simp only [List.length_nil, true_and, and_true, or_true, true_or] <;> omega))⟩
  · have p9_0t := p9_0 (by omega)
    obtain ⟨p9_0s, p9_0u⟩ := id p9_0t
    obtain ⟨p9_0_i0, p9_0_al, p9_0_b, p9_0_c, p9_0_hb, p9_0_hc, p9_0_hl, p9_0_ha⟩ := id p9_0s
    refine KC.skip ?_
    refine KC.seq ?_
    refine KC.seq ?_
    refine KC.region ?_
    refine KO.load1 ag24_B11 rfl (m10.row (i := 1) rfl) rfl rfl rfl ?_
    refine KO.pv (PV.len un24_B11 rfl) rfl rfl ?_
    refine KO.pv (PV.move rfl) rfl rfl ?_
    refine KO.nil ?_
    refine KC.block ?_
    refine KC.sub (l' := [(3, .pointer (some ⟨H.next, 0, none⟩)), (4, .pointer (some ⟨H1.next, 0, none⟩)), (5, .pointer (some ⟨H3.next, 0, none⟩)), (6, .pointer (some ⟨H5.next, 0, none⟩)), (9, .int .i64 n9), (26, .slice a_l n_l c_l), (27, .int .i64 (n_l : Int)), (28, .int .i64 0)]) (.cons rfl (.cons rfl (.cons rfl (.cons rfl (.cons rfl (.cons rfl (.cons rfl (.cons rfl .nil)))))))) ?_
    refine KC.loopN (fun kq lq A => ∃ (x28 : Int), kq = ((n_l : Int) - x28).toNat ∧ lq = [(3, .pointer (some ⟨H.next, 0, none⟩)), (4, .pointer (some ⟨H1.next, 0, none⟩)), (5, .pointer (some ⟨H3.next, 0, none⟩)), (6, .pointer (some ⟨H5.next, 0, none⟩)), (9, .int .i64 n9), (26, .slice a_l n_l c_l), (27, .int .i64 (n_l : Int)), (28, .int .i64 x28)] ∧ Mem [] H A [R.row H5.next 26 true [.int .i64 0, .slice none 0 0, .slice none 0 0, .slice none 0 0, .slice none 0 0], R.row H3.next 24 true [.slice a_l n_l c_l], R.row H1.next 44 true [.slice a_pA n_pA c_pA, .int .i64 pl], R.row H.next 26 true [.int .i64 ci, .slice a_cL n_cL c_cL, .slice a_cA n_cA c_cA, .slice a_cB n_cB c_cB, .slice a_cC n_cC c_cC]] ∧ (0 ≤ x28 ∧ x28 ≤ (n_l : Int)) ∧ (Ahead l x28 fun _ u => 0 ≤ u ∧ u / 2 ≤ n9)) ?_ (((n_l : Int) - 0).toNat) ⟨0, rfl, rfl, (m10.pick [0, 1, 2, 3] (by decide) rfl), (by first | omega | assumption | (constructor <;> omega)), Ahead.zero⟩
    rintro kq lq A18 ⟨x28, rfl, rfl, m19, hr5, hpre⟩
    refine KC.seq ?_
    refine KC.region ?_
    refine KO.pv (PV.lssD rfl rfl rfl) rfl rfl ?_
    refine KO.nil ?_
    refine KC.seq ?_
    refine KC.condD rfl (fun h20 => ?_) (fun h20 => ?_)
    · refine KC.skip ?_
      refine KC.seq ?_
      refine KC.block ?_
      refine KC.seq ?_
      refine KC.region ?_
      obtain ⟨b21, o21, p21, r21, e21, ha21, hb21, hr21, hx21, hw21, hc21, ht21⟩ := V.at_ h_l (z := x28) (by omega) (by omega)
      have hc21_0 : r21.cs[o21 + (x28).toNat * 1 + 0]? = some (.int .i64 e21) := hc21 0 (by decide)
      have hw21 : IntKind.i64.wrap e21 = e21 := hw21
      obtain ⟨lo21, hi21⟩ := rangei64 hw21
      refine KO.pv (PV.indexAddrZ un24_B11 sz3_B11 rfl ha21 rfl (by omega) (by omega)) rfl rfl ?_
      refine KO.load1 ag3_B11 rfl (m19.row0 hb21 hr21) hc21_0 rfl rfl ?_
      refine KO.pv (PV.assign rfl) rfl rfl ?_
      refine KO.nil ?_
      refine KC.seq ?_
      refine KC.region ?_
      refine KO.pv (PV.move rfl) rfl rfl ?_
      by_cases h22 : e21 < 0
      · refine KO.pv (PV.lssD rfl rfl (decide_eq_true h22)) rfl rfl ?_
        refine KO.pv (PV.move rfl) rfl rfl ?_
        refine KO.no rfl rfl rfl ?_
        refine KO.no rfl rfl rfl ?_
        refine KO.no rfl rfl rfl ?_
        refine KO.no rfl rfl rfl ?_
        refine KO.pv (PV.pickT rfl rfl rfl) rfl rfl ?_
        refine KO.nil ?_
        refine KC.condT rfl ?_
        refine KC.seq ?_
        refine KC.region ?_
        refine KO.pv (PV.build rfl bl26__B11) rfl rfl ?_
        refine KO.storeM m19 (i := 0) rfl sz26_B11 rfl rfl rfl (show 0 + 5 ≤ 5 by decide) (show _ = [.int .i64 0, .slice none 0 0, .slice none 0 0, .slice none 0 0, .slice none 0 0] from rfl) rfl fun H23 m24 => ?_
        refine KO.pv (PV.assign rfl) rfl rfl ?_
        refine KO.pv (PV.assign rfl) rfl rfl ?_
        refine KO.nil ?_
        have m25 := m24.ownNil (C := EP)
        have m26 := m25.ownNil (C := EP)
        have m27 := m26.ownNil (C := (EI .i64))
        have m28 := m27.ownNil (C := (EI .i64))
        exact KC.ret ⟨rfl, _, (.cell rfl (ldN (m24.row (i := 0) rfl) ag26_B11 sz26_B11 rfl rfl) (.tmp rfl (.tmp rfl .nil))), 0, none, 0, 0, [], [], none, 0, 0, [], [], none, 0, 0, [], [], none, 0, 0, [], [], 0, 2, rfl, m28.pick [3, 2, 1, 0] (by decide) rfl, (by first | omega | (intro h; omega) | (simp only [List.length_nil, true_and, and_true, or_true, true_or] <;> omega)), (by first | omega | (intro h; omega) | (simp only [List.length_nil, true_and, and_true, or_true, true_or] <;> omega)), (by first | omega | (intro h; omega) | (simp only [List.length_nil, true_and, and_true, or_true, true_or] <;> omega))⟩
      · refine KO.pv (PV.lssD rfl rfl (decide_eq_false h22)) rfl rfl ?_
        refine KO.pv (PV.move rfl) rfl rfl ?_
        refine KO.pv (PV.move rfl) rfl rfl ?_
        refine KO.pv (PV.quo rfl rfl (by omega) (quoN (by omega) (by omega))) rfl rfl ?_
        refine KO.pv (PV.move rfl) rfl rfl ?_
        refine KO.pv (PV.gtrD rfl rfl rfl) rfl rfl ?_
        refine KO.pv (PV.pickF rfl rfl rfl) rfl rfl ?_
        refine KO.nil ?_
        refine KC.condD rfl (fun h29 => ?_) (fun h29 => ?_)
        · refine KC.seq ?_
          refine KC.region ?_
          refine KO.pv (PV.build rfl bl26__B11) rfl rfl ?_
          refine KO.storeM m19 (i := 0) rfl sz26_B11 rfl rfl rfl (show 0 + 5 ≤ 5 by decide) (show _ = [.int .i64 0, .slice none 0 0, .slice none 0 0, .slice none 0 0, .slice none 0 0] from rfl) rfl fun H30 m31 => ?_
          refine KO.pv (PV.assign rfl) rfl rfl ?_
          refine KO.pv (PV.assign rfl) rfl rfl ?_
          refine KO.nil ?_
          have m32 := m31.ownNil (C := EP)
          have m33 := m32.ownNil (C := EP)
          have m34 := m33.ownNil (C := (EI .i64))
          have m35 := m34.ownNil (C := (EI .i64))
          exact KC.ret ⟨rfl, _, (.cell rfl (ldN (m31.row (i := 0) rfl) ag26_B11 sz26_B11 rfl rfl) (.tmp rfl (.tmp rfl .nil))), 0, none, 0, 0, [], [], none, 0, 0, [], [], none, 0, 0, [], [], none, 0, 0, [], [], 0, 2, rfl, m35.pick [3, 2, 1, 0] (by decide) rfl, (by first | omega | (intro h; omega) | (simp only [List.length_nil, true_and, and_true, or_true, true_or] <;> omega)), (by first | omega | (intro h; omega) | (simp only [List.length_nil, true_and, and_true, or_true, true_or] <;> omega)), (by first | omega | (intro h; omega) | (simp only [List.length_nil, true_and, and_true, or_true, true_or] <;> omega))⟩
        · refine KC.skip ?_
          refine KC.region ?_
          refine KO.pv (PV.add rfl rfl (wrap64 (by omega) (by omega))) rfl rfl ?_
          refine KO.pv (PV.move rfl) rfl rfl ?_
          refine KO.nil ?_
          exact ⟨_, _, (by omega), (.cons rfl (.cons rfl (.cons rfl (.cons rfl (.cons rfl (.cons rfl (.cons rfl (.cons rfl .nil)))))))), (x28 + 1), rfl, rfl, (m19.pick [0, 1, 2, 3] (by decide) rfl), (by first | omega | assumption | (constructor <;> omega)), (hpre.step (by assumption) (by omega) (by constructor <;> omega))⟩
    · refine KC.exit ?_
      have hl0 := hpre.mem len_l (by omega)
      have hl1 : ∀ u ∈ l, 0 ≤ u ∧ u ≤ 2001 := fun u hu => by have := hl0 u hu; omega
      refine KC.seq ?_
      refine KC.seq ?_
      refine KC.region ?_
      refine KO.load1 ag24_B11 rfl (m19.row (i := 1) rfl) rfl rfl rfl ?_
      refine KO.pv (PV.len un24_B11 rfl) rfl rfl ?_
      refine KO.loadN ag44_B11 sz44_B11 rfl (m19.row (i := 2) rfl) (takeN_of (p := [.slice a_pA n_pA c_pA, .int .i64 pl]) rfl rfl) rfl rfl ?_
      refine KO.call rfl rfl rfl rfl (pr_Check A18 (n_l : Int) a_pA n_pA c_pA _ pl (wrap64 (by omega) (by omega)) (V.mem m19 h_pA) (wrap64 (by omega) (by omega))) fun v36 H36 q36 => ?_
      obtain ⟨e36, hv36, mc36, p36_0, p36_1⟩ := q36
      dsimp only at hv36 mc36
      subst hv36
      have m37 := m19.seq mc36
      refine KO.pv (PV.assign rfl) rfl rfl ?_
      refine KO.nil ?_
      refine KC.seq ?_
      refine KC.region ?_
      refine KO.pv (PV.move rfl) rfl rfl ?_
      refine KO.pv (PV.neqD rfl rfl rfl) rfl rfl ?_
      refine KO.nil ?_
      refine KC.condD rfl (fun h38 => ?_) (fun h38 => ?_)
      · refine KC.seq ?_
        refine KC.region ?_
        refine KO.pv (PV.build rfl bl26__B11) rfl rfl ?_
        refine KO.pv (PV.move rfl) rfl rfl ?_
        refine KO.storeM m37 (i := 0) rfl sz26_B11 rfl rfl rfl (show 0 + 5 ≤ 5 by decide) (show _ = [.int .i64 0, .slice none 0 0, .slice none 0 0, .slice none 0 0, .slice none 0 0] from rfl) rfl fun H39 m40 => ?_
        refine KO.pv (PV.assign rfl) rfl rfl ?_
        refine KO.pv (PV.assign rfl) rfl rfl ?_
        refine KO.nil ?_
        have m41 := m40.ownNil (C := EP)
        have m42 := m41.ownNil (C := EP)
        have m43 := m42.ownNil (C := (EI .i64))
        have m44 := m43.ownNil (C := (EI .i64))
        exact KC.ret ⟨rfl, _, (.cell rfl (ldN (m40.row (i := 0) rfl) ag26_B11 sz26_B11 rfl rfl) (.tmp rfl (.tmp rfl .nil))), 0, none, 0, 0, [], [], none, 0, 0, [], [], none, 0, 0, [], [], none, 0, 0, [], [], 0, e36, rfl, m44.pick [3, 2, 1, 0] (by decide) rfl, (by first | omega | (intro h; omega) | (simp only [List.length_nil, true_and, and_true, or_true, true_or] <;> omega)), (by first | omega | (intro h; omega) | (simp only [List.length_nil, true_and, and_true, or_true, true_or] <;> omega)), (by first | omega | (intro h; omega) | (simp only [List.length_nil, true_and, and_true, or_true, true_or] <;> omega))⟩
      · have p36_0t := p36_0 (by omega)
        obtain ⟨p36_0_n0, p36_0_n1, p36_0_al, p36_0_ha, p36_0_l0, p36_0_l1⟩ := id p36_0t
        refine KC.skip ?_
        refine KC.seq ?_
        refine KC.drawG (n := 14) (anc := [0, 1, 3, 0, 8, 24, 0, 64, 192, 504, 0, 2047, 4095, 8191]) (hv := [2]) (ord := [0, 1, 2, 3, 4, 5, 6, 7, 8, 9, 10, 11, 12, 13]) (by kernel_rfl) (by kernel_rfl) (by kernel_rfl) (by kernel_rfl) (by kernel_rfl) fun H45 n46 g47 => ?_
        have m48 := m37.room n46 g47 [12] (by decide) (by decide)
        refine KD.pv 1 (PV.fieldAddr fo26_2_B11 rfl) rfl rfl rfl (by kernel_rfl) rfl rfl rfl ?_
        refine KD.load 3 rfl (m48.row (i := 4) rfl) (by rw [read1 ag23_B11]; exact rfl) (pastGo (k := 1) (l := [H45]) (by kernel_rfl) rfl (pastCons ⟨_, (m48.row (i := 4) rfl), (by rw [read1 ag23_B11]; exact rfl)⟩ pastNil)) veq_sl rfl (by kernel_rfl) rfl rfl rfl ?_
        refine KD.call 7 rfl rfl rfl (by kernel_rfl) rfl rfl rfl (Clone_api_And H45 a_cA n_cA c_cA _ (V.mem m48 h_cA) (by first | omega | assumption)) fun v49 H49 q49 => ?_
        obtain ⟨a49, n49, xs49, D49, hv49, mc49, p49_0, p49_1, p49_2, p49_3⟩ := q49
        dsimp only at hv49 mc49
        subst hv49
        have m50 := m48.seq mc49
        refine KD.pv 15 (PV.fieldAddr fo26_0_B11 rfl) rfl rfl rfl (by kernel_rfl) rfl rfl rfl ?_
        refine KD.load 31 rfl (m50.row (i := 5) rfl) (by rw [read1 ag3_B11]; exact rfl) (pastGo (k := 2) (l := [H49, H45]) (by kernel_rfl) rfl (pastCons ⟨_, (m50.row (i := 5) rfl), (by rw [read1 ag3_B11]; exact rfl)⟩ (pastCons ⟨_, (m48.row (i := 4) rfl), (by rw [read1 ag3_B11]; exact rfl)⟩ pastNil))) veq_int rfl (by kernel_rfl) rfl rfl rfl ?_
        refine KD.pv 63 (PV.add rfl rfl (wrap64 (by omega) (by omega))) rfl rfl rfl (by kernel_rfl) rfl rfl rfl ?_
        refine KD.pv 127 (PV.fieldAddr fo26_1_B11 rfl) rfl rfl rfl (by kernel_rfl) rfl rfl rfl ?_
        refine KD.load 255 rfl (m50.row (i := 5) rfl) (by rw [read1 ag22_B11]; exact rfl) (pastGo (k := 2) (l := [H49, H45]) (by kernel_rfl) rfl (pastCons ⟨_, (m50.row (i := 5) rfl), (by rw [read1 ag22_B11]; exact rfl)⟩ (pastCons ⟨_, (m48.row (i := 4) rfl), (by rw [read1 ag22_B11]; exact rfl)⟩ pastNil))) veq_sl rfl (by kernel_rfl) rfl rfl rfl ?_
        refine KD.pv 511 (PV.len un22_B11 rfl) rfl rfl (rd_int _) (by kernel_rfl) rfl rfl rfl ?_
        refine KD.pv 1023 (PV.add rfl rfl (wrap64 (by omega) (by omega))) rfl rfl rfl (by kernel_rfl) rfl rfl rfl ?_
        refine KD.pv 2047 (PV.makeFunc rfl rfl) rfl rfl rfl (by kernel_rfl) rfl rfl rfl ?_
        refine KD.pv 4095 (PV.build rfl (bl207_0s_1i64_2F148p_B11 _ _ _ _ _ _)) rfl rfl rfl (by kernel_rfl) rfl rfl rfl ?_
        refine KD.boxM 8191 m50 (j := 1) rfl rfl rfl (show _ = [.slice a49 n49 n49, .int .i64 ((1 + ci) + (n_cL : Int)), .func (.func 148) #[] #[.pointer (some ⟨H3.next, 0, none⟩)], .bool false] from rfl) rfl (by kernel_rfl) rfl rfl rfl fun H51 m52 => ?_
        refine KD.pv 16383 (PV.assign rfl) rfl rfl rfl (by kernel_rfl) rfl rfl rfl ?_
        refine KD.nil ⟨rfl, ?_⟩
        refine KC.seq ?_
        refine KC.region ?_
        refine KO.pv (PV.move rfl) rfl rfl ?_
        refine KO.load1 ag24_B11 rfl (m52.row (i := 3) rfl) rfl rfl rfl ?_
        refine KO.pv (PV.len un24_B11 rfl) rfl rfl ?_
        refine KO.loadN ag44_B11 sz44_B11 rfl (m52.row (i := 4) rfl) (takeN_of (p := [.slice a_pA n_pA c_pA, .int .i64 pl]) rfl rfl) rfl rfl ?_
        have m53 : Mem [] H H51 [R.row (H36.next + 12) 207 true [.slice a49 n49 n49, .int .i64 ((1 + ci) + (n_cL : Int)), .func (.func 148) #[] #[.pointer (some ⟨H3.next, 0, none⟩)], .bool false], R.lst 145 2 a49 n49 (cells EP xs49) D49, R.row H3.next 24 true [.slice a_l n_l c_l], R.row H5.next 26 true [.int .i64 0, .slice none 0 0, .slice none 0 0, .slice none 0 0, .slice none 0 0], R.row H1.next 44 true [.slice a_pA n_pA c_pA, .int .i64 pl], R.row H.next 26 true [.int .i64 ci, .slice a_cL n_cL c_cL, .slice a_cA n_cA c_cA, .slice a_cB n_cB c_cB, .slice a_cC n_cC c_cC]] := m52.pick [1, 0, 3, 2, 4, 5] (by decide) rfl
        refine KO.call rfl rfl rfl rfl (pr_putP H51 (H36.next + 12) _ _ _ D49 ((1 + ci) + (n_cL : Int)) false H3.next a_l n_l c_l (n_l : Int) a_pA n_pA c_pA _ pl _ (m53.ownK (Rs := [R.row (H36.next + 12) 207 true [.slice a49 n49 n49, .int .i64 ((1 + ci) + (n_cL : Int)), .func (.func 148) #[] #[.pointer (some ⟨H3.next, 0, none⟩)], .bool false], R.lst 145 2 a49 n49 (cells EP xs49) D49, R.row H3.next 24 true [.slice a_l n_l c_l]])) (by assumption) (wrap64 (by omega) (by omega)) (wrap64 (by omega) (by omega)) (V.mem m53 h_pA) (sepCons (V.sep m53 h_pA (i := 0) rfl) (sepCons (V.sep m53 h_pA (i := 1) rfl) (sepCons (V.sep m53 h_pA (i := 2) rfl) sepEnd))) (wrap64 (by omega) (by omega)) (V.mem m53 h_l) (sepCons (V.sep m53 h_l (i := 0) rfl) (sepCons (V.sep m53 h_l (i := 1) rfl) (sepCons (V.sep m53 h_l (i := 2) rfl) sepEnd))) (by first | omega | assumption) (by first | omega | assumption) (by first | omega | assumption) (by assumption)) fun v54 H54 q54 => ?_
        obtain ⟨z54, aa54, an54, ax54, aD54, fu54, hv54, mc54, p54_0, p54_1, p54_2⟩ := q54
        dsimp only at hv54 mc54
        subst hv54
        have m55 := m53.seqK (Rs := [R.row (H36.next + 12) 207 true [.slice a49 n49 n49, .int .i64 ((1 + ci) + (n_cL : Int)), .func (.func 148) #[] #[.pointer (some ⟨H3.next, 0, none⟩)], .bool false], R.lst 145 2 a49 n49 (cells EP xs49) D49, R.row H3.next 24 true [.slice a_l n_l c_l]]) mc54
        have ll54_1 : ax54.length = an54 := m55.lstLen (E := EP) (i := 1) rfl
        refine KO.pv (PV.assign rfl) rfl rfl ?_
        refine KO.nil ?_
        refine KC.seq ?_
        refine KC.seq ?_
        refine KC.region ?_
        refine KO.pv (PV.move rfl) rfl rfl ?_
        refine KO.pv (PV.nilCheck rfl) rfl rfl ?_
        refine KO.pv (PV.fieldAddr fo207_3_B11 rfl) rfl rfl ?_
        refine KO.load1 ag4_B11 rfl (m55.row (i := 0) rfl) rfl rfl rfl ?_
        refine KO.nil ?_
        refine KC.cond rfl (fun h56 => ?_) (fun h56 => ?_)
        · subst h56
          refine KC.seq ?_
          refine KC.region ?_
          refine KO.pv (PV.build rfl bl26__B11) rfl rfl ?_
          refine KO.storeM m55 (i := 3) rfl sz26_B11 rfl rfl rfl (show 0 + 5 ≤ 5 by decide) (show _ = [.int .i64 0, .slice none 0 0, .slice none 0 0, .slice none 0 0, .slice none 0 0] from rfl) rfl fun H57 m58 => ?_
          refine KO.pv (PV.assign rfl) rfl rfl ?_
          refine KO.pv (PV.assign rfl) rfl rfl ?_
          refine KO.nil ?_
          have m59 := m58.ownNil (C := EP)
          have m60 := m59.ownNil (C := EP)
          have m61 := m60.ownNil (C := (EI .i64))
          have m62 := m61.ownNil (C := (EI .i64))
          exact KC.ret ⟨rfl, _, (.cell rfl (ldN (m58.row (i := 3) rfl) ag26_B11 sz26_B11 rfl rfl) (.tmp rfl (.tmp rfl .nil))), 0, none, 0, 0, [], [], none, 0, 0, [], [], none, 0, 0, [], [], none, 0, 0, [], [], 0, 4, rfl, m62.pick [3, 2, 1, 0] (by decide) rfl, (by first | omega | (intro h; omega) | (simp only [List.length_nil, true_and, and_true, or_true, true_or] <;> omega)), (by first | omega | (intro h; omega) | (simp only [List.length_nil, true_and, and_true, or_true, true_or] <;> omega)), (by first | omega | (intro h; omega) | (simp only [List.length_nil, true_and, and_true, or_true, true_or] <;> omega))⟩
        · subst h56
          refine KC.skip ?_
          refine KC.seq ?_
          refine KC.drawG (n := 18) (anc := [0, 1, 0, 4, 12, 0, 32, 96, 224, 0, 512, 1564, 0, 4096, 15900, 32767, 0, 131071]) (hv := [4, 11, 14, 17]) (ord := [2, 3, 4, 9, 10, 11, 12, 13, 14, 0, 1, 5, 6, 7, 8, 15, 16, 17]) (by kernel_rfl) (by kernel_rfl) (by kernel_rfl) (by kernel_rfl) (by kernel_rfl) fun H63 n64 g65 => ?_
          have m66 := m55.room n64 g65 [16] (by decide) (by decide)
          refine KD.pv 4 (PV.fieldAddr fo26_1_B11 rfl) rfl rfl rfl (by kernel_rfl) rfl rfl rfl ?_
          refine KD.load 12 rfl (m66.row (i := 6) rfl) (by rw [read1 ag22_B11]; exact rfl) (pastGo (k := 1) (l := [H63]) (by kernel_rfl) rfl (pastCons ⟨_, (m66.row (i := 6) rfl), (by rw [read1 ag22_B11]; exact rfl)⟩ pastNil)) veq_sl rfl (by kernel_rfl) rfl rfl rfl ?_
          refine KD.call 28 rfl rfl rfl (by kernel_rfl) rfl rfl rfl (Clone_api_Latch H63 a_cL n_cL c_cL _ (V.mem m66 h_cL) (by first | omega | assumption)) fun v67 H67 q67 => ?_
          obtain ⟨a67, n67, xs67, D67, hv67, mc67, p67_0, p67_1, p67_2, p67_3⟩ := q67
          dsimp only at hv67 mc67
          subst hv67
          have m68 := m66.seq mc67
          refine KD.pv 540 (PV.fieldAddr fo26_3_B11 rfl) rfl rfl rfl (by kernel_rfl) rfl rfl rfl ?_
          refine KD.load 1564 rfl (m68.row (i := 7) rfl) (by rw [read1 ag24_B11]; exact rfl) (pastGo (k := 2) (l := [H67, H63]) (by kernel_rfl) rfl (pastCons ⟨_, (m68.row (i := 7) rfl), (by rw [read1 ag24_B11]; exact rfl)⟩ (pastCons ⟨_, (m66.row (i := 6) rfl), (by rw [read1 ag24_B11]; exact rfl)⟩ pastNil))) veq_sl rfl (by kernel_rfl) rfl rfl rfl ?_
          refine KD.call 3612 rfl rfl rfl (by kernel_rfl) rfl rfl rfl (Clone_int H67 a_cB n_cB c_cB _ (V.mem m68 h_cB) (by first | omega | assumption)) fun v69 H69 q69 => ?_
          obtain ⟨a69, n69, xs69, D69, hv69, mc69, p69_0, p69_1, p69_2, p69_3⟩ := q69
          dsimp only at hv69 mc69
          subst hv69
          have m70 := m68.seq mc69
          refine KD.pv 7708 (PV.fieldAddr fo26_4_B11 rfl) rfl rfl rfl (by kernel_rfl) rfl rfl rfl ?_
          refine KD.load 15900 rfl (m70.row (i := 8) rfl) (by rw [read1 ag24_B11]; exact rfl) (pastGo (k := 3) (l := [H69, H67, H63]) (by kernel_rfl) rfl (pastCons ⟨_, (m70.row (i := 8) rfl), (by rw [read1 ag24_B11]; exact rfl)⟩ (pastCons ⟨_, (m68.row (i := 7) rfl), (by rw [read1 ag24_B11]; exact rfl)⟩ (pastCons ⟨_, (m66.row (i := 6) rfl), (by rw [read1 ag24_B11]; exact rfl)⟩ pastNil)))) veq_sl rfl (by kernel_rfl) rfl rfl rfl ?_
          refine KD.call 32284 rfl rfl rfl (by kernel_rfl) rfl rfl rfl (Clone_int H69 a_cC n_cC c_cC _ (V.mem m70 h_cC) (by first | omega | assumption)) fun v71 H71 q71 => ?_
          obtain ⟨a71, n71, xs71, D71, hv71, mc71, p71_0, p71_1, p71_2, p71_3⟩ := q71
          dsimp only at hv71 mc71
          subst hv71
          have m72 := m70.seq mc71
          refine KD.pv 32285 (PV.fieldAddr fo26_0_B11 rfl) rfl rfl rfl (by kernel_rfl) rfl rfl rfl ?_
          refine KD.load 32287 rfl (m72.row (i := 9) rfl) (by rw [read1 ag3_B11]; exact rfl) (pastGo (k := 4) (l := [H71, H69, H67, H63]) (by kernel_rfl) rfl (pastCons ⟨_, (m72.row (i := 9) rfl), (by rw [read1 ag3_B11]; exact rfl)⟩ (pastCons ⟨_, (m70.row (i := 8) rfl), (by rw [read1 ag3_B11]; exact rfl)⟩ (pastCons ⟨_, (m68.row (i := 7) rfl), (by rw [read1 ag3_B11]; exact rfl)⟩ (pastCons ⟨_, (m66.row (i := 6) rfl), (by rw [read1 ag3_B11]; exact rfl)⟩ pastNil))))) veq_int rfl (by kernel_rfl) rfl rfl rfl ?_
          refine KD.pv 32319 (PV.move rfl) rfl rfl rfl (by kernel_rfl) rfl rfl rfl ?_
          refine KD.pv 32383 (PV.nilCheck rfl) rfl rfl rfl (by kernel_rfl) rfl rfl rfl ?_
          refine KD.pv 32511 (PV.fieldAddr fo207_0_B11 rfl) rfl rfl rfl (by kernel_rfl) rfl rfl rfl ?_
          refine KD.load 32767 rfl (m72.row (i := 4) rfl) (by rw [read1 ag23_B11]; exact rfl) (pastGo (k := 4) (l := [H71, H69, H67, H63]) (by kernel_rfl) rfl (pastCons ⟨_, (m72.row (i := 4) rfl), (by rw [read1 ag23_B11]; exact rfl)⟩ (pastCons ⟨_, (m70.row (i := 3) rfl), (by rw [read1 ag23_B11]; exact rfl)⟩ (pastCons ⟨_, (m68.row (i := 2) rfl), (by rw [read1 ag23_B11]; exact rfl)⟩ (pastCons ⟨_, (m66.row (i := 1) rfl), (by rw [read1 ag23_B11]; exact rfl)⟩ pastNil))))) veq_sl rfl (by kernel_rfl) rfl rfl rfl ?_
          refine KD.pv 65535 (PV.build rfl (bl26_0i64_1s_2s_3s_4s_B11 _ _ _ _ _ _ _ _ _ _ _ _ _)) rfl rfl rfl (by kernel_rfl) rfl rfl rfl ?_
          refine KD.allocM 131071 m72 (j := 3) rfl zt26_B11 rfl (by kernel_rfl) rfl rfl rfl fun H73 m74 => ?_
          refine KD.storeM 262143 m74 (j := 3) rfl sz26_B11 rfl rfl rfl (show 0 + 5 ≤ 5 by decide) (show _ = [.int .i64 ci, .slice a67 n67 n67, .slice aa54 an54 an54, .slice a69 n69 n69, .slice a71 n71 n71] from rfl) rfl (by kernel_rfl) rfl rfl fun H75 m76 => ?_
          refine KD.nil ⟨rfl, ?_⟩
          refine KC.seq ?_
          refine KC.region ?_
          refine KO.loadN ag26_B11 sz26_B11 rfl (m76.row (i := 3) rfl) (takeN_of (p := [.int .i64 ci, .slice a67 n67 n67, .slice aa54 an54 an54, .slice a69 n69 n69, .slice a71 n71 n71]) rfl rfl) rfl rfl ?_
          refine KO.pv (PV.move rfl) rfl rfl ?_
          refine KO.storeM m76 (i := 7) rfl sz26_B11 rfl rfl rfl (show 0 + 5 ≤ 5 by decide) (show _ = [.int .i64 ci, .slice a67 n67 n67, .slice aa54 an54 an54, .slice a69 n69 n69, .slice a71 n71 n71] from rfl) rfl fun H77 m78 => ?_
          refine KO.pv (PV.assign rfl) rfl rfl ?_
          refine KO.pv (PV.assign rfl) rfl rfl ?_
          refine KO.nil ?_
          have m79 := m78.ownLst (C := EP) (i := 2) rfl (by assumption) (by first | omega | (simp only [splice, List.length_append, List.length_set, List.length_replicate, List.length_map, List.length_take, List.length_drop, List.length_cons, List.length_nil] <;> omega))
          have m80 := m79.ownLst (C := EP) (i := 5) rfl (by assumption) (by first | omega | (simp only [splice, List.length_append, List.length_set, List.length_replicate, List.length_map, List.length_take, List.length_drop, List.length_cons, List.length_nil] <;> omega))
          have m81 := m80.ownLst (C := (EI .i64)) (i := 1) rfl (by assumption) (by first | omega | (simp only [splice, List.length_append, List.length_set, List.length_replicate, List.length_map, List.length_take, List.length_drop, List.length_cons, List.length_nil] <;> omega))
          have m82 := m81.ownLst (C := (EI .i64)) (i := 0) rfl (by assumption) (by first | omega | (simp only [splice, List.length_append, List.length_set, List.length_replicate, List.length_map, List.length_take, List.length_drop, List.length_cons, List.length_nil] <;> omega))
          exact KC.ret ⟨rfl, _, (.cell rfl (ldN (m78.row (i := 7) rfl) ag26_B11 sz26_B11 rfl rfl) (.tmp rfl (.tmp rfl .nil))), ci, a67, n67, n67, xs67, D67, aa54, an54, an54, ax54, aD54, a69, n69, n69, xs69, D69, a71, n71, n71, xs71, D71, z54, 0, rfl, m82.pick [2, 5, 1, 0] (by decide) rfl, (by first | omega | (intro h; omega) | (simp only [List.length_nil, true_and, and_true, or_true, true_or] <;> omega)), (by first | omega | (intro h; omega) | (simp only [List.length_nil, true_and, and_true, or_true, true_or] <;> omega)), (by first | omega | (intro h; omega) | (simp only [List.length_nil, true_and, and_true, or_true, true_or] <;> omega))⟩
end Go.Eng
