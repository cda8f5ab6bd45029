/- TopSharedDecide answers true on the interpreter. Conditions: none beyond each theorem's own. -/
import Derived.Test.YtphehedgnhmahaaGreatDoorDecideA
import Derived.Test.YtphehedgnhmahaaGreatDoorKnC
import Derived.KernelRfl
namespace Go.Eng
open Go Go.Proofs
theorem as_known (H : AHeap) (vars l : Int) (hl : IntKind.i64.wrap l = l) : WF E0 135 [.int .i64 vars, .int .i64 l] H fun q => q.2 = H ∧ ∃ b : Bool, q.1 = .bool b ∧ (b = true → ∃ n : Nat, l = n ∧ 2 ≤ n ∧ ((n / 2 : Nat) : Int) ≤ vars) := by
  obtain ⟨r1, r2⟩ := range64 hl
  refine WF.k Tryz.func135 rfl rfl ?_
  refine KC.seq (KC.region ?_)
  refine KO.pv (PV.assign rfl) rfl rfl ?_
  refine KO.nil ?_
  refine KC.seq (KC.region ?_)
  by_cases c1 : l < 2
  · refine KO.pv (PV.move rfl) rfl rfl ?_
    refine KO.pv (PV.geq rfl rfl) rfl rfl ?_
    rw [decide_eq_true c1, Bool.not_true]
    refine KO.pv (PV.move rfl) rfl rfl ?_
    refine KO.no rfl rfl rfl ?_
    refine KO.no rfl rfl rfl ?_
    refine KO.no rfl rfl rfl ?_
    refine KO.no rfl rfl rfl ?_
    refine KO.pv (PV.pickF rfl rfl rfl) rfl rfl ?_
    refine KO.pv (PV.assign rfl) rfl rfl ?_
    refine KO.nil ?_
    exact KC.ret ⟨rfl, _, rfl, rfl, _, rfl, fun h => by cases h⟩
  · obtain ⟨n, rfl⟩ := Int.eq_ofNat_of_zero_le (show 0 ≤ l by omega)
    refine KO.pv (PV.move rfl) rfl rfl ?_
    refine KO.pv (PV.geq rfl rfl) rfl rfl ?_
    rw [decide_eq_false c1, Bool.not_false]
    refine KO.pv (PV.move rfl) rfl rfl ?_
    refine KO.pv (PV.move rfl) rfl rfl ?_
    refine KO.pv (PV.quo rfl rfl (by decide) ((show _ = ((n / 2 : Nat) : Int) from wrap64 (by rw [tdiv2]; omega) (by rw [tdiv2]; omega)))) rfl rfl ?_
    refine KO.pv (PV.move rfl) rfl rfl ?_
    refine KO.pv (PV.leq rfl rfl) rfl rfl ?_
    refine KO.pv (PV.pickT rfl rfl rfl) rfl rfl ?_
    refine KO.pv (PV.assign rfl) rfl rfl ?_
    refine KO.nil ?_
    exact KC.ret ⟨rfl, _, rfl, rfl, _, rfl, fun h => ⟨n, rfl, by omega, by simpa using h⟩⟩

/-- What a passed check tells of an assignment. -/
def AsOK (vars : Int) (us ss : List Int) : Prop :=
  0 ≤ vars ∧ vars ≤ 4000 ∧ (∀ l ∈ us, ∃ n : Nat, l = n ∧ 2 ≤ n ∧ ((n / 2 : Nat) : Int) ≤ vars) ∧ ∀ s ∈ ss, 0 ≤ s ∧ s < us.length

theorem as_Check (H : AHeap) (vars : Int) (a1 a2 : Option Addr) (n1 c1 n2 c2 : Nat) (us ss : List Int) (h1 : VL H .i64 (.slice a1 n1 c1) us) (h2 : VL H .i64 (.slice a2 n2 c2) ss) : WF E0 53 [.agg #[.int .i64 vars, .slice a1 n1 c1, .slice a2 n2 c2]] H fun q => Frh H q.2 ∧ ∃ e : Int, q.1 = .int .i64 e ∧ (e = 0 → AsOK vars us ss) := by
  obtain ⟨hl1, hc1, hm1, hw1⟩ := h1.len
  obtain ⟨hl2, hc2, hm2, hw2⟩ := h2.len
  refine WF.k Tryz.func53 rfl rfl ?_
  refine KC.seq (KC.region ?_)
  refine KO.box (rfl) (rfl) rfl rfl fun G0 u0 => ?_
  refine KO.pv (PV.assign rfl) rfl rfl ?_
  refine KO.nil ?_
  have hX : G0.row H.next = some ⟨24, true, true, [.int .i64 vars, .slice a1 n1 c1, .slice a2 n2 c2]⟩ := by rw [u0.row, if_pos rfl]; rfl
  have hn0 := u0.next
  have hF0 : Frh H G0 := .new u0
  refine KC.seq (KC.seq (KC.region ?_))
  by_cases d1 : vars < 0
  · refine KO.pv (PV.fieldAddr fo24_0 rfl) rfl rfl ?_
    refine KO.load1 ag3 rfl (hX) (rfl) rfl rfl ?_
    refine KO.pv (PV.lss rfl rfl) rfl rfl ?_
    rw [decide_eq_true d1]
    refine KO.pv (PV.move rfl) rfl rfl ?_
    refine KO.no rfl rfl rfl ?_
    refine KO.no rfl rfl rfl ?_
    refine KO.no rfl rfl rfl ?_
    refine KO.pv (PV.pickT rfl rfl rfl) rfl rfl ?_
    refine KO.nil ?_
    refine KC.cond rfl (fun _ => ?_) (fun hb => by cases hb)
    refine KC.seq (KC.region ?_)
    refine KO.pv (PV.assign rfl) rfl rfl ?_
    refine KO.nil ?_
    exact KC.ret ⟨rfl, _, rfl, hF0, _, rfl, fun h => by cases h⟩
  by_cases d2 : 4000 < vars
  · refine KO.pv (PV.fieldAddr fo24_0 rfl) rfl rfl ?_
    refine KO.load1 ag3 rfl (hX) (rfl) rfl rfl ?_
    refine KO.pv (PV.lss rfl rfl) rfl rfl ?_
    rw [decide_eq_false d1]
    refine KO.pv (PV.move rfl) rfl rfl ?_
    refine KO.pv (PV.fieldAddr fo24_0 rfl) rfl rfl ?_
    refine KO.load1 ag3 rfl (hX) (rfl) rfl rfl ?_
    refine KO.pv (PV.gtr rfl rfl) rfl rfl ?_
    rw [decide_eq_true d2]
    refine KO.pv (PV.pickF rfl rfl rfl) rfl rfl ?_
    refine KO.nil ?_
    refine KC.cond rfl (fun _ => ?_) (fun hb => by cases hb)
    refine KC.seq (KC.region ?_)
    refine KO.pv (PV.assign rfl) rfl rfl ?_
    refine KO.nil ?_
    exact KC.ret ⟨rfl, _, rfl, hF0, _, rfl, fun h => by cases h⟩
  refine KO.pv (PV.fieldAddr fo24_0 rfl) rfl rfl ?_
  refine KO.load1 ag3 rfl (hX) (rfl) rfl rfl ?_
  refine KO.pv (PV.lss rfl rfl) rfl rfl ?_
  rw [decide_eq_false d1]
  refine KO.pv (PV.move rfl) rfl rfl ?_
  refine KO.pv (PV.fieldAddr fo24_0 rfl) rfl rfl ?_
  refine KO.load1 ag3 rfl (hX) (rfl) rfl rfl ?_
  refine KO.pv (PV.gtr rfl rfl) rfl rfl ?_
  rw [decide_eq_false d2]
  refine KO.pv (PV.pickF rfl rfl rfl) rfl rfl ?_
  refine KO.nil ?_
  refine KC.cond rfl (fun hb => by cases hb) (fun _ => KC.skip ?_)
  obtain ⟨V, rfl⟩ := Int.eq_ofNat_of_zero_le (show 0 ≤ vars by omega)
  refine KC.seq (KC.region ?_)
  refine KO.pv (PV.fieldAddr fo24_0 rfl) rfl rfl ?_
  refine KO.load1 ag3 rfl (hX) (rfl) rfl rfl ?_
  refine KO.pv (PV.add rfl rfl ((show _ = ((V + 1 : Nat) : Int) from wrap64 (by omega) (by omega)))) rfl rfl ?_
  refine KO.makeSlice el50 ez4 sb4 (rfl) (rfl) ((Nat.le_refl _)) ((by omega)) rfl rfl fun G1 u1 => ?_
  refine KO.pv (PV.assign rfl) rfl rfl ?_
  refine KO.nil ?_
  have hn1 := u1.next
  have hX1 : G1.row H.next = some ⟨24, true, true, [.int .i64 (V : Int), .slice a1 n1 c1, .slice a2 n2 c2]⟩ := by rw [u1.row, if_neg (by omega)]; exact hX
  have hB1 : BR 4 (V + 1) (G1.row (H.next + 1)) := by rw [u1.row, if_pos hn0.symm]; exact BR.zero
  have hF1 : Frh H G1 := hF0.trans (.new u1)
  rw [hn0]
  refine KC.seq (KC.seq (KC.region ?_))
  refine KO.pv (PV.fieldAddr fo24_1 rfl) rfl rfl ?_
  refine KO.load1 ag22 rfl (hX1) (rfl) rfl rfl ?_
  refine KO.pv (PV.len un22 rfl) rfl rfl ?_
  refine KO.pv (PV.move rfl) rfl rfl ?_
  refine KO.nil ?_
  refine KC.sub (l' := [(1, .pointer (some ⟨H.next, 0, none⟩)), (3, .slice (some ⟨H.next + 1, 0, none⟩) (V + 1) (V + 1)), (21, .slice a1 n1 c1), (22, .int .i64 (n1 : Int)), (23, .int .i64 ((0 : Nat) : Int))]) (.cons rfl (.cons rfl (.cons rfl (.cons rfl (.cons rfl .nil))))) ?_
  refine KC.block (KC.loopN (fun k l A => ∃ i : Nat, i + k = n1 ∧ l = [(1, .pointer (some ⟨H.next, 0, none⟩)), (3, .slice (some ⟨H.next + 1, 0, none⟩) (V + 1) (V + 1)), (21, .slice a1 n1 c1), (22, .int .i64 (n1 : Int)), (23, .int .i64 (i : Int))] ∧ A.next = H.next + 2 ∧ Frh H A ∧ A.row H.next = some ⟨24, true, true, [.int .i64 (V : Int), .slice a1 n1 c1, .slice a2 n2 c2]⟩ ∧ BR 4 (V + 1) (A.row (H.next + 1)) ∧
    ∀ j, j < i → ∀ u, us[j]? = some u → ∃ n : Nat, u = n ∧ 2 ≤ n ∧ ((n / 2 : Nat) : Int) ≤ (V : Int)) ?_ n1 ⟨0, by omega, rfl, by omega, hF1, hX1, hB1, fun j hj => by omega⟩)
  clear hX1 hB1 hF1 hX hF0 u0 u1 hn0 hn1
  rintro k l A ⟨i, hik, rfl, hnA, hFA, hXA, hBA, hok⟩
  refine KC.seq (KC.region ?_)
  refine KO.pv (PV.lss rfl rfl) rfl rfl ?_
  refine KO.nil ?_
  refine KC.seq (KC.cond rfl (fun hb => KC.skip ?_) (fun hb => KC.exit ?_))
  · have hi : i < n1 := by simpa using hb
    obtain ⟨b, off, sp, r, u, rfl, hbH, hr, hus, hcs, hwu⟩ := h1.at_ hi
    refine KC.seq (KC.block (KC.seq (KC.region ?_)))
    refine KO.pv (PV.indexAddr un22 sz3 rfl rfl (hi)) rfl rfl ?_
    refine KO.load1 ag3 rfl (((hFA.2 b hbH).trans hr)) (hcs) rfl rfl ?_
    refine KO.pv (PV.assign rfl) rfl rfl ?_
    refine KO.nil ?_
    refine KC.seq (KC.seq (KC.region ?_))
    refine KO.pv (PV.fieldAddr fo24_0 rfl) rfl rfl ?_
    refine KO.load1 ag3 rfl (hXA) (rfl) rfl rfl ?_
    refine KO.pv (PV.move rfl) rfl rfl ?_
    refine KO.call rfl rfl rfl rfl ((as_known A V u hwu)) fun v1 A1 q1 => ?_
    obtain ⟨hA1, kb, hv1, hkb⟩ := q1
    dsimp only at hA1 hv1
    subst hv1
    subst hA1
    cases kb with
    | false =>
      refine KO.pv (PV.not rfl) rfl rfl ?_
      simp only [Bool.not_false]
      refine KO.pv (PV.move rfl) rfl rfl ?_
      refine KO.no rfl rfl rfl ?_
      refine KO.no rfl rfl rfl ?_
      refine KO.no rfl rfl rfl ?_
      refine KO.no rfl rfl rfl ?_
      refine KO.no rfl rfl rfl ?_
      refine KO.pv (PV.pickT rfl rfl rfl) rfl rfl ?_
      refine KO.nil ?_
      refine KC.cond rfl (fun _ => ?_) (fun hb => by cases hb)
      refine KC.seq (KC.region ?_)
      refine KO.pv (PV.assign rfl) rfl rfl ?_
      refine KO.nil ?_
      exact KC.ret ⟨rfl, _, rfl, hFA, _, rfl, fun h => by cases h⟩
    | true =>
      obtain ⟨n, rfl, hn2, hnV⟩ := hkb rfl
      obtain ⟨cs, hrB, hcl, hcb⟩ := hBA
      have hnn : n / 2 < V + 1 := by omega
      obtain ⟨xb, hxb⟩ := hcb (n / 2) hnn
      obtain ⟨w1, w2⟩ := range64 hwu
      refine KO.pv (PV.not rfl) rfl rfl ?_
      simp only [Bool.not_true]
      refine KO.pv (PV.move rfl) rfl rfl ?_
      refine KO.pv (PV.move rfl) rfl rfl ?_
      refine KO.pv (PV.move rfl) rfl rfl ?_
      refine KO.pv (PV.quo rfl rfl (by decide) ((show _ = ((n / 2 : Nat) : Int) from wrap64 (by rw [tdiv2]; omega) (by rw [tdiv2]; omega)))) rfl rfl ?_
      refine KO.pv (PV.indexAddr un50 sz4 rfl rfl (hnn)) rfl rfl ?_
      refine KO.load1 ag4 rfl (hrB) ((by rw [Nat.zero_add, Nat.mul_one]; exact hxb)) rfl rfl ?_
      refine KO.pv (PV.pickF rfl rfl rfl) rfl rfl ?_
      refine KO.nil ?_
      refine KC.cond rfl (fun hb => ?_) (fun hb => KC.skip ?_)
      · refine KC.seq (KC.region ?_)
        refine KO.pv (PV.assign rfl) rfl rfl ?_
        refine KO.nil ?_
        exact KC.ret ⟨rfl, _, rfl, hFA, _, rfl, fun h => by cases h⟩
      refine KC.region ?_
      refine KO.pv (PV.move rfl) rfl rfl ?_
      refine KO.pv (PV.move rfl) rfl rfl ?_
      refine KO.pv (PV.quo rfl rfl (by decide) ((show _ = ((n / 2 : Nat) : Int) from wrap64 (by rw [tdiv2]; omega) (by rw [tdiv2]; omega)))) rfl rfl ?_
      refine KO.pv (PV.indexAddr un50 sz4 rfl rfl (hnn)) rfl rfl ?_
      refine KO.store1 sz4 rfl rfl (rfl) (hrB) (rfl) ((by rw [Nat.zero_add, Nat.mul_one]; show n / 2 < cs.length; omega)) rfl fun B x1 => ?_
      refine KO.nil ?_
      refine KC.region ?_
      refine KO.pv (PV.add rfl rfl ((show _ = ((i + 1 : Nat) : Int) from wrap64 (by omega) (by omega)))) rfl rfl ?_
      refine KO.pv (PV.move rfl) rfl rfl ?_
      refine KO.nil ?_
      refine ⟨k - 1, _, by omega, .cons rfl (.cons rfl (.cons rfl (.cons rfl (.cons rfl .nil)))), i + 1, by omega, rfl, by rw [x1.next]; exact hnA, hFA.upd x1 (by omega), by rw [x1.row, if_neg (by omega)]; exact hXA, ?_, fun j hj w hw => ?_⟩
      · rw [x1.row, if_pos rfl]
        have := BR.put (hrB ▸ ⟨cs, hrB, hcl, hcb⟩ : BR 4 (V + 1) (some ⟨4, true, true, cs⟩)) hnn true
        rw [Nat.zero_add, Nat.mul_one]; exact this
      · by_cases e : j = i
        · subst e; rw [hus] at hw; cases hw; exact ⟨n, rfl, hn2, hnV⟩
        · exact hok j (by omega) w hw
  have hi : ¬ i < n1 := by simpa using hb
  refine KC.seq (KC.seq (KC.region ?_))
  refine KO.pv (PV.fieldAddr fo24_2 rfl) rfl rfl ?_
  refine KO.load1 ag22 rfl (hXA) (rfl) rfl rfl ?_
  refine KO.pv (PV.len un22 rfl) rfl rfl ?_
  refine KO.pv (PV.move rfl) rfl rfl ?_
  refine KO.nil ?_
  refine KC.sub (l' := [(1, .pointer (some ⟨H.next, 0, none⟩)), (45, .slice a2 n2 c2), (46, .int .i64 (n2 : Int)), (47, .int .i64 ((0 : Nat) : Int))]) (.cons rfl (.cons rfl (.cons rfl (.cons rfl .nil)))) ?_
  refine KC.block (KC.loopN (fun k l B => ∃ j : Nat, j + k = n2 ∧ l = [(1, .pointer (some ⟨H.next, 0, none⟩)), (45, .slice a2 n2 c2), (46, .int .i64 (n2 : Int)), (47, .int .i64 (j : Int))] ∧ B = A ∧ ∀ m, m < j → ∀ u, ss[m]? = some u → 0 ≤ u ∧ u < (n1 : Int)) ?_ n2 ⟨0, by omega, rfl, rfl, fun j hj => by omega⟩)
  rintro k2 l B ⟨j, hjk, rfl, rfl, hok2⟩
  refine KC.seq (KC.region ?_)
  refine KO.pv (PV.lss rfl rfl) rfl rfl ?_
  refine KO.nil ?_
  refine KC.seq (KC.cond rfl (fun hb => KC.skip ?_) (fun hb => KC.exit ?_))
  rotate_left
  · have hj : ¬ j < n2 := by simpa using hb
    refine KC.seq (KC.region ?_)
    refine KO.pv (PV.assign rfl) rfl rfl ?_
    refine KO.nil ?_
    refine KC.ret ⟨rfl, _, rfl, hFA, _, rfl, fun _ => ⟨by omega, by omega, fun w hw => ?_, fun w hw => ?_⟩⟩
    · obtain ⟨m, hm, rfl⟩ := List.mem_iff_getElem.1 hw
      exact hok m (by omega) _ (List.getElem?_eq_getElem hm)
    · obtain ⟨m, hm, rfl⟩ := List.mem_iff_getElem.1 hw
      rw [hl1]
      exact hok2 m (by omega) _ (List.getElem?_eq_getElem hm)
  have hj : j < n2 := by simpa using hb
  obtain ⟨b, off, sp, r, u, rfl, hbH, hr, hus, hcs, hwu⟩ := h2.at_ hj
  have hrB := (hFA.2 b hbH).trans hr
  refine KC.seq (KC.block (KC.seq (KC.region ?_)))
  refine KO.pv (PV.move rfl) rfl rfl ?_
  refine KO.pv (PV.indexAddr un22 sz3 rfl rfl (hj)) rfl rfl ?_
  refine KO.load1 ag3 rfl (hrB) (hcs) rfl rfl ?_
  refine KO.pv (PV.assign rfl) rfl rfl ?_
  refine KO.pv (PV.assign rfl) rfl rfl ?_
  refine KO.nil ?_
  refine KC.seq (KC.region ?_)
  by_cases e1 : u < 0
  · refine KO.pv (PV.move rfl) rfl rfl ?_
    refine KO.pv (PV.lss rfl rfl) rfl rfl ?_
    rw [decide_eq_true e1]
    refine KO.pv (PV.move rfl) rfl rfl ?_
    refine KO.no rfl rfl rfl ?_
    refine KO.no rfl rfl rfl ?_
    refine KO.no rfl rfl rfl ?_
    refine KO.no rfl rfl rfl ?_
    refine KO.no rfl rfl rfl ?_
    refine KO.pv (PV.pickT rfl rfl rfl) rfl rfl ?_
    refine KO.pv (PV.move rfl) rfl rfl ?_
    refine KO.no rfl rfl rfl ?_
    refine KO.no rfl rfl rfl ?_
    refine KO.no rfl rfl rfl ?_
    refine KO.no rfl rfl rfl ?_
    refine KO.no rfl rfl rfl ?_
    refine KO.no rfl rfl rfl ?_
    refine KO.no rfl rfl rfl ?_
    refine KO.no rfl rfl rfl ?_
    refine KO.no rfl rfl rfl ?_
    refine KO.no rfl rfl rfl ?_
    refine KO.no rfl rfl rfl ?_
    refine KO.no rfl rfl rfl ?_
    refine KO.pv (PV.pickT rfl rfl rfl) rfl rfl ?_
    refine KO.nil ?_
    refine KC.cond rfl (fun _ => ?_) (fun hb => by cases hb)
    refine KC.seq (KC.region ?_)
    refine KO.pv (PV.assign rfl) rfl rfl ?_
    refine KO.nil ?_
    exact KC.ret ⟨rfl, _, rfl, hFA, _, rfl, fun h => by cases h⟩
  by_cases e2 : u < (n1 : Int)
  rotate_left
  · refine KO.pv (PV.move rfl) rfl rfl ?_
    refine KO.pv (PV.lss rfl rfl) rfl rfl ?_
    rw [decide_eq_false e1]
    refine KO.pv (PV.move rfl) rfl rfl ?_
    refine KO.pv (PV.move rfl) rfl rfl ?_
    refine KO.pv (PV.fieldAddr fo24_1 rfl) rfl rfl ?_
    refine KO.load1 ag22 rfl (hXA) (rfl) rfl rfl ?_
    refine KO.pv (PV.len un22 rfl) rfl rfl ?_
    refine KO.pv (PV.geq rfl rfl) rfl rfl ?_
    rw [decide_eq_false e2, Bool.not_false]
    refine KO.pv (PV.pickF rfl rfl rfl) rfl rfl ?_
    refine KO.pv (PV.move rfl) rfl rfl ?_
    refine KO.no rfl rfl rfl ?_
    refine KO.no rfl rfl rfl ?_
    refine KO.no rfl rfl rfl ?_
    refine KO.no rfl rfl rfl ?_
    refine KO.no rfl rfl rfl ?_
    refine KO.no rfl rfl rfl ?_
    refine KO.no rfl rfl rfl ?_
    refine KO.no rfl rfl rfl ?_
    refine KO.no rfl rfl rfl ?_
    refine KO.no rfl rfl rfl ?_
    refine KO.no rfl rfl rfl ?_
    refine KO.no rfl rfl rfl ?_
    refine KO.pv (PV.pickT rfl rfl rfl) rfl rfl ?_
    refine KO.nil ?_
    refine KC.cond rfl (fun _ => ?_) (fun hb => by cases hb)
    refine KC.seq (KC.region ?_)
    refine KO.pv (PV.assign rfl) rfl rfl ?_
    refine KO.nil ?_
    exact KC.ret ⟨rfl, _, rfl, hFA, _, rfl, fun h => by cases h⟩
  have hnext : ∀ m, m < j + 1 → ∀ w, ss[m]? = some w → 0 ≤ w ∧ w < (n1 : Int) := fun m hm w hw => by
    by_cases e : m = j
    · subst e; rw [hus] at hw; cases hw; exact ⟨by omega, e2⟩
    · exact hok2 m (by omega) w hw
  by_cases e3 : (0 : Int) < (j : Int)
  · obtain ⟨u', hus', hcs', hwu'⟩ := h2.cell hr (i := j - 1) (by omega)
    refine KO.pv (PV.move rfl) rfl rfl ?_
    refine KO.pv (PV.lss rfl rfl) rfl rfl ?_
    rw [decide_eq_false e1]
    refine KO.pv (PV.move rfl) rfl rfl ?_
    refine KO.pv (PV.move rfl) rfl rfl ?_
    refine KO.pv (PV.fieldAddr fo24_1 rfl) rfl rfl ?_
    refine KO.load1 ag22 rfl (hXA) (rfl) rfl rfl ?_
    refine KO.pv (PV.len un22 rfl) rfl rfl ?_
    refine KO.pv (PV.geq rfl rfl) rfl rfl ?_
    rw [decide_eq_true e2, Bool.not_true]
    refine KO.pv (PV.pickF rfl rfl rfl) rfl rfl ?_
    refine KO.pv (PV.move rfl) rfl rfl ?_
    refine KO.pv (PV.move rfl) rfl rfl ?_
    refine KO.pv (PV.gtr rfl rfl) rfl rfl ?_
    rw [decide_eq_true e3]
    refine KO.pv (PV.move rfl) rfl rfl ?_
    refine KO.pv (PV.move rfl) rfl rfl ?_
    refine KO.pv (PV.fieldAddr fo24_2 rfl) rfl rfl ?_
    refine KO.load1 ag22 rfl (hXA) (rfl) rfl rfl ?_
    refine KO.pv (PV.move rfl) rfl rfl ?_
    refine KO.pv (PV.sub rfl rfl ((show _ = ((j - 1 : Nat) : Int) from (wrap64 (by omega) (by omega)).trans (by omega)))) rfl rfl ?_
    refine KO.pv (PV.indexAddr un22 sz3 rfl rfl ((show j - 1 < n2 by omega))) rfl rfl ?_
    refine KO.load1 ag3 rfl (hrB) (hcs') rfl rfl ?_
    refine KO.pv (PV.leq rfl rfl) rfl rfl ?_
    refine KO.pv (PV.pickT rfl rfl rfl) rfl rfl ?_
    refine KO.pv (PV.pickF rfl rfl rfl) rfl rfl ?_
    refine KO.nil ?_
    refine KC.cond rfl (fun _ => ?_) (fun hb => KC.skip ?_)
    · refine KC.seq (KC.region ?_)
      refine KO.pv (PV.assign rfl) rfl rfl ?_
      refine KO.nil ?_
      exact KC.ret ⟨rfl, _, rfl, hFA, _, rfl, fun h => by cases h⟩
    refine KC.region ?_
    refine KO.pv (PV.add rfl rfl ((show _ = ((j + 1 : Nat) : Int) from wrap64 (by omega) (by omega)))) rfl rfl ?_
    refine KO.pv (PV.move rfl) rfl rfl ?_
    refine KO.nil ?_
    exact ⟨k2 - 1, _, by omega, .cons rfl (.cons rfl (.cons rfl (.cons rfl .nil))), j + 1, by omega, rfl, rfl, hnext⟩
  · refine KO.pv (PV.move rfl) rfl rfl ?_
    refine KO.pv (PV.lss rfl rfl) rfl rfl ?_
    rw [decide_eq_false e1]
    refine KO.pv (PV.move rfl) rfl rfl ?_
    refine KO.pv (PV.move rfl) rfl rfl ?_
    refine KO.pv (PV.fieldAddr fo24_1 rfl) rfl rfl ?_
    refine KO.load1 ag22 rfl (hXA) (rfl) rfl rfl ?_
    refine KO.pv (PV.len un22 rfl) rfl rfl ?_
    refine KO.pv (PV.geq rfl rfl) rfl rfl ?_
    rw [decide_eq_true e2, Bool.not_true]
    refine KO.pv (PV.pickF rfl rfl rfl) rfl rfl ?_
    refine KO.pv (PV.move rfl) rfl rfl ?_
    refine KO.pv (PV.move rfl) rfl rfl ?_
    refine KO.pv (PV.gtr rfl rfl) rfl rfl ?_
    rw [decide_eq_false e3]
    refine KO.pv (PV.move rfl) rfl rfl ?_
    refine KO.no rfl rfl rfl ?_
    refine KO.no rfl rfl rfl ?_
    refine KO.no rfl rfl rfl ?_
    refine KO.no rfl rfl rfl ?_
    refine KO.no rfl rfl rfl ?_
    refine KO.no rfl rfl rfl ?_
    refine KO.no rfl rfl rfl ?_
    refine KO.no rfl rfl rfl ?_
    refine KO.pv (PV.pickF rfl rfl rfl) rfl rfl ?_
    refine KO.pv (PV.pickF rfl rfl rfl) rfl rfl ?_
    refine KO.nil ?_
    refine KC.cond rfl (fun hb => by cases hb) (fun hb => KC.skip ?_)
    refine KC.region ?_
    refine KO.pv (PV.add rfl rfl ((show _ = ((j + 1 : Nat) : Int) from wrap64 (by omega) (by omega)))) rfl rfl ?_
    refine KO.pv (PV.move rfl) rfl rfl ?_
    refine KO.nil ?_
    exact ⟨k2 - 1, _, by omega, .cons rfl (.cons rfl (.cons rfl (.cons rfl .nil))), j + 1, by omega, rfl, rfl, hnext⟩

theorem sl_Index (H : AHeap) (a1 : Option Addr) (n1 c1 : Nat) (x : Int) (us : List Int) (h1 : VL H .i64 (.slice a1 n1 c1) us) : WF E0 167 [.slice a1 n1 c1, .int .i64 x] H fun q => q.2 = H ∧ ∃ z : Int, q.1 = .int .i64 z ∧ -1 ≤ z ∧ z < n1 := by
  obtain ⟨hl1, hc1, hm1, hw1⟩ := h1.len
  refine WF.k Tryz.func167 rfl rfl ?_
  refine KC.seq (KC.region ?_)
  refine KO.pv (PV.assign rfl) rfl rfl ?_
  refine KO.nil ?_
  refine KC.seq (KC.seq (KC.region ?_))
  refine KO.pv (PV.move rfl) rfl rfl ?_
  refine KO.pv (PV.len un22 rfl) rfl rfl ?_
  refine KO.pv (PV.move rfl) rfl rfl ?_
  refine KO.nil ?_
  refine KC.sub (l' := [(0, .slice a1 n1 c1), (1, .int .i64 x), (7, .int .i64 (n1 : Int)), (8, .int .i64 ((0 : Nat) : Int))]) (.cons rfl (.cons rfl (.cons rfl (.cons rfl .nil)))) ?_
  refine KC.block (KC.loopN (fun k l A => ∃ i : Nat, i + k = n1 ∧ l = [(0, .slice a1 n1 c1), (1, .int .i64 x), (7, .int .i64 (n1 : Int)), (8, .int .i64 (i : Int))] ∧ A = H) ?_ n1 ⟨0, by omega, rfl, rfl⟩)
  rintro k l A ⟨i, hik, rfl, rfl⟩
  refine KC.seq (KC.region ?_)
  refine KO.pv (PV.lss rfl rfl) rfl rfl ?_
  refine KO.nil ?_
  refine KC.seq (KC.cond rfl (fun hb => KC.skip ?_) (fun hb => KC.exit ?_))
  rotate_left
  · refine KC.seq (KC.region ?_)
    refine KO.pv (PV.assign rfl) rfl rfl ?_
    refine KO.nil ?_
    exact KC.ret ⟨rfl, _, rfl, rfl, _, rfl, by omega, by omega⟩
  have hi : i < n1 := by simpa using hb
  obtain ⟨b, off, sp, r, u, rfl, hbH, hr, hus, hcs, hwu⟩ := h1.at_ hi
  refine KC.seq (KC.block (KC.seq (KC.region ?_)))
  refine KO.pv (PV.move rfl) rfl rfl ?_
  refine KO.pv (PV.assign rfl) rfl rfl ?_
  refine KO.nil ?_
  refine KC.seq (KC.region ?_)
  refine KO.pv (PV.move rfl) rfl rfl ?_
  refine KO.pv (PV.move rfl) rfl rfl ?_
  refine KO.pv (PV.move rfl) rfl rfl ?_
  refine KO.pv (PV.indexAddr un22 sz3 rfl rfl (hi)) rfl rfl ?_
  refine KO.load1 ag3 rfl (hr) (hcs) rfl rfl ?_
  refine KO.pv (PV.eql rfl rfl) rfl rfl ?_
  refine KO.nil ?_
  refine KC.cond rfl (fun _ => ?_) (fun _ => KC.skip ?_)
  · refine KC.seq (KC.region ?_)
    refine KO.pv (PV.move rfl) rfl rfl ?_
    refine KO.pv (PV.assign rfl) rfl rfl ?_
    refine KO.nil ?_
    exact KC.ret ⟨rfl, _, rfl, rfl, _, rfl, by omega, by omega⟩
  refine KC.region ?_
  refine KO.pv (PV.add rfl rfl ((show _ = ((i + 1 : Nat) : Int) from wrap64 (by omega) (by omega)))) rfl rfl ?_
  refine KO.pv (PV.move rfl) rfl rfl ?_
  refine KO.nil ?_
  exact ⟨k - 1, _, by omega, .cons rfl (.cons rfl (.cons rfl (.cons rfl .nil))), i + 1, by omega, rfl, rfl⟩

theorem sl_Contains (H : AHeap) (a1 : Option Addr) (n1 c1 : Nat) (x : Int) (us : List Int) (h1 : VL H .i64 (.slice a1 n1 c1) us) : WF E0 138 [.slice a1 n1 c1, .int .i64 x] H fun q => q.2 = H ∧ ∃ b : Bool, q.1 = .bool b := by
  refine WF.k Tryz.func138 rfl rfl ?_
  refine KC.seq (KC.region ?_)
  refine KO.pv (PV.assign rfl) rfl rfl ?_
  refine KO.nil ?_
  refine KC.seq (KC.region ?_)
  refine KO.pv (PV.move rfl) rfl rfl ?_
  refine KO.pv (PV.move rfl) rfl rfl ?_
  refine KO.call rfl rfl rfl rfl ((sl_Index H a1 n1 c1 x us h1)) fun v1 A q1 => ?_
  obtain ⟨hA, z, hv, hz1, hz2⟩ := q1
  dsimp only at hA hv
  subst hv
  subst hA
  refine KO.pv (PV.geq rfl rfl) rfl rfl ?_
  refine KO.pv (PV.assign rfl) rfl rfl ?_
  refine KO.nil ?_
  exact KC.ret ⟨rfl, _, rfl, rfl, _, rfl⟩

theorem sl_Clone (H : AHeap) (a : Option Addr) (n c : Nat) (us : List Int) (h : VL H .i64 (.slice a n c) us) (hn : n ≤ 400000000) : WF E0 111 [.slice a n c] H fun q => ∃ D, GL q.2 3 1 q.1 (us.map (Value.int .i64)) D ∧ Frh H q.2 ∧ ∀ j ∈ D, H.next ≤ j ∧ j < q.2.next := by
  have hl := h.len.1
  refine WF.k Tryz.func111 rfl rfl ?_
  refine KC.seq (KC.region ?_)
  refine KO.pv (PV.assign rfl) rfl rfl ?_
  refine KO.nil ?_
  refine KC.seq (KC.seq (KC.region ?_))
  refine KO.pv (PV.move rfl) rfl rfl ?_
  refine KO.pv (PV.eqNil un22 rfl) rfl rfl ?_
  refine KO.nil ?_
  cases a with
  | none =>
    have : us = [] := by
      rcases h.cells with h0 | ⟨_, _, _, _, h, -⟩
      · exact List.length_eq_zero_iff.1 (by omega)
      · cases h
    subst this
    refine KC.cond rfl (fun _ => ?_) (fun hb => by cases hb)
    refine KC.seq (KC.region ?_)
    refine KO.pv (PV.assign rfl) rfl rfl ?_
    refine KO.nil ?_
    exact KC.ret ⟨rfl, _, rfl, [], .nil rfl, .refl, fun _ h => absurd h List.not_mem_nil⟩
  | some x =>
    refine KC.cond rfl (fun hb => by cases hb) (fun _ => KC.skip ?_)
    refine KC.seq (KC.region ?_)
    refine KO.buildSlice el22 ez3 rfl rfl (rfl) rfl rfl fun B m1 => ?_
    have hB := h.frame (.new m1)
    refine KO.pv (PV.move rfl) rfl rfl ?_
    refine KO.appendG el22 ez3 sb3 un22 rfl rfl ((GL.nil rfl)) (hB.new) ((by simp [hl])) (rfl) ((by simp [hl]; omega)) rfl rfl fun v2 C D g1 g2 g3 g4 => ?_
    refine KO.pv (PV.assign rfl) rfl rfl ?_
    refine KO.nil ?_
    have e1 := m1.next
    exact KC.ret ⟨rfl, _, rfl, D, g1, (Frh.new m1).keep g2 (fun j hj => g3 j List.not_mem_nil hj), fun j hj => by
      show H.next ≤ j ∧ j < C.next
      rcases g4 j hj with h | h
      · cases h
      · omega⟩

/-- What a passed check tells of a heap. -/
def DeOK (us : List Int) : Prop := us.length ≤ 4000 ∧ ∀ u ∈ us, 1 ≤ u ∧ u ≤ 4000
theorem de_Check (H : AHeap) (a1 : Option Addr) (n1 c1 : Nat) (us : List Int) (h1 : VL H .i64 (.slice a1 n1 c1) us) : WF E0 74 [.slice a1 n1 c1] H fun q => Frh H q.2 ∧ ∃ e : Int, q.1 = .int .i64 e ∧ (e = 0 → DeOK us) := by
  obtain ⟨hl1, hc1, hm1, hw1⟩ := h1.len
  refine WF.k Tryz.func74 rfl rfl ?_
  refine KC.seq (KC.region ?_)
  refine KO.pv (PV.assign rfl) rfl rfl ?_
  refine KO.nil ?_
  refine KC.seq (KC.seq (KC.region ?_))
  refine KO.pv (PV.move rfl) rfl rfl ?_
  refine KO.pv (PV.len un22 rfl) rfl rfl ?_
  refine KO.pv (PV.gtr rfl rfl) rfl rfl ?_
  refine KO.nil ?_
  refine KC.cond rfl (fun hb => ?_) (fun hb => KC.skip ?_)
  · refine KC.seq (KC.region ?_)
    refine KO.pv (PV.assign rfl) rfl rfl ?_
    refine KO.nil ?_
    exact KC.ret ⟨rfl, _, rfl, .refl, _, rfl, fun h => by cases h⟩
  have hn4 : n1 ≤ 4000 := by
    have : ¬ (4000 : Int) < (n1 : Int) := by simpa using hb
    omega
  refine KC.seq (KC.region ?_)
  refine KO.alloc zt189 rfl rfl fun G1 u1 => ?_
  refine KO.nil ?_
  have hn1 := u1.next
  have hB1 : BR 189 4001 (G1.row H.next) := by rw [u1.row, if_pos rfl]; exact BR.zero
  have hF1 : Frh H G1 := .new u1
  refine KC.seq (KC.seq (KC.region ?_))
  refine KO.pv (PV.move rfl) rfl rfl ?_
  refine KO.pv (PV.len un22 rfl) rfl rfl ?_
  refine KO.pv (PV.move rfl) rfl rfl ?_
  refine KO.nil ?_
  refine KC.sub (l' := [(0, .slice a1 n1 c1), (3, .pointer (some ⟨H.next, 0, none⟩)), (9, .slice a1 n1 c1), (10, .int .i64 (n1 : Int)), (11, .int .i64 ((0 : Nat) : Int))]) (.cons rfl (.cons rfl (.cons rfl (.cons rfl (.cons rfl .nil))))) ?_
  refine KC.block (KC.loopN (fun k l A => ∃ i : Nat, i + k = n1 ∧ l = [(0, .slice a1 n1 c1), (3, .pointer (some ⟨H.next, 0, none⟩)), (9, .slice a1 n1 c1), (10, .int .i64 (n1 : Int)), (11, .int .i64 (i : Int))] ∧ A.next = H.next + 1 ∧ Frh H A ∧ BR 189 4001 (A.row H.next) ∧
    ∀ j, j < i → ∀ u, us[j]? = some u → 1 ≤ u ∧ u ≤ 4000) ?_ n1 ⟨0, by omega, rfl, hn1, hF1, hB1, fun j hj => by omega⟩)
  clear hB1 hF1 u1 hn1
  rintro k l A ⟨i, hik, rfl, hnA, hFA, hBA, hok⟩
  refine KC.seq (KC.region ?_)
  refine KO.pv (PV.lss rfl rfl) rfl rfl ?_
  refine KO.nil ?_
  refine KC.seq (KC.cond rfl (fun hb => KC.skip ?_) (fun hb => KC.exit ?_))
  rotate_left
  · have hi : ¬ i < n1 := by simpa using hb
    refine KC.seq (KC.region ?_)
    refine KO.pv (PV.assign rfl) rfl rfl ?_
    refine KO.nil ?_
    refine KC.ret ⟨rfl, _, rfl, hFA, _, rfl, fun _ => ⟨by omega, fun w hw => ?_⟩⟩
    obtain ⟨m, hm, rfl⟩ := List.mem_iff_getElem.1 hw
    exact hok m (by omega) _ (List.getElem?_eq_getElem hm)
  have hi : i < n1 := by simpa using hb
  obtain ⟨b, off, sp, r, u, rfl, hbH, hr, hus, hcs, hwu⟩ := h1.at_ hi
  have hrA := (hFA.2 b hbH).trans hr
  refine KC.seq (KC.block (KC.seq (KC.region ?_)))
  refine KO.pv (PV.move rfl) rfl rfl ?_
  refine KO.pv (PV.indexAddr un22 sz3 rfl rfl (hi)) rfl rfl ?_
  refine KO.load1 ag3 rfl (hrA) (hcs) rfl rfl ?_
  refine KO.pv (PV.assign rfl) rfl rfl ?_
  refine KO.pv (PV.assign rfl) rfl rfl ?_
  refine KO.nil ?_
  refine KC.seq (KC.seq (KC.region ?_))
  by_cases e1 : u < 1
  · refine KO.pv (PV.move rfl) rfl rfl ?_
    refine KO.pv (PV.lss rfl rfl) rfl rfl ?_
    rw [decide_eq_true e1]
    refine KO.pv (PV.move rfl) rfl rfl ?_
    refine KO.no rfl rfl rfl ?_
    refine KO.no rfl rfl rfl ?_
    refine KO.pv (PV.pickT rfl rfl rfl) rfl rfl ?_
    refine KO.pv (PV.move rfl) rfl rfl ?_
    refine KO.no rfl rfl rfl ?_
    refine KO.no rfl rfl rfl ?_
    refine KO.no rfl rfl rfl ?_
    refine KO.pv (PV.pickT rfl rfl rfl) rfl rfl ?_
    refine KO.pv (PV.move rfl) rfl rfl ?_
    refine KO.no rfl rfl rfl ?_
    refine KO.no rfl rfl rfl ?_
    refine KO.no rfl rfl rfl ?_
    refine KO.no rfl rfl rfl ?_
    refine KO.no rfl rfl rfl ?_
    refine KO.no rfl rfl rfl ?_
    refine KO.no rfl rfl rfl ?_
    refine KO.no rfl rfl rfl ?_
    refine KO.no rfl rfl rfl ?_
    refine KO.no rfl rfl rfl ?_
    refine KO.no rfl rfl rfl ?_
    refine KO.no rfl rfl rfl ?_
    refine KO.pv (PV.pickT rfl rfl rfl) rfl rfl ?_
    refine KO.nil ?_
    refine KC.cond rfl (fun _ => ?_) (fun hb => by cases hb)
    refine KC.seq (KC.region ?_)
    refine KO.pv (PV.assign rfl) rfl rfl ?_
    refine KO.nil ?_
    exact KC.ret ⟨rfl, _, rfl, hFA, _, rfl, fun h => by cases h⟩
  by_cases e2 : 4000 < u
  · refine KO.pv (PV.move rfl) rfl rfl ?_
    refine KO.pv (PV.lss rfl rfl) rfl rfl ?_
    rw [decide_eq_false e1]
    refine KO.pv (PV.move rfl) rfl rfl ?_
    refine KO.pv (PV.move rfl) rfl rfl ?_
    refine KO.pv (PV.gtr rfl rfl) rfl rfl ?_
    rw [decide_eq_true e2]
    refine KO.pv (PV.pickF rfl rfl rfl) rfl rfl ?_
    refine KO.pv (PV.move rfl) rfl rfl ?_
    refine KO.no rfl rfl rfl ?_
    refine KO.no rfl rfl rfl ?_
    refine KO.no rfl rfl rfl ?_
    refine KO.pv (PV.pickT rfl rfl rfl) rfl rfl ?_
    refine KO.pv (PV.move rfl) rfl rfl ?_
    refine KO.no rfl rfl rfl ?_
    refine KO.no rfl rfl rfl ?_
    refine KO.no rfl rfl rfl ?_
    refine KO.no rfl rfl rfl ?_
    refine KO.no rfl rfl rfl ?_
    refine KO.no rfl rfl rfl ?_
    refine KO.no rfl rfl rfl ?_
    refine KO.no rfl rfl rfl ?_
    refine KO.no rfl rfl rfl ?_
    refine KO.no rfl rfl rfl ?_
    refine KO.no rfl rfl rfl ?_
    refine KO.no rfl rfl rfl ?_
    refine KO.pv (PV.pickT rfl rfl rfl) rfl rfl ?_
    refine KO.nil ?_
    refine KC.cond rfl (fun _ => ?_) (fun hb => by cases hb)
    refine KC.seq (KC.region ?_)
    refine KO.pv (PV.assign rfl) rfl rfl ?_
    refine KO.nil ?_
    exact KC.ret ⟨rfl, _, rfl, hFA, _, rfl, fun h => by cases h⟩
  obtain ⟨m, rfl⟩ := Int.eq_ofNat_of_zero_le (show 0 ≤ u by omega)
  have hm : m < 4001 := by omega
  obtain ⟨cs, hrB, hcl, hcb⟩ := hBA
  obtain ⟨xb, hxb⟩ := hcb m hm
  have hxb' : cs[0 + m * 1]? = some (.bool xb) := by rw [Nat.zero_add, Nat.mul_one]; exact hxb
  cases xb with
  | true =>
    refine KO.pv (PV.move rfl) rfl rfl ?_
    refine KO.pv (PV.lss rfl rfl) rfl rfl ?_
    rw [decide_eq_false e1]
    refine KO.pv (PV.move rfl) rfl rfl ?_
    refine KO.pv (PV.move rfl) rfl rfl ?_
    refine KO.pv (PV.gtr rfl rfl) rfl rfl ?_
    rw [decide_eq_false e2]
    refine KO.pv (PV.pickF rfl rfl rfl) rfl rfl ?_
    refine KO.pv (PV.move rfl) rfl rfl ?_
    refine KO.pv (PV.move rfl) rfl rfl ?_
    refine KO.pv (PV.indexArr un189 sz4 rfl rfl (hm)) rfl rfl ?_
    refine KO.load1 ag4 rfl (hrB) (hxb') rfl rfl ?_
    refine KO.pv (PV.pickF rfl rfl rfl) rfl rfl ?_
    refine KO.pv (PV.move rfl) rfl rfl ?_
    refine KO.no rfl rfl rfl ?_
    refine KO.no rfl rfl rfl ?_
    refine KO.no rfl rfl rfl ?_
    refine KO.no rfl rfl rfl ?_
    refine KO.no rfl rfl rfl ?_
    refine KO.no rfl rfl rfl ?_
    refine KO.no rfl rfl rfl ?_
    refine KO.no rfl rfl rfl ?_
    refine KO.no rfl rfl rfl ?_
    refine KO.no rfl rfl rfl ?_
    refine KO.no rfl rfl rfl ?_
    refine KO.no rfl rfl rfl ?_
    refine KO.pv (PV.pickT rfl rfl rfl) rfl rfl ?_
    refine KO.nil ?_
    refine KC.cond rfl (fun _ => ?_) (fun hb => by cases hb)
    refine KC.seq (KC.region ?_)
    refine KO.pv (PV.assign rfl) rfl rfl ?_
    refine KO.nil ?_
    exact KC.ret ⟨rfl, _, rfl, hFA, _, rfl, fun h => by cases h⟩
  | false =>
  have fin : ∀ B, Upd A B H.next ⟨189, true, true, putL cs (0 + m * 1) [.bool true]⟩ → B.next = H.next + 1 ∧ Frh H B ∧ BR 189 4001 (B.row H.next) ∧ ∀ j, j < i + 1 → ∀ u, us[j]? = some u → 1 ≤ u ∧ u ≤ 4000 := fun B x1 => by
    refine ⟨by rw [x1.next]; exact hnA, hFA.upd x1 (Nat.le_refl _), ?_, fun j hj w hw => ?_⟩
    · rw [x1.row, if_pos rfl]
      have := BR.put (⟨cs, rfl, hcl, hcb⟩ : BR 189 4001 (some ⟨189, true, true, cs⟩)) hm true
      rw [Nat.zero_add, Nat.mul_one]; exact this
    · by_cases e : j = i
      · subst e; rw [hus] at hw; cases hw; exact ⟨by omega, by omega⟩
      · exact hok j (by omega) w hw
  by_cases e3 : (0 : Int) < (i : Int)
  · obtain ⟨u', hus', hcs', hwu'⟩ := h1.cell hr (i := (i - 1) / 2) (by omega)
    refine KO.pv (PV.move rfl) rfl rfl ?_
    refine KO.pv (PV.lss rfl rfl) rfl rfl ?_
    rw [decide_eq_false e1]
    refine KO.pv (PV.move rfl) rfl rfl ?_
    refine KO.pv (PV.move rfl) rfl rfl ?_
    refine KO.pv (PV.gtr rfl rfl) rfl rfl ?_
    rw [decide_eq_false e2]
    refine KO.pv (PV.pickF rfl rfl rfl) rfl rfl ?_
    refine KO.pv (PV.move rfl) rfl rfl ?_
    refine KO.pv (PV.move rfl) rfl rfl ?_
    refine KO.pv (PV.indexArr un189 sz4 rfl rfl (hm)) rfl rfl ?_
    refine KO.load1 ag4 rfl (hrB) (hxb') rfl rfl ?_
    refine KO.pv (PV.pickF rfl rfl rfl) rfl rfl ?_
    refine KO.pv (PV.move rfl) rfl rfl ?_
    refine KO.pv (PV.move rfl) rfl rfl ?_
    refine KO.pv (PV.gtr rfl rfl) rfl rfl ?_
    rw [decide_eq_true e3]
    refine KO.pv (PV.move rfl) rfl rfl ?_
    refine KO.pv (PV.move rfl) rfl rfl ?_
    refine KO.pv (PV.move rfl) rfl rfl ?_
    refine KO.pv (PV.move rfl) rfl rfl ?_
    refine KO.pv (PV.sub rfl rfl ((show _ = ((i - 1 : Nat) : Int) from (wrap64 (by omega) (by omega)).trans (by omega)))) rfl rfl ?_
    refine KO.pv (PV.quo rfl rfl (by decide) ((show _ = (((i - 1) / 2 : Nat) : Int) from wrap64 (by rw [tdiv2]; omega) (by rw [tdiv2]; omega)))) rfl rfl ?_
    refine KO.pv (PV.indexAddr un22 sz3 rfl rfl ((show (i - 1) / 2 < n1 by omega))) rfl rfl ?_
    refine KO.load1 ag3 rfl (hrA) (hcs') rfl rfl ?_
    refine KO.pv (PV.lss rfl rfl) rfl rfl ?_
    refine KO.pv (PV.pickT rfl rfl rfl) rfl rfl ?_
    refine KO.pv (PV.pickF rfl rfl rfl) rfl rfl ?_
    refine KO.nil ?_
    refine KC.cond rfl (fun _ => ?_) (fun hb => KC.skip ?_)
    · refine KC.seq (KC.region ?_)
      refine KO.pv (PV.assign rfl) rfl rfl ?_
      refine KO.nil ?_
      exact KC.ret ⟨rfl, _, rfl, hFA, _, rfl, fun h => by cases h⟩
    refine KC.region ?_
    refine KO.pv (PV.move rfl) rfl rfl ?_
    refine KO.pv (PV.indexArr un189 sz4 rfl rfl (hm)) rfl rfl ?_
    refine KO.store1 sz4 rfl rfl (rfl) (hrB) (rfl) ((lt_of_get hxb')) rfl fun B x1 => ?_
    refine KO.nil ?_
    refine KC.region ?_
    refine KO.pv (PV.add rfl rfl ((show _ = ((i + 1 : Nat) : Int) from wrap64 (by omega) (by omega)))) rfl rfl ?_
    refine KO.pv (PV.move rfl) rfl rfl ?_
    refine KO.nil ?_
    exact ⟨k - 1, _, by omega, .cons rfl (.cons rfl (.cons rfl (.cons rfl (.cons rfl .nil)))), i + 1, by omega, rfl, fin B x1⟩
  · refine KO.pv (PV.move rfl) rfl rfl ?_
    refine KO.pv (PV.lss rfl rfl) rfl rfl ?_
    rw [decide_eq_false e1]
    refine KO.pv (PV.move rfl) rfl rfl ?_
    refine KO.pv (PV.move rfl) rfl rfl ?_
    refine KO.pv (PV.gtr rfl rfl) rfl rfl ?_
    rw [decide_eq_false e2]
    refine KO.pv (PV.pickF rfl rfl rfl) rfl rfl ?_
    refine KO.pv (PV.move rfl) rfl rfl ?_
    refine KO.pv (PV.move rfl) rfl rfl ?_
    refine KO.pv (PV.indexArr un189 sz4 rfl rfl (hm)) rfl rfl ?_
    refine KO.load1 ag4 rfl (hrB) (hxb') rfl rfl ?_
    refine KO.pv (PV.pickF rfl rfl rfl) rfl rfl ?_
    refine KO.pv (PV.move rfl) rfl rfl ?_
    refine KO.pv (PV.move rfl) rfl rfl ?_
    refine KO.pv (PV.gtr rfl rfl) rfl rfl ?_
    rw [decide_eq_false e3]
    refine KO.pv (PV.move rfl) rfl rfl ?_
    refine KO.no rfl rfl rfl ?_
    refine KO.no rfl rfl rfl ?_
    refine KO.no rfl rfl rfl ?_
    refine KO.no rfl rfl rfl ?_
    refine KO.no rfl rfl rfl ?_
    refine KO.no rfl rfl rfl ?_
    refine KO.no rfl rfl rfl ?_
    refine KO.no rfl rfl rfl ?_
    refine KO.pv (PV.pickF rfl rfl rfl) rfl rfl ?_
    refine KO.pv (PV.pickF rfl rfl rfl) rfl rfl ?_
    refine KO.nil ?_
    refine KC.cond rfl (fun hb => by cases hb) (fun hb => KC.skip ?_)
    refine KC.region ?_
    refine KO.pv (PV.move rfl) rfl rfl ?_
    refine KO.pv (PV.indexArr un189 sz4 rfl rfl (hm)) rfl rfl ?_
    refine KO.store1 sz4 rfl rfl (rfl) (hrB) (rfl) ((lt_of_get hxb')) rfl fun B x1 => ?_
    refine KO.nil ?_
    refine KC.region ?_
    refine KO.pv (PV.add rfl rfl ((show _ = ((i + 1 : Nat) : Int) from wrap64 (by omega) (by omega)))) rfl rfl ?_
    refine KO.pv (PV.move rfl) rfl rfl ?_
    refine KO.nil ?_
    exact ⟨k - 1, _, by omega, .cons rfl (.cons rfl (.cons rfl (.cons rfl (.cons rfl .nil)))), i + 1, by omega, rfl, fin B x1⟩

/-- A list in new memory. -/
def DeR (H A : AHeap) (v : Value) : Prop := ∃ us D, OL A .i64 v us D ∧ Frh H A ∧ ∀ j ∈ D, H.next ≤ j ∧ j < A.next
theorem DeR.nil {H A : AHeap} (h : Frh H A) : DeR H A (.slice none 0 0) := ⟨[], [], .nil, h, fun _ h => absurd h List.not_mem_nil⟩

theorem de_Push (H : AHeap) (a1 : Option Addr) (n1 c1 : Nat) (x : Int) (us : List Int) (h1 : VL H .i64 (.slice a1 n1 c1) us) : WF E0 76 [.slice a1 n1 c1, .int .i64 x] H fun q => ∃ v e, q.1 = .tuple #[v, .int .i64 e] ∧ DeR H q.2 v := by
  obtain ⟨hl1, hc1, hm1, hw1⟩ := h1.len
  refine WF.k Tryz.func76 rfl rfl ?_
  refine KC.seq (KC.region ?_)
  refine KO.pv (PV.assign rfl) rfl rfl ?_
  refine KO.pv (PV.assign rfl) rfl rfl ?_
  refine KO.nil ?_
  refine KC.seq (KC.seq (KC.region ?_))
  refine KO.pv (PV.move rfl) rfl rfl ?_
  refine KO.call rfl rfl rfl rfl ((de_Check H a1 n1 c1 us h1)) fun v1 A q1 => ?_
  obtain ⟨hFA, e1, hv1, hok⟩ := q1
  dsimp only at hFA hv1
  subst hv1
  refine KO.pv (PV.assign rfl) rfl rfl ?_
  refine KO.nil ?_
  refine KC.seq (KC.region ?_)
  refine KO.pv (PV.move rfl) rfl rfl ?_
  refine KO.pv (PV.neq rfl rfl) rfl rfl ?_
  refine KO.nil ?_
  refine KC.cond rfl (fun hb => ?_) (fun hb => KC.skip ?_)
  · refine KC.seq (KC.region ?_)
    refine KO.pv (PV.move rfl) rfl rfl ?_
    refine KO.pv (PV.assign rfl) rfl rfl ?_
    refine KO.pv (PV.assign rfl) rfl rfl ?_
    refine KO.nil ?_
    exact KC.ret ⟨rfl, _, rfl, _, _, rfl, .nil hFA⟩
  obtain ⟨hk1, hk2⟩ := hok (by simpa using hb)
  refine KC.seq (KC.seq (KC.region ?_))
  by_cases d1 : x < 1
  · refine KO.pv (PV.move rfl) rfl rfl ?_
    refine KO.pv (PV.lss rfl rfl) rfl rfl ?_
    rw [decide_eq_true d1]
    refine KO.pv (PV.move rfl) rfl rfl ?_
    refine KO.no rfl rfl rfl ?_
    refine KO.no rfl rfl rfl ?_
    refine KO.pv (PV.pickT rfl rfl rfl) rfl rfl ?_
    refine KO.nil ?_
    refine KC.cond rfl (fun _ => ?_) (fun hb => by cases hb)
    refine KC.seq (KC.region ?_)
    refine KO.pv (PV.assign rfl) rfl rfl ?_
    refine KO.pv (PV.assign rfl) rfl rfl ?_
    refine KO.nil ?_
    exact KC.ret ⟨rfl, _, rfl, _, _, rfl, .nil hFA⟩
  by_cases d2 : 4000 < x
  · refine KO.pv (PV.move rfl) rfl rfl ?_
    refine KO.pv (PV.lss rfl rfl) rfl rfl ?_
    rw [decide_eq_false d1]
    refine KO.pv (PV.move rfl) rfl rfl ?_
    refine KO.pv (PV.move rfl) rfl rfl ?_
    refine KO.pv (PV.gtr rfl rfl) rfl rfl ?_
    rw [decide_eq_true d2]
    refine KO.pv (PV.pickF rfl rfl rfl) rfl rfl ?_
    refine KO.nil ?_
    refine KC.cond rfl (fun _ => ?_) (fun hb => by cases hb)
    refine KC.seq (KC.region ?_)
    refine KO.pv (PV.assign rfl) rfl rfl ?_
    refine KO.pv (PV.assign rfl) rfl rfl ?_
    refine KO.nil ?_
    exact KC.ret ⟨rfl, _, rfl, _, _, rfl, .nil hFA⟩
  refine KO.pv (PV.move rfl) rfl rfl ?_
  refine KO.pv (PV.lss rfl rfl) rfl rfl ?_
  rw [decide_eq_false d1]
  refine KO.pv (PV.move rfl) rfl rfl ?_
  refine KO.pv (PV.move rfl) rfl rfl ?_
  refine KO.pv (PV.gtr rfl rfl) rfl rfl ?_
  rw [decide_eq_false d2]
  refine KO.pv (PV.pickF rfl rfl rfl) rfl rfl ?_
  refine KO.nil ?_
  refine KC.cond rfl (fun hb => by cases hb) (fun _ => KC.skip ?_)
  refine KC.seq (KC.seq (KC.region ?_))
  refine KO.pv (PV.move rfl) rfl rfl ?_
  refine KO.pv (PV.move rfl) rfl rfl ?_
  refine KO.call rfl rfl rfl rfl ((sl_Contains A a1 n1 c1 x us (h1.frame hFA))) fun v2 A1 q2 => ?_
  obtain ⟨hA1, kb, hv2⟩ := q2
  dsimp only at hA1 hv2
  subst hv2
  subst hA1
  refine KO.nil ?_
  refine KC.cond rfl (fun _ => ?_) (fun _ => KC.skip ?_)
  · refine KC.seq (KC.region ?_)
    refine KO.pv (PV.assign rfl) rfl rfl ?_
    refine KO.pv (PV.assign rfl) rfl rfl ?_
    refine KO.nil ?_
    exact KC.ret ⟨rfl, _, rfl, _, _, rfl, .nil hFA⟩
  refine KC.seq (KC.region ?_)
  refine KO.pv (PV.move rfl) rfl rfl ?_
  refine KO.call rfl rfl rfl rfl ((sl_Clone A1 a1 n1 c1 us (h1.frame hFA) (by omega))) fun v3 B q3 => ?_
  obtain ⟨D3, g3, f3, d3⟩ := q3
  dsimp only at g3 f3 d3
  refine KO.pv (PV.move rfl) rfl rfl ?_
  refine KO.buildSlice el22 ez3 rfl rfl (rfl) rfl rfl fun C m3 => ?_
  have g3C := g3.frame (H' := C) (fun j hj => by have := d3 j hj; rw [m3.row, if_neg (by omega)])
  refine KO.appendG el22 ez3 sb3 un22 rfl rfl (g3C) ((newElems_one (m3.row _ ▸ if_pos rfl) rfl rfl)) (rfl) ((ints_all _)) ((by simp only [List.length_map, List.length_cons, List.length_nil]; omega)) rfl rfl fun v4 F D4 k1 k2 k3 k4 => ?_
  refine KO.pv (PV.assign rfl) rfl rfl ?_
  refine KO.nil ?_
  have hFF : Frh A1 F := (f3.trans (.new m3)).app k2 k3 (fun j hj => (d3 j hj).1)
  obtain ⟨b, hv4, hrb, rfl⟩ := k1.ne (by simp)
  have hlen : (us.map (Value.int .i64) ++ [Value.int .i64 x]).length = n1 + 1 := by simp [hl1]
  rw [hlen] at hv4
  subst hv4
  have hbr : A1.next ≤ b ∧ b < F.next := by
    have e3 := m3.next
    have e4 := f3.1
    rcases k4 b (by simp) with h | h
    · have := d3 b h; omega
    · omega
  have hI : IL F b (n1 + 1) := by
    have := IL.of (us := us ++ [x]) (by rw [List.map_append]; exact hrb) (fun u hu => by
      rcases List.mem_append.1 hu with h | h
      · exact hk2 u h
      · simp only [List.mem_singleton] at h; subst h; exact ⟨by omega, by omega⟩)
    rwa [List.length_append, List.length_singleton, hl1] at this
  have hFH := hFA.trans hFF
  have hbH : H.next ≤ b := by have := hFA.1; omega
  refine KC.seq (KC.seq (KC.region ?_))
  refine KO.pv (PV.move rfl) rfl rfl ?_
  refine KO.pv (PV.len un22 rfl) rfl rfl ?_
  refine KO.pv (PV.sub rfl rfl ((show _ = (n1 : Int) from (wrap64 (by omega) (by omega)).trans (by omega)))) rfl rfl ?_
  refine KO.pv (PV.assign rfl) rfl rfl ?_
  refine KO.nil ?_
  refine KC.sub (l' := [(7, .slice (some ⟨b, 0, some 1⟩) (n1 + 1) (n1 + 1)), (8, .int .i64 (n1 : Int))]) (.cons rfl (.cons rfl .nil)) ?_
  refine KC.block (KC.loopN (fun k l B => ∃ i : Nat, i ≤ k ∧ i ≤ n1 ∧ l = [(7, .slice (some ⟨b, 0, some 1⟩) (n1 + 1) (n1 + 1)), (8, .int .i64 (i : Int))] ∧ IL B b (n1 + 1) ∧ Frh H B ∧ b < B.next) ?_ n1 ⟨n1, by omega, by omega, rfl, hI, hFH, hbr.2⟩)
  clear hI hFH hbr hrb k1 k2 k3 k4 hFF m3 g3C g3 f3 d3
  rintro k l B ⟨i, hik, hin, rfl, hIB, hFB, hbB⟩
  refine KC.seq (KC.seq ?_)
  by_cases e1 : (0 : Int) < (i : Int)
  · obtain ⟨r, hr, hrw, hc⟩ := hIB
    obtain ⟨u, hu, hu1, hu2⟩ := hc i (by omega)
    obtain ⟨w, hw, hw1, hw2⟩ := hc ((i - 1) / 2) (by omega)
    refine KC.draw (n := 15) (anc := [0, 1, 3, 7, 7, 31, 63, 7, 7, 263, 775, 1927, 3975, 8191, 16383]) (hv := []) (ord := [0, 1, 2, 3, 4, 5, 6, 7, 8, 9, 10, 11, 12, 13, 14]) (by kernel_rfl) (by kernel_rfl) (by kernel_rfl) (by kernel_rfl) (by kernel_rfl) fun H0 hn0 hr0 => ?_
    refine KD.pv 1 (PV.move rfl) rfl rfl rfl (by kernel_rfl) rfl rfl rfl ?_
    refine KD.pv 3 (PV.gtr rfl rfl) rfl rfl rfl (by kernel_rfl) rfl rfl rfl ?_
    rw [decide_eq_true e1]
    refine KD.pv 7 (PV.move rfl) rfl rfl rfl (by kernel_rfl) rfl rfl rfl ?_
    refine KD.pv 15 (PV.move rfl) rfl rfl rfl (by kernel_rfl) rfl rfl rfl ?_
    refine KD.pv 31 (PV.move rfl) rfl rfl rfl (by kernel_rfl) rfl rfl rfl ?_
    refine KD.pv 63 (PV.indexAddr un22 sz3 rfl rfl ((show i < n1 + 1 by omega))) rfl rfl rfl (by kernel_rfl) rfl rfl rfl ?_
    refine KD.load 127 rfl ((hr0 _ ▸ hr)) (by rw [read1 ag3]; exact (hu)) (past1 ⟨_, ((hr0 _ ▸ hr)), by rw [read1 ag3]; exact (hu)⟩) (veq_int) rfl (by kernel_rfl) rfl rfl rfl ?_
    refine KD.pv 255 (PV.move rfl) rfl rfl rfl (by kernel_rfl) rfl rfl rfl ?_
    refine KD.pv 511 (PV.move rfl) rfl rfl rfl (by kernel_rfl) rfl rfl rfl ?_
    refine KD.pv 1023 (PV.sub rfl rfl ((show _ = ((i - 1 : Nat) : Int) from (wrap64 (by omega) (by omega)).trans (by omega)))) rfl rfl rfl (by kernel_rfl) rfl rfl rfl ?_
    refine KD.pv 2047 (PV.quo rfl rfl (by decide) ((show _ = (((i - 1) / 2 : Nat) : Int) from wrap64 (by rw [tdiv2]; omega) (by rw [tdiv2]; omega)))) rfl rfl rfl (by kernel_rfl) rfl rfl rfl ?_
    refine KD.pv 4095 (PV.indexAddr un22 sz3 rfl rfl ((show (i - 1) / 2 < n1 + 1 by omega))) rfl rfl rfl (by kernel_rfl) rfl rfl rfl ?_
    refine KD.load 8191 rfl ((hr0 _ ▸ hr)) (by rw [read1 ag3]; exact (hw)) (past1 ⟨_, ((hr0 _ ▸ hr)), by rw [read1 ag3]; exact (hw)⟩) (veq_int) rfl (by kernel_rfl) rfl rfl rfl ?_
    refine KD.pv 16383 (PV.lss rfl rfl) rfl rfl rfl (by kernel_rfl) rfl rfl rfl ?_
    refine KD.pv 32767 (PV.pickT rfl rfl rfl) rfl rfl rfl (by kernel_rfl) rfl rfl rfl ?_
    refine KD.nil ⟨rfl, ?_⟩
    have hFK : Frh H H0 := hFB.keep (by omega) fun j _ => hr0 j
    have hrK := (hr0 b).trans hr
    have hbK : b < H0.next := by omega
    clear hr0 hn0 hFB hr hbB
    generalize H0 = K at *
    refine KC.cond rfl (fun _ => KC.skip ?_) (fun _ => KC.exit ?_)
    · refine KC.seq (KC.block ?_)
      refine KC.draw (n := 20) (anc := [0, 0, 0, 0, 8, 24, 0, 0, 128, 384, 960, 1984, 0, 0, 12288, 28672, 65475, 131011, 262143, 524287]) (hv := [17, 19]) (ord := [0, 1, 6, 7, 8, 9, 10, 11, 12, 13, 14, 15, 16, 17, 2, 3, 4, 5, 18, 19]) (by kernel_rfl) (by kernel_rfl) (by kernel_rfl) (by kernel_rfl) (by kernel_rfl) fun H0 hn0 hr0 => ?_
      refine KD.pv 1 (PV.move rfl) rfl rfl rfl (by kernel_rfl) rfl rfl rfl ?_
      refine KD.pv 3 (PV.move rfl) rfl rfl rfl (by kernel_rfl) rfl rfl rfl ?_
      refine KD.pv 67 (PV.move rfl) rfl rfl rfl (by kernel_rfl) rfl rfl rfl ?_
      refine KD.pv 195 (PV.move rfl) rfl rfl rfl (by kernel_rfl) rfl rfl rfl ?_
      refine KD.pv 451 (PV.sub rfl rfl ((show _ = ((i - 1 : Nat) : Int) from (wrap64 (by omega) (by omega)).trans (by omega)))) rfl rfl rfl (by kernel_rfl) rfl rfl rfl ?_
      refine KD.pv 963 (PV.quo rfl rfl (by decide) ((show _ = (((i - 1) / 2 : Nat) : Int) from wrap64 (by rw [tdiv2]; omega) (by rw [tdiv2]; omega)))) rfl rfl rfl (by kernel_rfl) rfl rfl rfl ?_
      refine KD.pv 1987 (PV.indexAddr un22 sz3 rfl rfl ((show (i - 1) / 2 < n1 + 1 by omega))) rfl rfl rfl (by kernel_rfl) rfl rfl rfl ?_
      refine KD.load 4035 rfl ((hr0 _ ▸ hrK)) (by rw [read1 ag3]; exact (hw)) (past1 ⟨_, ((hr0 _ ▸ hrK)), by rw [read1 ag3]; exact (hw)⟩) (veq_int) rfl (by kernel_rfl) rfl rfl rfl ?_
      refine KD.pv 8131 (PV.move rfl) rfl rfl rfl (by kernel_rfl) rfl rfl rfl ?_
      refine KD.pv 16323 (PV.move rfl) rfl rfl rfl (by kernel_rfl) rfl rfl rfl ?_
      refine KD.pv 32707 (PV.indexAddr un22 sz3 rfl rfl ((show i < n1 + 1 by omega))) rfl rfl rfl (by kernel_rfl) rfl rfl rfl ?_
      refine KD.load 65475 rfl ((hr0 _ ▸ hrK)) (by rw [read1 ag3]; exact (hu)) (past1 ⟨_, ((hr0 _ ▸ hrK)), by rw [read1 ag3]; exact (hu)⟩) (veq_int) rfl (by kernel_rfl) rfl rfl rfl ?_
      refine KD.pv 131011 (PV.indexAddr un22 sz3 rfl rfl ((show i < n1 + 1 by omega))) rfl rfl rfl (by kernel_rfl) rfl rfl rfl ?_
      refine KD.store1 262083 sz3 rfl rfl (rfl) (((hr0 _).trans hrK)) (hrw) ((lt_of_get hu)) rfl (by kernel_rfl) rfl rfl fun B1 x1 => ?_
      have hI1 := IL.put hc x1 (show i < n1 + 1 by omega) hw1 hw2
      obtain ⟨r1, hr1, hrw1, hc1_⟩ := hI1
      rw [x1.row, if_pos rfl] at hr1
      cases hr1
      have hr1 : B1.row b = some ⟨r.elem, r.whole, true, putL r.cs (0 + i * 1) [.int .i64 w]⟩ := by rw [x1.row, if_pos rfl]
      obtain ⟨w3, hw3, hw4, hw5⟩ := hc1_ ((i - 1) / 2) (by omega)
      refine KD.pv 262087 (PV.move rfl) rfl rfl rfl (by kernel_rfl) rfl rfl rfl ?_
      refine KD.pv 262095 (PV.move rfl) rfl rfl rfl (by kernel_rfl) rfl rfl rfl ?_
      refine KD.pv 262111 (PV.sub rfl rfl ((show _ = ((i - 1 : Nat) : Int) from (wrap64 (by omega) (by omega)).trans (by omega)))) rfl rfl rfl (by kernel_rfl) rfl rfl rfl ?_
      refine KD.pv 262143 (PV.quo rfl rfl (by decide) ((show _ = (((i - 1) / 2 : Nat) : Int) from wrap64 (by rw [tdiv2]; omega) (by rw [tdiv2]; omega)))) rfl rfl rfl (by kernel_rfl) rfl rfl rfl ?_
      refine KD.pv 524287 (PV.indexAddr un22 sz3 rfl rfl ((show (i - 1) / 2 < n1 + 1 by omega))) rfl rfl rfl (by kernel_rfl) rfl rfl rfl ?_
      refine KD.store1 1048575 sz3 rfl rfl (rfl) (hr1) (rfl) ((lt_of_get hw3)) rfl (by kernel_rfl) rfl rfl fun B2 x2 => ?_
      refine KD.nil ⟨rfl, ?_⟩
      have hI2 := IL.put hc1_ x2 (show (i - 1) / 2 < n1 + 1 by omega) hu1 hu2
      have y1 := x1.next
      have y2 := x2.next
      refine KC.region ?_
      refine KO.pv (PV.move rfl) rfl rfl ?_
      refine KO.pv (PV.sub rfl rfl ((show _ = ((i - 1 : Nat) : Int) from (wrap64 (by omega) (by omega)).trans (by omega)))) rfl rfl ?_
      refine KO.pv (PV.quo rfl rfl (by decide) ((show _ = (((i - 1) / 2 : Nat) : Int) from wrap64 (by rw [tdiv2]; omega) (by rw [tdiv2]; omega)))) rfl rfl ?_
      refine KO.pv (PV.assign rfl) rfl rfl ?_
      refine KO.nil ?_
      refine ⟨k - 1, _, by omega, .cons rfl (.cons rfl .nil), (i - 1) / 2, by omega, by omega, rfl, hI2, ?_, by omega⟩
      refine ⟨by have := hFK.1; omega, fun j hj => ?_⟩
      rw [x2.row, if_neg (by omega), x1.row, if_neg (by omega), hr0]
      exact hFK.2 j hj
    · refine KC.seq (KC.region ?_)
      refine KO.pv (PV.move rfl) rfl rfl ?_
      refine KO.pv (PV.assign rfl) rfl rfl ?_
      refine KO.pv (PV.assign rfl) rfl rfl ?_
      refine KO.nil ?_
      obtain ⟨us', ho, hol⟩ := IL.ol (c := n1 + 1) (sp := some 1) ⟨r, hrK, hrw, hc⟩ (Nat.le_refl _) (by omega)
      exact KC.ret ⟨rfl, _, rfl, _, _, rfl, us', [b], ho, hFK, fun j hj => by simp only [List.mem_singleton] at hj; subst hj; exact ⟨hbH, hbK⟩⟩
  · refine KC.draw (n := 15) (anc := [0, 1, 3, 7, 7, 31, 63, 7, 7, 263, 775, 1927, 3975, 8191, 16383]) (hv := []) (ord := [0, 1, 2, 3, 4, 5, 6, 7, 8, 9, 10, 11, 12, 13, 14]) (by kernel_rfl) (by kernel_rfl) (by kernel_rfl) (by kernel_rfl) (by kernel_rfl) fun H0 hn0 hr0 => ?_
    refine KD.pv 1 (PV.move rfl) rfl rfl rfl (by kernel_rfl) rfl rfl rfl ?_
    refine KD.pv 3 (PV.gtr rfl rfl) rfl rfl rfl (by kernel_rfl) rfl rfl rfl ?_
    rw [decide_eq_false e1]
    refine KD.pv 7 (PV.move rfl) rfl rfl rfl (by kernel_rfl) rfl rfl rfl ?_
    refine KD.skip 15 rfl rfl rfl (by kernel_rfl) rfl rfl rfl ?_
    refine KD.skip 31 rfl rfl rfl (by kernel_rfl) rfl rfl rfl ?_
    refine KD.skip 63 rfl rfl rfl (by kernel_rfl) rfl rfl rfl ?_
    refine KD.skip 127 rfl rfl rfl (by kernel_rfl) rfl rfl rfl ?_
    refine KD.skip 255 rfl rfl rfl (by kernel_rfl) rfl rfl rfl ?_
    refine KD.skip 511 rfl rfl rfl (by kernel_rfl) rfl rfl rfl ?_
    refine KD.skip 1023 rfl rfl rfl (by kernel_rfl) rfl rfl rfl ?_
    refine KD.skip 2047 rfl rfl rfl (by kernel_rfl) rfl rfl rfl ?_
    refine KD.skip 4095 rfl rfl rfl (by kernel_rfl) rfl rfl rfl ?_
    refine KD.skip 8191 rfl rfl rfl (by kernel_rfl) rfl rfl rfl ?_
    refine KD.skip 16383 rfl rfl rfl (by kernel_rfl) rfl rfl rfl ?_
    refine KD.pv 32767 (PV.pickF rfl rfl rfl) rfl rfl rfl (by kernel_rfl) rfl rfl rfl ?_
    refine KD.nil ⟨rfl, ?_⟩
    have hFK : Frh H H0 := hFB.keep (by omega) fun j _ => hr0 j
    have hIK : IL H0 b (n1 + 1) := hIB.frame (hr0 b)
    have hbK : b < H0.next := by omega
    refine KC.cond rfl (fun hb => by cases hb) (fun _ => KC.exit ?_)
    refine KC.seq (KC.region ?_)
    refine KO.pv (PV.move rfl) rfl rfl ?_
    refine KO.pv (PV.assign rfl) rfl rfl ?_
    refine KO.pv (PV.assign rfl) rfl rfl ?_
    refine KO.nil ?_
    obtain ⟨us', ho, hol⟩ := IL.ol (c := n1 + 1) (sp := some 1) hIK (Nat.le_refl _) (by omega)
    exact KC.ret ⟨rfl, _, rfl, _, _, rfl, us', [b], ho, hFK, fun j hj => by simp only [List.mem_singleton] at hj; subst hj; exact ⟨hbH, hbK⟩⟩

end Go.Eng

namespace Go.Eng
open Go Go.Proofs
theorem veq_as {n : Int} {a b : Option Addr} {l c m d : Nat} : veq 100 (.agg [.int .i64 n, .slice a l c, .slice b m d].toArray) (.agg [.int .i64 n, .slice a l c, .slice b m d].toArray) = true := by
  have h : ∀ (x : Option Addr) (p q : Nat), veq 99 (.slice x p q) (.slice x p q) = true := fun x p q => by cases x <;> simp [veq, vSl, optAddrBeq, addrBeq_self]
  show (veq 99 (.int .i64 n) (.int .i64 n) && (veq 99 (.slice a l c) (.slice a l c) && (veq 99 (.slice b m d) (.slice b m d) && true))) = true
  rw [h, h]
  simp [veq, vInt, ikBeq_self]
theorem take3 {cs : List Value} {o : Nat} {x y z : Value} (h0 : cs[o]? = some x) (h1 : cs[o + 1]? = some y) (h2 : cs[o + 2]? = some z) : takeN 3 (cs.drop o) = some [x, y, z] := by
  refine takeN_of ?_ rfl
  apply List.ext_getElem?
  intro i
  rw [List.getElem?_take]
  match i with
  | 0 => rw [if_pos (by omega), List.getElem?_drop]; exact h0
  | 1 => rw [if_pos (by omega), List.getElem?_drop]; exact h1
  | 2 => rw [if_pos (by omega), List.getElem?_drop]; exact h2
  | i + 3 => rw [if_neg (by omega)]; rfl
abbrev ShA : Sh := .fld 0 (.num .i64) (.fld 1 (.list 1 (.num .i64)) (.fld 2 (.list 1 (.num .i64)) .nil))
theorem de_pop (H : AHeap) (b n c : Nat) (hI : IL H b n) (hn : 1 ≤ n) (hc : n ≤ c) (hcl : c ≤ 900000000) (hb : b < H.next) : WF E0 143 [.slice (some ⟨b, 0, some 1⟩) n c] H fun q => ∃ v : Int, q.1 = .tuple #[.int .i64 v, .slice (some ⟨b, 0, some 1⟩) (n - 1) c] ∧ 1 ≤ v ∧ v ≤ 4000 ∧ IL q.2 b (n - 1) ∧ H.next ≤ q.2.next ∧ ∀ j, j < H.next → j ≠ b → q.2.row j = H.row j := by
  obtain ⟨r, hr, hrw, hcc⟩ := hI
  obtain ⟨v0, h0, h01, h02⟩ := hcc 0 (by omega)
  obtain ⟨v9, h9, h91, h92⟩ := hcc (n - 1) (by omega)
  refine WF.k Tryz.func143 rfl rfl ?_
  refine KC.seq (KC.region ?_)
  refine KO.pv (PV.assign rfl) rfl rfl ?_
  refine KO.pv (PV.assign rfl) rfl rfl ?_
  refine KO.nil ?_
  refine KC.seq (KC.region ?_)
  refine KO.pv (PV.move rfl) rfl rfl ?_
  refine KO.pv (PV.indexAddr un22 sz3 rfl ((show kval _ _ (.const (.int .i64 0)) = some (.int .i64 ((0 : Nat) : Int)) from rfl)) ((show 0 < n by omega))) rfl rfl ?_
  refine KO.load1 ag3 rfl (hr) (h0) rfl rfl ?_
  refine KO.pv (PV.move rfl) rfl rfl ?_
  refine KO.pv (PV.len un22 rfl) rfl rfl ?_
  refine KO.pv (PV.sub rfl rfl ((show _ = ((n - 1 : Nat) : Int) from (wrap64 (by omega) (by omega)).trans (by omega)))) rfl rfl ?_
  refine KO.pv (PV.assign rfl) rfl rfl ?_
  refine KO.pv (PV.assign rfl) rfl rfl ?_
  refine KO.nil ?_
  refine KC.seq (KC.region ?_)
  refine KO.pv (PV.move rfl) rfl rfl ?_
  refine KO.pv (PV.move rfl) rfl rfl ?_
  refine KO.pv (PV.move rfl) rfl rfl ?_
  refine KO.pv (PV.indexAddr un22 sz3 rfl rfl ((show n - 1 < n by omega))) rfl rfl ?_
  refine KO.load1 ag3 rfl (hr) (h9) rfl rfl ?_
  refine KO.pv (PV.indexAddr un22 sz3 rfl ((show kval _ _ (.const (.int .i64 0)) = some (.int .i64 ((0 : Nat) : Int)) from rfl)) ((show 0 < n by omega))) rfl rfl ?_
  refine KO.store1 sz3 rfl rfl (rfl) (hr) (hrw) ((lt_of_get h0)) rfl fun H1 u1 => ?_
  refine KO.nil ?_
  have hI1 := (IL.put hcc u1 (show 0 < n by omega) h91 h92).less (show n - 1 ≤ n by omega)
  have hn1 := u1.next
  have hk1 : ∀ j, j ≠ b → H1.row j = H.row j := fun j hj => by rw [u1.row, if_neg hj]
  clear u1
  refine KC.seq (KC.region ?_)
  refine KO.pv (PV.move rfl) rfl rfl ?_
  refine KO.pv (PV.move rfl) rfl rfl ?_
  refine KO.pv (PV.slice rfl (fun _ h => by cases h) (fun _ => rfl) (fun _ h => by cases h; exact ⟨_, rfl, rfl⟩) (fun h => by cases h) (fun _ h => by cases h) (fun _ => rfl) (slice_to un22 sz3 (fun x hx => by cases hx; rfl) (show n - 1 ≤ c by omega))) rfl rfl ?_
  refine KO.pv (PV.assign rfl) rfl rfl ?_
  refine KO.nil ?_
  refine KC.seq (KC.region ?_)
  refine KO.pv (PV.assign rfl) rfl rfl ?_
  refine KO.nil ?_
  have hNc : n - 1 ≤ 900000000 := by omega
  generalize n - 1 = N at *
  refine KC.sub (l' := [(0, .slice (some ⟨b, 0, some 1⟩) N c), (4, .int .i64 v0), (5, .int .i64 (N : Int)), (6, .int .i64 ((0 : Nat) : Int))]) (.cons rfl (.cons rfl (.cons rfl (.cons rfl .nil)))) ?_
  refine KC.block (KC.loopN (fun k l A => ∃ i : Nat, (i = 0 ∨ i < N) ∧ N - i ≤ k ∧ l = [(0, .slice (some ⟨b, 0, some 1⟩) N c), (4, .int .i64 v0), (5, .int .i64 (N : Int)), (6, .int .i64 (i : Int))] ∧ IL A b N ∧ H.next ≤ A.next ∧ ∀ j, j < H.next → j ≠ b → A.row j = H.row j) ?_ N ⟨0, .inl rfl, by omega, rfl, hI1, by omega, fun j _ h2 => hk1 j h2⟩)
  clear hI1 hk1 hn1 hr hrw hcc h0 h9
  rintro k l A ⟨i, hi0, hik, rfl, hIA, hnA, hkA⟩
  refine KC.block (KC.seq (KC.region ?_))
  refine KO.pv (PV.move rfl) rfl rfl ?_
  refine KO.pv (PV.assign rfl) rfl rfl ?_
  refine KO.nil ?_
  refine KC.seq (KC.seq (KC.region ?_))
  refine KO.pv (PV.move rfl) rfl rfl ?_
  refine KO.nil ?_
  refine KC.sub (l' := [(0, .slice (some ⟨b, 0, some 1⟩) N c), (4, .int .i64 v0), (5, .int .i64 (N : Int)), (6, .int .i64 (i : Int)), (7, .int .i64 (i : Int)), (26, .int .i64 ((0 : Nat) : Int))]) (.cons rfl (.cons rfl (.cons rfl (.cons rfl (.cons rfl (.cons rfl .nil)))))) ?_
  refine KC.block (KC.loopN (fun k2 l B => ∃ kk best : Nat, kk + k2 = 2 ∧ (best = i ∨ (i < best ∧ best < N)) ∧ l = [(0, .slice (some ⟨b, 0, some 1⟩) N c), (4, .int .i64 v0), (5, .int .i64 (N : Int)), (6, .int .i64 (i : Int)), (7, .int .i64 (best : Int)), (26, .int .i64 (kk : Int))] ∧ Frh A B) ?_ 2 ⟨0, i, by omega, .inl rfl, rfl, .refl⟩)
  rintro k2 l B ⟨kk, best, hkk, hbest, rfl, hFB⟩
  have hIB := hIA.frame (hFB.2 b (by omega))
  have hnB : H.next ≤ B.next := Nat.le_trans hnA hFB.1
  have hkB : ∀ j, j < H.next → j ≠ b → B.row j = H.row j := fun j j1 j2 => (hFB.2 j (by omega)).trans (hkA j j1 j2)
  refine KC.seq (KC.region ?_)
  refine KO.pv (PV.lss rfl rfl) rfl rfl ?_
  refine KO.nil ?_
  refine KC.seq (KC.cond rfl (fun hb => KC.skip ?_) (fun hb => KC.exit ?_))
  · have hk2 : kk < 2 := by
      have : (kk : Int) < 2 := by simpa using hb
      omega
    refine KC.seq (KC.block (KC.seq (KC.region ?_)))
    refine KO.pv (PV.move rfl) rfl rfl ?_
    refine KO.pv (PV.assign rfl) rfl rfl ?_
    refine KO.nil ?_
    refine KC.seq (KC.region ?_)
    refine KO.pv (PV.move rfl) rfl rfl ?_
    refine KO.pv (PV.mul rfl rfl ((show _ = ((2 * i : Nat) : Int) from (wrap64 (by omega) (by omega)).trans (by omega)))) rfl rfl ?_
    refine KO.pv (PV.add rfl rfl ((show _ = ((2 * i + 1 : Nat) : Int) from wrap64 (by omega) (by omega)))) rfl rfl ?_
    refine KO.pv (PV.move rfl) rfl rfl ?_
    refine KO.pv (PV.add rfl rfl ((show _ = ((2 * i + 1 + kk : Nat) : Int) from wrap64 (by omega) (by omega)))) rfl rfl ?_
    refine KO.pv (PV.assign rfl) rfl rfl ?_
    refine KO.nil ?_
    refine KC.seq ?_
    by_cases e1 : ((2 * i + 1 + kk : Nat) : Int) < (N : Int)
    · have e1' : 2 * i + 1 + kk < N := by omega
      obtain ⟨r, hr, hrw, hcc⟩ := hIB
      obtain ⟨u, hu, hu1, hu2⟩ := hcc (2 * i + 1 + kk) e1'
      obtain ⟨w, hw, hw1, hw2⟩ := hcc best (by omega)
      refine KC.draw (n := 14) (anc := [0, 0, 3, 7, 15, 15, 63, 127, 15, 15, 783, 1807, 4095, 8191]) (hv := []) (ord := [0, 1, 2, 3, 4, 5, 6, 7, 8, 9, 10, 11, 12, 13]) (by kernel_rfl) (by kernel_rfl) (by kernel_rfl) (by kernel_rfl) (by kernel_rfl) fun H0 hn0 hr0 => ?_
      refine KD.pv 1 (PV.move rfl) rfl rfl rfl (by kernel_rfl) rfl rfl rfl ?_
      refine KD.pv 3 (PV.move rfl) rfl rfl rfl (by kernel_rfl) rfl rfl rfl ?_
      refine KD.pv 7 (PV.lss rfl rfl) rfl rfl rfl (by kernel_rfl) rfl rfl rfl ?_
      rw [decide_eq_true e1]
      refine KD.pv 15 (PV.move rfl) rfl rfl rfl (by kernel_rfl) rfl rfl rfl ?_
      refine KD.pv 31 (PV.move rfl) rfl rfl rfl (by kernel_rfl) rfl rfl rfl ?_
      refine KD.pv 63 (PV.move rfl) rfl rfl rfl (by kernel_rfl) rfl rfl rfl ?_
      refine KD.pv 127 (PV.indexAddr un22 sz3 rfl rfl (e1')) rfl rfl rfl (by kernel_rfl) rfl rfl rfl ?_
      refine KD.load 255 rfl ((hr0 _ ▸ hr)) (by rw [read1 ag3]; exact (hu)) (past1 ⟨_, ((hr0 _ ▸ hr)), by rw [read1 ag3]; exact (hu)⟩) (veq_int) rfl (by kernel_rfl) rfl rfl rfl ?_
      refine KD.pv 511 (PV.move rfl) rfl rfl rfl (by kernel_rfl) rfl rfl rfl ?_
      refine KD.pv 1023 (PV.move rfl) rfl rfl rfl (by kernel_rfl) rfl rfl rfl ?_
      refine KD.pv 2047 (PV.indexAddr un22 sz3 rfl rfl ((show best < N by omega))) rfl rfl rfl (by kernel_rfl) rfl rfl rfl ?_
      refine KD.load 4095 rfl ((hr0 _ ▸ hr)) (by rw [read1 ag3]; exact (hw)) (past1 ⟨_, ((hr0 _ ▸ hr)), by rw [read1 ag3]; exact (hw)⟩) (veq_int) rfl (by kernel_rfl) rfl rfl rfl ?_
      refine KD.pv 8191 (PV.lss rfl rfl) rfl rfl rfl (by kernel_rfl) rfl rfl rfl ?_
      refine KD.pv 16383 (PV.pickT rfl rfl rfl) rfl rfl rfl (by kernel_rfl) rfl rfl rfl ?_
      refine KD.nil ⟨rfl, ?_⟩
      have hFK : Frh A H0 := hFB.keep (by omega) fun j _ => hr0 j
      refine KC.cond rfl (fun _ => KC.region ?_) (fun _ => KC.skip ?_)
      · refine KO.pv (PV.move rfl) rfl rfl ?_
        refine KO.pv (PV.assign rfl) rfl rfl ?_
        refine KO.nil ?_
        refine KC.region ?_
        refine KO.pv (PV.add rfl rfl ((show _ = ((kk + 1 : Nat) : Int) from wrap64 (by omega) (by omega)))) rfl rfl ?_
        refine KO.pv (PV.move rfl) rfl rfl ?_
        refine KO.nil ?_
        exact ⟨k2 - 1, _, by omega, .cons rfl (.cons rfl (.cons rfl (.cons rfl (.cons rfl (.cons rfl .nil))))), kk + 1, 2 * i + 1 + kk, by omega, .inr ⟨by omega, e1'⟩, rfl, hFK⟩
      · refine KC.region ?_
        refine KO.pv (PV.add rfl rfl ((show _ = ((kk + 1 : Nat) : Int) from wrap64 (by omega) (by omega)))) rfl rfl ?_
        refine KO.pv (PV.move rfl) rfl rfl ?_
        refine KO.nil ?_
        exact ⟨k2 - 1, _, by omega, .cons rfl (.cons rfl (.cons rfl (.cons rfl (.cons rfl (.cons rfl .nil))))), kk + 1, best, by omega, hbest, rfl, hFK⟩
    · refine KC.draw (n := 14) (anc := [0, 0, 3, 7, 15, 15, 63, 127, 15, 15, 783, 1807, 4095, 8191]) (hv := []) (ord := [0, 1, 2, 3, 4, 5, 6, 7, 8, 9, 10, 11, 12, 13]) (by kernel_rfl) (by kernel_rfl) (by kernel_rfl) (by kernel_rfl) (by kernel_rfl) fun H0 hn0 hr0 => ?_
      refine KD.pv 1 (PV.move rfl) rfl rfl rfl (by kernel_rfl) rfl rfl rfl ?_
      refine KD.pv 3 (PV.move rfl) rfl rfl rfl (by kernel_rfl) rfl rfl rfl ?_
      refine KD.pv 7 (PV.lss rfl rfl) rfl rfl rfl (by kernel_rfl) rfl rfl rfl ?_
      rw [decide_eq_false e1]
      refine KD.pv 15 (PV.move rfl) rfl rfl rfl (by kernel_rfl) rfl rfl rfl ?_
      refine KD.skip 31 rfl rfl rfl (by kernel_rfl) rfl rfl rfl ?_
      refine KD.skip 63 rfl rfl rfl (by kernel_rfl) rfl rfl rfl ?_
      refine KD.skip 127 rfl rfl rfl (by kernel_rfl) rfl rfl rfl ?_
      refine KD.skip 255 rfl rfl rfl (by kernel_rfl) rfl rfl rfl ?_
      refine KD.skip 511 rfl rfl rfl (by kernel_rfl) rfl rfl rfl ?_
      refine KD.skip 1023 rfl rfl rfl (by kernel_rfl) rfl rfl rfl ?_
      refine KD.skip 2047 rfl rfl rfl (by kernel_rfl) rfl rfl rfl ?_
      refine KD.skip 4095 rfl rfl rfl (by kernel_rfl) rfl rfl rfl ?_
      refine KD.skip 8191 rfl rfl rfl (by kernel_rfl) rfl rfl rfl ?_
      refine KD.pv 16383 (PV.pickF rfl rfl rfl) rfl rfl rfl (by kernel_rfl) rfl rfl rfl ?_
      refine KD.nil ⟨rfl, ?_⟩
      have hFK : Frh A H0 := hFB.keep (by omega) fun j _ => hr0 j
      refine KC.cond rfl (fun hb => by cases hb) (fun _ => KC.skip ?_)
      refine KC.region ?_
      refine KO.pv (PV.add rfl rfl ((show _ = ((kk + 1 : Nat) : Int) from wrap64 (by omega) (by omega)))) rfl rfl ?_
      refine KO.pv (PV.move rfl) rfl rfl ?_
      refine KO.nil ?_
      exact ⟨k2 - 1, _, by omega, .cons rfl (.cons rfl (.cons rfl (.cons rfl (.cons rfl (.cons rfl .nil))))), kk + 1, best, by omega, hbest, rfl, hFK⟩
  clear hFB
  refine KC.seq (KC.seq (KC.region ?_))
  refine KO.pv (PV.move rfl) rfl rfl ?_
  refine KO.pv (PV.move rfl) rfl rfl ?_
  refine KO.pv (PV.eql rfl rfl) rfl rfl ?_
  refine KO.nil ?_
  refine KC.cond rfl (fun hb => ?_) (fun hb => KC.skip ?_)
  · refine KC.seq (KC.region ?_)
    refine KO.pv (PV.move rfl) rfl rfl ?_
    refine KO.pv (PV.move rfl) rfl rfl ?_
    refine KO.pv (PV.assign rfl) rfl rfl ?_
    refine KO.pv (PV.assign rfl) rfl rfl ?_
    refine KO.nil ?_
    exact KC.ret ⟨rfl, _, rfl, v0, rfl, h01, h02, hIB, hnB, hkB⟩
  have hne : ¬ (best : Int) = (i : Int) := by simpa using hb
  have hbest2 : i < best ∧ best < N := by omega
  obtain ⟨r, hr, hrw, hcc⟩ := hIB
  obtain ⟨u, hu, hu1, hu2⟩ := hcc i (by omega)
  obtain ⟨w, hw, hw1, hw2⟩ := hcc best (by omega)
  refine KC.seq ?_
  refine KC.draw (n := 16) (anc := [0, 0, 0, 0, 0, 0, 48, 112, 0, 0, 768, 1792, 4083, 8179, 16383, 32767]) (hv := [13, 15]) (ord := [0, 1, 4, 5, 6, 7, 8, 9, 10, 11, 12, 13, 2, 3, 14, 15]) (by kernel_rfl) (by kernel_rfl) (by kernel_rfl) (by kernel_rfl) (by kernel_rfl) fun H0 hn0 hr0 => ?_
  refine KD.pv 1 (PV.move rfl) rfl rfl rfl (by kernel_rfl) rfl rfl rfl ?_
  refine KD.pv 3 (PV.move rfl) rfl rfl rfl (by kernel_rfl) rfl rfl rfl ?_
  refine KD.pv 19 (PV.move rfl) rfl rfl rfl (by kernel_rfl) rfl rfl rfl ?_
  refine KD.pv 51 (PV.move rfl) rfl rfl rfl (by kernel_rfl) rfl rfl rfl ?_
  refine KD.pv 115 (PV.indexAddr un22 sz3 rfl rfl (hbest2.2)) rfl rfl rfl (by kernel_rfl) rfl rfl rfl ?_
  refine KD.load 243 rfl ((hr0 _ ▸ hr)) (by rw [read1 ag3]; exact (hw)) (past1 ⟨_, ((hr0 _ ▸ hr)), by rw [read1 ag3]; exact (hw)⟩) (veq_int) rfl (by kernel_rfl) rfl rfl rfl ?_
  refine KD.pv 499 (PV.move rfl) rfl rfl rfl (by kernel_rfl) rfl rfl rfl ?_
  refine KD.pv 1011 (PV.move rfl) rfl rfl rfl (by kernel_rfl) rfl rfl rfl ?_
  refine KD.pv 2035 (PV.indexAddr un22 sz3 rfl rfl ((show i < N by omega))) rfl rfl rfl (by kernel_rfl) rfl rfl rfl ?_
  refine KD.load 4083 rfl ((hr0 _ ▸ hr)) (by rw [read1 ag3]; exact (hu)) (past1 ⟨_, ((hr0 _ ▸ hr)), by rw [read1 ag3]; exact (hu)⟩) (veq_int) rfl (by kernel_rfl) rfl rfl rfl ?_
  refine KD.pv 8179 (PV.indexAddr un22 sz3 rfl rfl ((show i < N by omega))) rfl rfl rfl (by kernel_rfl) rfl rfl rfl ?_
  refine KD.store1 16371 sz3 rfl rfl (rfl) (((hr0 _).trans hr)) (hrw) ((lt_of_get hu)) rfl (by kernel_rfl) rfl rfl fun B1 x1 => ?_
  have hI1 := IL.put hcc x1 (show i < N by omega) hw1 hw2
  obtain ⟨r1, hr1, hrw1, hc1_⟩ := hI1
  rw [x1.row, if_pos rfl] at hr1
  cases hr1
  have hr1 : B1.row b = some ⟨r.elem, r.whole, true, putL r.cs (0 + i * 1) [.int .i64 w]⟩ := by rw [x1.row, if_pos rfl]
  obtain ⟨w3, hw3, hw4, hw5⟩ := hc1_ best (by omega)
  refine KD.pv 16375 (PV.move rfl) rfl rfl rfl (by kernel_rfl) rfl rfl rfl ?_
  refine KD.pv 16383 (PV.move rfl) rfl rfl rfl (by kernel_rfl) rfl rfl rfl ?_
  refine KD.pv 32767 (PV.indexAddr un22 sz3 rfl rfl (hbest2.2)) rfl rfl rfl (by kernel_rfl) rfl rfl rfl ?_
  refine KD.store1 65535 sz3 rfl rfl (rfl) (hr1) (rfl) ((lt_of_get hw3)) rfl (by kernel_rfl) rfl rfl fun B2 x2 => ?_
  refine KD.nil ⟨rfl, ?_⟩
  have hI2 := IL.put hc1_ x2 hbest2.2 hu1 hu2
  have y1 := x1.next
  have y2 := x2.next
  refine KC.region ?_
  refine KO.pv (PV.move rfl) rfl rfl ?_
  refine KO.pv (PV.assign rfl) rfl rfl ?_
  refine KO.nil ?_
  refine ⟨k - 1, _, by omega, .cons rfl (.cons rfl (.cons rfl (.cons rfl .nil))), best, .inr hbest2.2, by omega, rfl, hI2, by omega, fun j j1 j2 => ?_⟩
  rw [x2.row, if_neg j2, x1.row, if_neg j2, hr0]
  exact hkB j j1 j2

theorem de_Pop (H : AHeap) (a1 : Option Addr) (n1 c1 : Nat) (us : List Int) (h1 : VL H .i64 (.slice a1 n1 c1) us) : WF E0 80 [.slice a1 n1 c1] H fun q => ∃ z v e, q.1 = .tuple #[.int .i64 z, v, .int .i64 e] ∧ DeR H q.2 v := by
  obtain ⟨hl1, hc1, hm1, hw1⟩ := h1.len
  refine WF.k Tryz.func80 rfl rfl ?_
  refine KC.seq (KC.region ?_)
  refine KO.pv (PV.assign rfl) rfl rfl ?_
  refine KO.pv (PV.assign rfl) rfl rfl ?_
  refine KO.pv (PV.assign rfl) rfl rfl ?_
  refine KO.nil ?_
  refine KC.seq (KC.seq (KC.region ?_))
  refine KO.pv (PV.move rfl) rfl rfl ?_
  refine KO.call rfl rfl rfl rfl ((de_Check H a1 n1 c1 us h1)) fun v1 A q1 => ?_
  obtain ⟨hFA, e1, hv1, hok⟩ := q1
  dsimp only at hFA hv1
  subst hv1
  refine KO.pv (PV.assign rfl) rfl rfl ?_
  refine KO.nil ?_
  refine KC.seq (KC.region ?_)
  refine KO.pv (PV.move rfl) rfl rfl ?_
  refine KO.pv (PV.neq rfl rfl) rfl rfl ?_
  refine KO.nil ?_
  refine KC.cond rfl (fun hb => ?_) (fun hb => KC.skip ?_)
  · refine KC.seq (KC.region ?_)
    refine KO.pv (PV.move rfl) rfl rfl ?_
    refine KO.pv (PV.assign rfl) rfl rfl ?_
    refine KO.pv (PV.assign rfl) rfl rfl ?_
    refine KO.pv (PV.assign rfl) rfl rfl ?_
    refine KO.nil ?_
    exact KC.ret ⟨rfl, _, rfl, _, _, _, rfl, .nil hFA⟩
  obtain ⟨hk1, hk2⟩ := hok (by simpa using hb)
  refine KC.seq (KC.seq (KC.region ?_))
  refine KO.pv (PV.move rfl) rfl rfl ?_
  refine KO.pv (PV.len un22 rfl) rfl rfl ?_
  refine KO.pv (PV.eql rfl rfl) rfl rfl ?_
  refine KO.nil ?_
  refine KC.cond rfl (fun hb => ?_) (fun hb => KC.skip ?_)
  · refine KC.seq (KC.region ?_)
    refine KO.pv (PV.assign rfl) rfl rfl ?_
    refine KO.pv (PV.assign rfl) rfl rfl ?_
    refine KO.pv (PV.assign rfl) rfl rfl ?_
    refine KO.nil ?_
    exact KC.ret ⟨rfl, _, rfl, _, _, _, rfl, .nil hFA⟩
  have hn0 : n1 ≠ 0 := by
    have : ¬ (n1 : Int) = 0 := by simpa using hb
    omega
  refine KC.seq (KC.region ?_)
  refine KO.pv (PV.move rfl) rfl rfl ?_
  refine KO.call rfl rfl rfl rfl ((sl_Clone A a1 n1 c1 us (h1.frame hFA) (by omega))) fun v3 B q3 => ?_
  obtain ⟨D3, g3, f3, d3⟩ := q3
  dsimp only at g3 f3 d3
  have hne : us.map (Value.int .i64) ≠ [] := fun h => by have h2 := congrArg List.length h; simp only [List.length_map, List.length_nil] at h2; omega
  obtain ⟨b, hv3, hrb, rfl⟩ := g3.ne hne
  have hI := IL.of hrb hk2
  have hbr := d3 b (by simp)
  rw [hl1] at hI
  rw [List.length_map, hl1] at hv3
  subst hv3
  refine KO.call rfl rfl rfl rfl ((de_pop B b n1 n1 hI (by omega) (Nat.le_refl _) (by omega) hbr.2)) fun v4 C q4 => ?_
  obtain ⟨v, hv4, p1, p2, hIC, hnC, hkC⟩ := q4
  dsimp only at hv4 hIC hnC hkC
  subst hv4
  refine KO.pv (PV.move rfl) rfl rfl ?_
  refine KO.pv (PV.extract rfl rfl) rfl rfl ?_
  refine KO.pv (PV.extract rfl rfl) rfl rfl ?_
  refine KO.pv (PV.assign rfl) rfl rfl ?_
  refine KO.pv (PV.assign rfl) rfl rfl ?_
  refine KO.nil ?_
  refine KC.seq (KC.region ?_)
  refine KO.pv (PV.move rfl) rfl rfl ?_
  refine KO.pv (PV.move rfl) rfl rfl ?_
  refine KO.pv (PV.assign rfl) rfl rfl ?_
  refine KO.pv (PV.assign rfl) rfl rfl ?_
  refine KO.pv (PV.assign rfl) rfl rfl ?_
  refine KO.nil ?_
  obtain ⟨us', ho, hol⟩ := IL.ol (c := n1) (sp := some 1) hIC (by omega) (by omega)
  have hFC : Frh H C := ⟨by have := hFA.1; have := f3.1; omega, fun j hj => by
    have := hFA.1
    rw [hkC j (by have := f3.1; omega) (by omega)]
    exact (hFA.trans f3).2 j hj⟩
  exact KC.ret ⟨rfl, _, rfl, _, _, _, rfl, us', [b], ho, hFC, fun j hj => by simp only [List.mem_singleton] at hj; subst hj; have := hFA.1; show H.next ≤ j ∧ j < C.next; omega⟩

theorem de_Next (H : AHeap) (a0 : Option Addr) (n0 c0 : Nat) (hs : List Int) (h0 : VL H .i64 (.slice a0 n0 c0) hs) (vars : Int) (a1 a2 : Option Addr) (n1 c1 n2 c2 : Nat) (us ss : List Int) (h1 : VL H .i64 (.slice a1 n1 c1) us) (h2 : VL H .i64 (.slice a2 n2 c2) ss) : WF E0 83 [.slice a0 n0 c0, .agg #[.int .i64 vars, .slice a1 n1 c1, .slice a2 n2 c2]] H fun q => ∃ z v e, q.1 = .tuple #[.int .i64 z, v, .int .i64 e] ∧ DeR H q.2 v := by
  obtain ⟨hl0, hc0, hm0, hw0⟩ := h0.len
  obtain ⟨hl1, hc1, hm1, hw1⟩ := h1.len
  refine WF.k Tryz.func83 rfl rfl ?_
  refine KC.seq (KC.region ?_)
  refine KO.box (rfl) (rfl) rfl rfl fun G0 u0 => ?_
  refine KO.pv (PV.assign rfl) rfl rfl ?_
  refine KO.pv (PV.assign rfl) rfl rfl ?_
  refine KO.pv (PV.assign rfl) rfl rfl ?_
  refine KO.nil ?_
  have hX : G0.row H.next = some ⟨24, true, true, [.int .i64 vars, .slice a1 n1 c1, .slice a2 n2 c2]⟩ := by rw [u0.row, if_pos rfl]; rfl
  have hn0 := u0.next
  have hF0 : Frh H G0 := .new u0
  refine KC.seq (KC.seq (KC.region ?_))
  refine KO.pv (PV.move rfl) rfl rfl ?_
  refine KO.call rfl rfl rfl rfl ((de_Check G0 a0 n0 c0 hs (h0.frame hF0))) fun v1 A q1 => ?_
  obtain ⟨hFA, e1, hv1, hok⟩ := q1
  dsimp only at hFA hv1
  subst hv1
  refine KO.pv (PV.assign rfl) rfl rfl ?_
  refine KO.nil ?_
  have hFB := hF0.trans hFA
  have hXA := (hFA.2 H.next (by omega)).trans hX
  refine KC.seq (KC.region ?_)
  refine KO.pv (PV.move rfl) rfl rfl ?_
  refine KO.pv (PV.neq rfl rfl) rfl rfl ?_
  refine KO.nil ?_
  refine KC.cond rfl (fun hb => ?_) (fun hb => KC.skip ?_)
  · refine KC.seq (KC.region ?_)
    refine KO.pv (PV.move rfl) rfl rfl ?_
    refine KO.pv (PV.assign rfl) rfl rfl ?_
    refine KO.pv (PV.assign rfl) rfl rfl ?_
    refine KO.pv (PV.assign rfl) rfl rfl ?_
    refine KO.nil ?_
    exact KC.ret ⟨rfl, _, rfl, _, _, _, rfl, .nil hFB⟩
  obtain ⟨hk1, hk2⟩ := hok (by simpa using hb)
  have hAn : H.next < A.next := by have := hFA.1; omega
  clear hX hF0 hFA u0 hn0 hok
  refine KC.seq (KC.seq (KC.region ?_))
  refine KO.loadN ag24 sz24 rfl (hXA) (rfl) rfl rfl ?_
  refine KO.call rfl rfl rfl rfl ((as_Check A vars a1 a2 n1 c1 n2 c2 us ss (h1.frame hFB) (h2.frame hFB))) fun v2 B q2 => ?_
  obtain ⟨hFC, e2, hv2, hok2⟩ := q2
  dsimp only at hFC hv2
  subst hv2
  refine KO.pv (PV.assign rfl) rfl rfl ?_
  refine KO.nil ?_
  have hFD := hFB.trans hFC
  have hXB := (hFC.2 H.next (by omega)).trans hXA
  refine KC.seq (KC.region ?_)
  refine KO.pv (PV.move rfl) rfl rfl ?_
  refine KO.pv (PV.neq rfl rfl) rfl rfl ?_
  refine KO.nil ?_
  refine KC.cond rfl (fun hb => ?_) (fun hb => KC.skip ?_)
  · refine KC.seq (KC.region ?_)
    refine KO.pv (PV.move rfl) rfl rfl ?_
    refine KO.pv (PV.assign rfl) rfl rfl ?_
    refine KO.pv (PV.assign rfl) rfl rfl ?_
    refine KO.pv (PV.assign rfl) rfl rfl ?_
    refine KO.nil ?_
    exact KC.ret ⟨rfl, _, rfl, _, _, _, rfl, .nil hFD⟩
  obtain ⟨o1, o2, o3, o4⟩ := hok2 (by simpa using hb)
  have hBn : H.next < B.next := Nat.lt_of_lt_of_le hAn hFC.1
  obtain ⟨V, rfl⟩ := Int.eq_ofNat_of_zero_le o1
  clear hXA hFB hFC hok2 hAn
  refine KC.seq (KC.region ?_)
  refine KO.pv (PV.fieldAddr fo24_0 rfl) rfl rfl ?_
  refine KO.load1 ag3 rfl (hXB) (rfl) rfl rfl ?_
  refine KO.pv (PV.add rfl rfl ((show _ = ((V + 1 : Nat) : Int) from wrap64 (by omega) (by omega)))) rfl rfl ?_
  refine KO.makeSlice el50 ez4 sb4 (rfl) (rfl) ((Nat.le_refl _)) ((by omega)) rfl rfl fun C u1 => ?_
  refine KO.pv (PV.assign rfl) rfl rfl ?_
  refine KO.nil ?_
  have y1 := u1.next
  have hXC : C.row H.next = some ⟨24, true, true, [.int .i64 (V : Int), .slice a1 n1 c1, .slice a2 n2 c2]⟩ := by rw [u1.row, if_neg (by omega)]; exact hXB
  have hBC : BR 4 (V + 1) (C.row B.next) := by rw [u1.row, if_pos rfl]; exact BR.zero
  have hFC := hFD.trans (.new u1)
  refine KC.seq (KC.seq (KC.region ?_))
  refine KO.pv (PV.fieldAddr fo24_1 rfl) rfl rfl ?_
  refine KO.load1 ag22 rfl (hXC) (rfl) rfl rfl ?_
  refine KO.pv (PV.len un22 rfl) rfl rfl ?_
  refine KO.pv (PV.move rfl) rfl rfl ?_
  refine KO.nil ?_
  refine KC.sub (l' := [(0, .slice a0 n0 c0), (3, .pointer (some ⟨H.next, 0, none⟩)), (9, .slice (some ⟨B.next, 0, none⟩) (V + 1) (V + 1)), (29, .slice a1 n1 c1), (30, .int .i64 (n1 : Int)), (31, .int .i64 ((0 : Nat) : Int))]) (.cons rfl (.cons rfl (.cons rfl (.cons rfl (.cons rfl (.cons rfl .nil)))))) ?_
  refine KC.block (KC.loopN (fun k l D => ∃ i : Nat, i + k = n1 ∧ l = [(0, .slice a0 n0 c0), (3, .pointer (some ⟨H.next, 0, none⟩)), (9, .slice (some ⟨B.next, 0, none⟩) (V + 1) (V + 1)), (29, .slice a1 n1 c1), (30, .int .i64 (n1 : Int)), (31, .int .i64 (i : Int))] ∧ D.next = C.next ∧ Frh H D ∧ D.row H.next = some ⟨24, true, true, [.int .i64 (V : Int), .slice a1 n1 c1, .slice a2 n2 c2]⟩ ∧ BR 4 (V + 1) (D.row B.next)) ?_ n1 ⟨0, by omega, rfl, rfl, hFC, hXC, hBC⟩)
  clear hXB hXC hBC hFC hFD u1
  rintro k l D ⟨i, hik, rfl, hnD, hFD, hXD, hBD⟩
  refine KC.seq (KC.region ?_)
  refine KO.pv (PV.lss rfl rfl) rfl rfl ?_
  refine KO.nil ?_
  refine KC.seq (KC.cond rfl (fun hb => KC.skip ?_) (fun hb => KC.exit ?_))
  · have hi : i < n1 := by simpa using hb
    obtain ⟨b, off, sp, r, u, rfl, hbH, hr, hus, hcs, hwu⟩ := h1.at_ hi
    obtain ⟨m, rfl, hm2, hmV⟩ := o3 u (List.mem_of_getElem? hus)
    obtain ⟨w1, w2⟩ := range64 hwu
    refine KC.seq (KC.block (KC.seq (KC.region ?_)))
    refine KO.pv (PV.indexAddr un22 sz3 rfl rfl (hi)) rfl rfl ?_
    refine KO.load1 ag3 rfl (((hFD.2 b hbH).trans hr)) (hcs) rfl rfl ?_
    refine KO.pv (PV.assign rfl) rfl rfl ?_
    refine KO.nil ?_
    obtain ⟨cs, hrB, hcl, hcb⟩ := hBD
    have hmm : m / 2 < V + 1 := by omega
    refine KC.region ?_
    refine KO.pv (PV.move rfl) rfl rfl ?_
    refine KO.pv (PV.move rfl) rfl rfl ?_
    refine KO.pv (PV.quo rfl rfl (by decide) ((show _ = ((m / 2 : Nat) : Int) from wrap64 (by rw [tdiv2]; omega) (by rw [tdiv2]; omega)))) rfl rfl ?_
    refine KO.pv (PV.indexAddr un50 sz4 rfl rfl (hmm)) rfl rfl ?_
    refine KO.store1 sz4 rfl rfl (rfl) (hrB) (rfl) ((by rw [Nat.zero_add, Nat.mul_one]; show m / 2 < cs.length; omega)) rfl fun F x1 => ?_
    refine KO.nil ?_
    refine KC.region ?_
    refine KO.pv (PV.add rfl rfl ((show _ = ((i + 1 : Nat) : Int) from wrap64 (by omega) (by omega)))) rfl rfl ?_
    refine KO.pv (PV.move rfl) rfl rfl ?_
    refine KO.nil ?_
    refine ⟨k - 1, _, by omega, .cons rfl (.cons rfl (.cons rfl (.cons rfl (.cons rfl (.cons rfl .nil))))), i + 1, by omega, rfl, by rw [x1.next]; exact hnD, hFD.upd x1 (by omega), by rw [x1.row, if_neg (by omega)]; exact hXD, ?_⟩
    rw [x1.row, if_pos rfl]
    have := BR.put (⟨cs, rfl, hcl, hcb⟩ : BR 4 (V + 1) (some ⟨4, true, true, cs⟩)) hmm true
    rw [Nat.zero_add, Nat.mul_one]; exact this
  refine KC.seq (KC.region ?_)
  refine KO.pv (PV.move rfl) rfl rfl ?_
  refine KO.call rfl rfl rfl rfl ((sl_Clone D a0 n0 c0 hs (h0.frame hFD) (by omega))) fun v3 F q3 => ?_
  obtain ⟨D3, g3, f3, d3⟩ := q3
  dsimp only at g3 f3 d3
  refine KO.pv (PV.assign rfl) rfl rfl ?_
  refine KO.nil ?_
  have hFF := hFD.trans f3
  have hXF := (f3.2 H.next (by omega)).trans hXD
  have hBF : BR 4 (V + 1) (F.row B.next) := by rw [f3.2 B.next (by omega)]; exact hBD
  have hnF := f3.1
  obtain ⟨a3, n3, c3, rfl⟩ := g3.sl
  have hg : n3 = 0 ∨ ∃ b, a3 = some ⟨b, 0, some 1⟩ ∧ IL F b n3 ∧ D.next ≤ b ∧ b < F.next := by
    by_cases hne : hs = []
    · subst hne
      have := g3.len.1
      exact .inl (by simpa using this.symm)
    · obtain ⟨b, hv3, hrb, rfl⟩ := g3.ne (by simpa using hne)
      rw [List.length_map] at hv3
      cases hv3
      exact .inr ⟨b, rfl, IL.of hrb hk2, d3 b (by simp)⟩
  have hn3 : n3 = n0 ∧ n3 = c3 := by
    have := g3.len
    rw [List.length_map] at this
    omega
  obtain ⟨e3, rfl⟩ := hn3
  clear g3 d3 hBD hXD
  refine KC.seq ?_
  refine KC.sub (l' := [(3, .pointer (some ⟨H.next, 0, none⟩)), (9, .slice (some ⟨B.next, 0, none⟩) (V + 1) (V + 1)), (12, .slice a3 n3 n3)]) (.cons rfl (.cons rfl (.cons rfl .nil))) ?_
  have hn4 : n3 ≤ 4000 := by omega
  refine KC.block (KC.loopN (fun k l K => l = [(3, .pointer (some ⟨H.next, 0, none⟩)), (9, .slice (some ⟨B.next, 0, none⟩) (V + 1) (V + 1)), (12, .slice a3 k n3)] ∧ k ≤ n3 ∧ F.next ≤ K.next ∧ Frh H K ∧ K.row H.next = some ⟨24, true, true, [.int .i64 (V : Int), .slice a1 n1 c1, .slice a2 n2 c2]⟩ ∧ BR 4 (V + 1) (K.row B.next) ∧ (k = 0 ∨ ∃ b, a3 = some ⟨b, 0, some 1⟩ ∧ IL K b k ∧ D.next ≤ b ∧ b < F.next)) ?_ n3 ⟨rfl, Nat.le_refl _, Nat.le_refl _, hFF, hXF, hBF, hg⟩)
  clear hFF hXF hBF hg
  rintro k l K ⟨rfl, hkn, hnK, hFK, hXK, hBK, hgK⟩
  refine KC.seq (KC.seq (KC.region ?_))
  refine KO.pv (PV.move rfl) rfl rfl ?_
  refine KO.pv (PV.len un22 rfl) rfl rfl ?_
  refine KO.pv (PV.gtr rfl rfl) rfl rfl ?_
  refine KO.nil ?_
  refine KC.cond rfl (fun hb => KC.skip ?_) (fun hb => KC.exit ?_)
  rotate_left
  · refine KC.seq (KC.region ?_)
    refine KO.pv (PV.assign rfl) rfl rfl ?_
    refine KO.pv (PV.assign rfl) rfl rfl ?_
    refine KO.pv (PV.assign rfl) rfl rfl ?_
    refine KO.nil ?_
    exact KC.ret ⟨rfl, _, rfl, _, _, _, rfl, .nil hFK⟩
  have hk0 : 0 < k := by
    have : (0 : Int) < (k : Int) := by simpa using hb
    omega
  obtain ⟨b, rfl, hIK, hb1, hb2⟩ := hgK.resolve_left (by omega)
  refine KC.block (KC.seq (KC.region ?_))
  refine KO.pv (PV.assign rfl) rfl rfl ?_
  refine KO.nil ?_
  refine KC.seq (KC.region ?_)
  refine KO.pv (PV.move rfl) rfl rfl ?_
  refine KO.call rfl rfl rfl rfl ((de_pop K b k n3 hIK hk0 hkn (by omega) (by omega))) fun v4 M q4 => ?_
  obtain ⟨v, hv4, p1, p2, hIM, hnM, hkM⟩ := q4
  dsimp only at hv4 hIM hnM hkM
  subst hv4
  refine KO.pv (PV.move rfl) rfl rfl ?_
  refine KO.pv (PV.extract rfl rfl) rfl rfl ?_
  refine KO.pv (PV.extract rfl rfl) rfl rfl ?_
  refine KO.pv (PV.assign rfl) rfl rfl ?_
  refine KO.pv (PV.assign rfl) rfl rfl ?_
  refine KO.nil ?_
  obtain ⟨vn, rfl⟩ := Int.eq_ofNat_of_zero_le (show 0 ≤ v by omega)
  have hXM := (hkM H.next (by omega) (by omega)).trans hXK
  have hBM : BR 4 (V + 1) (M.row B.next) := by rw [hkM B.next (by omega) (by omega)]; exact hBK
  have hFM : Frh H M := ⟨by have := hFK.1; omega, fun j hj => by rw [hkM j (by have := hFK.1; omega) (by omega)]; exact hFK.2 j hj⟩
  have next : F.next ≤ M.next := by omega
  refine KC.seq (KC.region ?_)
  by_cases e1 : (V : Int) < (vn : Int)
  · refine KO.pv (PV.move rfl) rfl rfl ?_
    refine KO.pv (PV.fieldAddr fo24_0 rfl) rfl rfl ?_
    refine KO.load1 ag3 rfl (hXM) (rfl) rfl rfl ?_
    refine KO.pv (PV.leq rfl rfl) rfl rfl ?_
    rw [decide_eq_true e1, Bool.not_true]
    refine KO.pv (PV.move rfl) rfl rfl ?_
    refine KO.no rfl rfl rfl ?_
    refine KO.no rfl rfl rfl ?_
    refine KO.no rfl rfl rfl ?_
    refine KO.no rfl rfl rfl ?_
    refine KO.no rfl rfl rfl ?_
    refine KO.pv (PV.pickF rfl rfl rfl) rfl rfl ?_
    refine KO.nil ?_
    refine KC.cond rfl (fun hb => by cases hb) (fun _ => KC.skip ?_)
    exact ⟨k - 1, _, by omega, .cons rfl (.cons rfl (.cons rfl .nil)), rfl, by omega, next, hFM, hXM, hBM, .inr ⟨b, rfl, hIM, hb1, hb2⟩⟩
  · obtain ⟨cs, hrB, hcl, hcb⟩ := hBM
    obtain ⟨xb, hxb⟩ := hcb vn (by omega)
    have hxb' : cs[0 + vn * 1]? = some (.bool xb) := by rw [Nat.zero_add, Nat.mul_one]; exact hxb
    refine KO.pv (PV.move rfl) rfl rfl ?_
    refine KO.pv (PV.fieldAddr fo24_0 rfl) rfl rfl ?_
    refine KO.load1 ag3 rfl (hXM) (rfl) rfl rfl ?_
    refine KO.pv (PV.leq rfl rfl) rfl rfl ?_
    rw [decide_eq_false e1, Bool.not_false]
    refine KO.pv (PV.move rfl) rfl rfl ?_
    refine KO.pv (PV.move rfl) rfl rfl ?_
    refine KO.pv (PV.move rfl) rfl rfl ?_
    refine KO.pv (PV.indexAddr un50 sz4 rfl rfl ((show vn < V + 1 by omega))) rfl rfl ?_
    refine KO.load1 ag4 rfl (hrB) (hxb') rfl rfl ?_
    refine KO.pv (PV.not rfl) rfl rfl ?_
    refine KO.pv (PV.pickT rfl rfl rfl) rfl rfl ?_
    refine KO.nil ?_
    refine KC.cond rfl (fun _ => ?_) (fun _ => KC.skip ?_)
    · refine KC.seq (KC.region ?_)
      refine KO.pv (PV.move rfl) rfl rfl ?_
      refine KO.pv (PV.move rfl) rfl rfl ?_
      refine KO.pv (PV.assign rfl) rfl rfl ?_
      refine KO.pv (PV.assign rfl) rfl rfl ?_
      refine KO.pv (PV.assign rfl) rfl rfl ?_
      refine KO.nil ?_
      obtain ⟨us', ho, hol⟩ := IL.ol (c := n3) (sp := some 1) hIM (by omega) (by omega)
      exact KC.ret ⟨rfl, _, rfl, _, _, _, rfl, us', [b], ho, hFM, fun j hj => by simp only [List.mem_singleton] at hj; subst hj; have := hFD.1; show H.next ≤ j ∧ j < M.next; omega⟩
    exact ⟨k - 1, _, by omega, .cons rfl (.cons rfl (.cons rfl .nil)), rfl, by omega, next, hFM, hXM, ⟨cs, hrB, hcl, hcb⟩, .inr ⟨b, rfl, hIM, hb1, hb2⟩⟩

abbrev ShSD : Sh := .fld 0 (.list 1 (.num .i64)) (.fld 1 (.num .i64) (.fld 2 ShA .nil))
theorem argSD {H : AHeap} {bx : Nat} {ns : List Int} {ss : List ByteArray} {D : List Nat} (h : Own H ⟨true, true⟩ ShSD bx ns ss D) (hns : ns.length ≤ 300000000) :
    ∃ r a0 n0 c0 X vars a1 n1 c1 a2 n2 c2 hs us st, H.row bx = some r ∧ r.cs[0 + 0]? = some (.slice a0 n0 c0) ∧ r.cs[0 + 1]? = some (.int .i64 X) ∧ takeN 3 (r.cs.drop (0 + 2)) = some [.int .i64 vars, .slice a1 n1 c1, .slice a2 n2 c2] ∧
      VL H .i64 (.slice a0 n0 c0) hs ∧ VL H .i64 (.slice a1 n1 c1) us ∧ VL H .i64 (.slice a2 n2 c2) st := by
  obtain ⟨r, hr, hw, hR⟩ := h.ex
  have hlD := h.lD
  obtain ⟨_, _, _, _, _, _, rh, hR, rfl, rfl, rfl⟩ := hR
  obtain ⟨_, _, _, _, _, _, rx, hR, rfl, rfl, rfl⟩ := hR
  obtain ⟨_, _, _, _, _, _, hA, hR, rfl, rfl, rfl⟩ := hR
  obtain ⟨_, _, _, _, _, _, r0, hA, rfl, rfl, rfl⟩ := hA
  obtain ⟨_, _, _, _, _, _, r1, hA, rfl, rfl, rfl⟩ := hA
  obtain ⟨_, _, _, _, _, _, r2, hA, rfl, rfl, rfl⟩ := hA
  simp only [List.length_append] at hns
  obtain ⟨vars, k0, wv⟩ := r0.numAt
  obtain ⟨v0, hs, kh, ⟨y0, a0, n0, c0, rfl, z0⟩, m0⟩ := list_VX rh rfl (fun j hj => hlD j (by simp [hj])) (by omega)
  obtain ⟨v1, us, k1, ⟨y1, a1, n1, c1, rfl, z1⟩, m1⟩ := list_VX r1 rfl (fun j hj => hlD j (by simp [hj])) (by omega)
  obtain ⟨v2, st, k2, ⟨y2, a2, n2, c2, rfl, z2⟩, m2⟩ := list_VX r2 rfl (fun j hj => hlD j (by simp [hj])) (by omega)
  obtain ⟨X, kx, wx⟩ := rx.numAt
  exact ⟨r, a0, n0, c0, X, vars, a1, n1, c1, a2, n2, c2, hs, us, st, hr, kh, kx, take3 k0 k1 k2, y0, y1, y2⟩

theorem call_73 : CallOK' E0 3 9 42 73 ShSD := by
  intro H bx ns ss D hO hl1 _
  obtain ⟨r, a0, n0, c0, X, vars, a1, n1, c1, a2, n2, c2, hs, us, st, hr, x0, x1, ht3, y0, y1, y2⟩ := argSD hO hl1
  refine WF.k Tryz.func73 rfl rfl ?_
  refine KC.seq (KC.region ?_)
  refine KO.pv (PV.assign rfl) rfl rfl ?_
  refine KO.nil ?_
  refine KC.seq (KC.region ?_)
  refine KO.pv (PV.move rfl) rfl rfl ?_
  refine KO.pv (PV.nilCheck rfl) rfl rfl ?_
  refine KO.pv (PV.fieldAddr fo102_0 rfl) rfl rfl ?_
  refine KO.load1 ag22 rfl (hr) (x0) rfl rfl ?_
  refine KO.call rfl rfl rfl rfl ((de_Check H a0 n0 c0 hs y0)) fun v8 A q8 => ?_
  refine KO.nil ?_
  refine KC.seq (KC.region ?_)
  refine KO.pv (PV.assign rfl) rfl rfl ?_
  refine KO.nil ?_
  exact KC.ret ⟨rfl, _, rfl, no_res q8.1⟩

theorem call_75 : CallOK' E0 3 9 42 75 ShSD := by
  intro H bx ns ss D hO hl1 _
  obtain ⟨r, a0, n0, c0, X, vars, a1, n1, c1, a2, n2, c2, hs, us, st, hr, x0, x1, ht3, y0, y1, y2⟩ := argSD hO hl1
  refine WF.k Tryz.func75 rfl rfl ?_
  refine KC.seq (KC.region ?_)
  refine KO.pv (PV.assign rfl) rfl rfl ?_
  refine KO.nil ?_
  refine KC.seq ?_
  refine KC.draw (n := 15) (anc := [0, 1, 3, 7, 0, 16, 48, 112, 255, 511, 1023, 1023, 0, 6143, 16383]) (hv := [8, 13]) (ord := [0, 1, 2, 3, 4, 5, 6, 7, 8, 9, 10, 12, 13, 11, 14]) (by kernel_rfl) (by kernel_rfl) (by kernel_rfl) (by kernel_rfl) (by kernel_rfl) fun H0 hn0 hr0 => ?_
  refine KD.pv 1 (PV.move rfl) rfl rfl rfl (by kernel_rfl) rfl rfl rfl ?_
  refine KD.pv 3 (PV.nilCheck rfl) rfl rfl rfl (by kernel_rfl) rfl rfl rfl ?_
  refine KD.pv 7 (PV.fieldAddr fo102_0 rfl) rfl rfl rfl (by kernel_rfl) rfl rfl rfl ?_
  refine KD.load 15 rfl ((hr0 _ ▸ hr)) (by rw [read1 ag22]; exact (x0)) (past1 ⟨_, ((hr0 _ ▸ hr)), by rw [read1 ag22]; exact (x0)⟩) (veq_sl) rfl (by kernel_rfl) rfl rfl rfl ?_
  refine KD.pv 31 (PV.move rfl) rfl rfl rfl (by kernel_rfl) rfl rfl rfl ?_
  refine KD.pv 63 (PV.nilCheck rfl) rfl rfl rfl (by kernel_rfl) rfl rfl rfl ?_
  refine KD.pv 127 (PV.fieldAddr fo102_1 rfl) rfl rfl rfl (by kernel_rfl) rfl rfl rfl ?_
  refine KD.load 255 rfl ((hr0 _ ▸ hr)) (by rw [read1 ag3]; exact (x1)) (past1 ⟨_, ((hr0 _ ▸ hr)), by rw [read1 ag3]; exact (x1)⟩) (veq_int) rfl (by kernel_rfl) rfl rfl rfl ?_
  have hF0 : Frh H H0 := ⟨by omega, fun j _ => hr0 j⟩
  refine KD.call 511 rfl rfl rfl (by kernel_rfl) rfl rfl rfl ((de_Push H0 a0 n0 c0 X hs (y0.frame hF0))) fun v8 A q8 => ?_
  obtain ⟨v, e, hv1, us1, D1, ho, f, d1⟩ := q8
  dsimp only at hv1 ho f d1
  subst hv1
  refine KD.pv 1023 (PV.move rfl) rfl rfl rfl (by kernel_rfl) rfl rfl rfl ?_
  refine KD.pv 2047 (PV.extract rfl rfl) rfl rfl rfl (by kernel_rfl) rfl rfl rfl ?_
  refine KD.alloc 6143 zt22 rfl (by kernel_rfl) rfl rfl rfl fun B u0 => ?_
  have hB : B.row (H.next + 12) = some ⟨22, true, true, [.slice none 0 0]⟩ := by rw [u0.row]; exact if_pos rfl
  refine KD.store1 14335 sz22 rfl rfl (ho.one) (hB) (rfl) ((Nat.lt_succ_self 0)) rfl (by kernel_rfl) rfl rfl fun C u1 => ?_
  refine KD.pv 16383 (PV.extract rfl rfl) rfl rfl rfl (by kernel_rfl) rfl rfl rfl ?_
  refine KD.pv 32767 (PV.assign rfl) rfl rfl rfl (by kernel_rfl) rfl rfl rfl ?_
  refine KD.nil ⟨rfl, ?_⟩
  refine KC.seq (KC.region ?_)
  refine KO.pv (PV.makeFunc rfl rfl) rfl rfl ?_
  refine KO.buildSlice el32 ez42 rfl rfl (rfl) rfl rfl fun G m1 => ?_
  refine KO.pv (PV.assign rfl) rfl rfl ?_
  refine KO.nil ?_
  have y0 := u0.next
  have y1 := u1.next
  have y2 := m1.next
  have hle := f.1
  have hHC : Frh H C := Frh.upd (Frh.upd (hF0.trans f) u0 (Nat.le_add_right _ _)) u1 (Nat.le_add_right _ _)
  have hst : ∀ j ∈ D1, G.row j = A.row j := fun j hj => by
    have := d1 j hj
    rw [m1.row, if_neg (by omega), u1.row, if_neg (show j ≠ H.next + 12 by omega), u0.row, if_neg (show j ≠ H.next + 12 by omega)]
  have hba : G.row (H.next + 12) = some ⟨22, true, true, [v]⟩ := by rw [m1.row, if_neg (by omega), u1.row]; exact if_pos rfl
  obtain ⟨nsR, hown, hnR⟩ := ho.own hst hba (fun h => by have := d1 _ h; omega) (by omega) (fun j hj => by have := d1 j hj; omega)
  exact KC.ret ⟨rfl, _, rfl, one_res rfl (see_77 9) hown (by omega) (fun j hj => by have := d1 j hj; omega) (by rw [m1.row, if_pos rfl]; rfl) (by omega) (by show C.next < G.next; omega) (by omega) (fun hj => by have := d1 _ hj; omega) (by omega) (by simp) (hHC.trans (.new m1))⟩

theorem call_79 : CallOK' E0 3 9 42 79 ShSD := by
  intro H bx ns ss D hO hl1 _
  obtain ⟨r, a0, n0, c0, X, vars, a1, n1, c1, a2, n2, c2, hs, us, st, hr, x0, x1, ht3, y0, y1, y2⟩ := argSD hO hl1
  refine WF.k Tryz.func79 rfl rfl ?_
  refine KC.seq (KC.region ?_)
  refine KO.pv (PV.assign rfl) rfl rfl ?_
  refine KO.nil ?_
  refine KC.seq (KC.region ?_)
  refine KO.pv (PV.move rfl) rfl rfl ?_
  refine KO.pv (PV.nilCheck rfl) rfl rfl ?_
  refine KO.pv (PV.fieldAddr fo102_0 rfl) rfl rfl ?_
  refine KO.load1 ag22 rfl (hr) (x0) rfl rfl ?_
  refine KO.call rfl rfl rfl rfl ((de_Pop H a0 n0 c0 hs y0)) fun v8 A q8 => ?_
  obtain ⟨z, v, e, hv1, us1, D1, ho, f, d1⟩ := q8
  dsimp only at hv1 ho f d1
  subst hv1
  refine KO.pv (PV.move rfl) rfl rfl ?_
  refine KO.pv (PV.extract rfl rfl) rfl rfl ?_
  refine KO.pv (PV.extract rfl rfl) rfl rfl ?_
  refine KO.pv (PV.extract rfl rfl) rfl rfl ?_
  refine KO.alloc zt22 rfl rfl fun B u0 => ?_
  have hB : B.row A.next = some ⟨22, true, true, [.slice none 0 0]⟩ := by rw [u0.row, if_pos rfl]
  refine KO.pv (PV.assign rfl) rfl rfl ?_
  refine KO.store1 sz22 rfl rfl (ho.one) (hB) (rfl) ((Nat.lt_succ_self 0)) rfl fun C u1 => ?_
  refine KO.pv (PV.assign rfl) rfl rfl ?_
  refine KO.nil ?_
  refine KC.seq (KC.region ?_)
  refine KO.pv (PV.makeFunc rfl rfl) rfl rfl ?_
  refine KO.buildSlice el32 ez42 rfl rfl (rfl) rfl rfl fun G m1 => ?_
  refine KO.pv (PV.assign rfl) rfl rfl ?_
  refine KO.nil ?_
  have y0 := u0.next
  have y1 := u1.next
  have y2 := m1.next
  have hle := f.1
  have hHC : Frh H C := Frh.upd (f.trans (.new u0)) u1 hle
  have hst : ∀ j ∈ D1, G.row j = A.row j := fun j hj => by
    have := d1 j hj
    rw [m1.row, if_neg (by omega), u1.row, if_neg (by omega), u0.row, if_neg (by omega)]
  have hba : G.row A.next = some ⟨22, true, true, [v]⟩ := by rw [m1.row, if_neg (by omega), u1.row]; exact if_pos rfl
  obtain ⟨nsR, hown, hnR⟩ := ho.own hst hba (fun h => by have := d1 _ h; omega) (by omega) (fun j hj => by have := d1 j hj; omega)
  exact KC.ret ⟨rfl, _, rfl, one_res rfl (see_81 9) hown (by omega) (fun j hj => by have := d1 j hj; omega) (by rw [m1.row, if_pos rfl]; rfl) (by omega) (by show C.next < G.next; omega) (by omega) (fun hj => by have := d1 _ hj; omega) (by omega) (by simp) (hHC.trans (.new m1))⟩

theorem call_82 : CallOK' E0 3 9 42 82 ShSD := by
  intro H bx ns ss D hO hl1 _
  obtain ⟨r, a0, n0, c0, X, vars, a1, n1, c1, a2, n2, c2, hs, us, st, hr, x0, x1, ht3, y0, y1, y2⟩ := argSD hO hl1
  refine WF.k Tryz.func82 rfl rfl ?_
  refine KC.seq (KC.region ?_)
  refine KO.pv (PV.assign rfl) rfl rfl ?_
  refine KO.nil ?_
  refine KC.seq ?_
  refine KC.draw (n := 17) (anc := [0, 1, 3, 7, 0, 16, 48, 112, 255, 511, 1023, 1023, 1023, 0, 10239, 28671, 65535]) (hv := [8, 15]) (ord := [0, 1, 2, 3, 4, 5, 6, 7, 8, 9, 10, 11, 13, 14, 15, 12, 16]) (by kernel_rfl) (by kernel_rfl) (by kernel_rfl) (by kernel_rfl) (by kernel_rfl) fun H0 hn0 hr0 => ?_
  refine KD.pv 1 (PV.move rfl) rfl rfl rfl (by kernel_rfl) rfl rfl rfl ?_
  refine KD.pv 3 (PV.nilCheck rfl) rfl rfl rfl (by kernel_rfl) rfl rfl rfl ?_
  refine KD.pv 7 (PV.fieldAddr fo102_0 rfl) rfl rfl rfl (by kernel_rfl) rfl rfl rfl ?_
  refine KD.load 15 rfl ((hr0 _ ▸ hr)) (by rw [read1 ag22]; exact (x0)) (past1 ⟨_, ((hr0 _ ▸ hr)), by rw [read1 ag22]; exact (x0)⟩) (veq_sl) rfl (by kernel_rfl) rfl rfl rfl ?_
  refine KD.pv 31 (PV.move rfl) rfl rfl rfl (by kernel_rfl) rfl rfl rfl ?_
  refine KD.pv 63 (PV.nilCheck rfl) rfl rfl rfl (by kernel_rfl) rfl rfl rfl ?_
  refine KD.pv 127 (PV.fieldAddr fo102_2 rfl) rfl rfl rfl (by kernel_rfl) rfl rfl rfl ?_
  refine KD.load 255 rfl ((hr0 _ ▸ hr)) (readN ag24 sz24 (ht3)) (past1 ⟨_, ((hr0 _ ▸ hr)), readN ag24 sz24 (ht3)⟩) (veq_as) rfl (by kernel_rfl) rfl rfl rfl ?_
  have hF0 : Frh H H0 := ⟨by omega, fun j _ => hr0 j⟩
  refine KD.call 511 rfl rfl rfl (by kernel_rfl) rfl rfl rfl ((de_Next H0 a0 n0 c0 hs (y0.frame hF0) vars a1 a2 n1 c1 n2 c2 us st (y1.frame hF0) (y2.frame hF0))) fun v8 A q8 => ?_
  obtain ⟨z, v, e, hv1, us1, D1, ho, f, d1⟩ := q8
  dsimp only at hv1 ho f d1
  subst hv1
  refine KD.pv 1023 (PV.move rfl) rfl rfl rfl (by kernel_rfl) rfl rfl rfl ?_
  refine KD.pv 2047 (PV.extract rfl rfl) rfl rfl rfl (by kernel_rfl) rfl rfl rfl ?_
  refine KD.pv 4095 (PV.extract rfl rfl) rfl rfl rfl (by kernel_rfl) rfl rfl rfl ?_
  refine KD.alloc 12287 zt22 rfl (by kernel_rfl) rfl rfl rfl fun B u0 => ?_
  have hB : B.row (H.next + 13) = some ⟨22, true, true, [.slice none 0 0]⟩ := by rw [u0.row]; exact if_pos rfl
  refine KD.pv 28671 (PV.assign rfl) rfl rfl rfl (by kernel_rfl) rfl rfl rfl ?_
  refine KD.store1 61439 sz22 rfl rfl (ho.one) (hB) (rfl) ((Nat.lt_succ_self 0)) rfl (by kernel_rfl) rfl rfl fun C u1 => ?_
  refine KD.pv 65535 (PV.extract rfl rfl) rfl rfl rfl (by kernel_rfl) rfl rfl rfl ?_
  refine KD.pv 131071 (PV.assign rfl) rfl rfl rfl (by kernel_rfl) rfl rfl rfl ?_
  refine KD.nil ⟨rfl, ?_⟩
  refine KC.seq (KC.region ?_)
  refine KO.pv (PV.makeFunc rfl rfl) rfl rfl ?_
  refine KO.buildSlice el32 ez42 rfl rfl (rfl) rfl rfl fun G m1 => ?_
  refine KO.pv (PV.assign rfl) rfl rfl ?_
  refine KO.nil ?_
  have y0 := u0.next
  have y1 := u1.next
  have y2 := m1.next
  have hle := f.1
  have hHC : Frh H C := Frh.upd (Frh.upd (hF0.trans f) u0 (Nat.le_add_right _ _)) u1 (Nat.le_add_right _ _)
  have hst : ∀ j ∈ D1, G.row j = A.row j := fun j hj => by
    have := d1 j hj
    rw [m1.row, if_neg (by omega), u1.row, if_neg (show j ≠ H.next + 13 by omega), u0.row, if_neg (show j ≠ H.next + 13 by omega)]
  have hba : G.row (H.next + 13) = some ⟨22, true, true, [v]⟩ := by rw [m1.row, if_neg (by omega), u1.row]; exact if_pos rfl
  obtain ⟨nsR, hown, hnR⟩ := ho.own hst hba (fun h => by have := d1 _ h; omega) (by omega) (fun j hj => by have := d1 j hj; omega)
  exact KC.ret ⟨rfl, _, rfl, one_res rfl (see_84 9) hown (by omega) (fun j hj => by have := d1 j hj; omega) (by rw [m1.row, if_pos rfl]; rfl) (by omega) (by show C.next < G.next; omega) (by omega) (fun hj => by have := d1 _ hj; omega) (by omega) (by simp) (hHC.trans (.new m1))⟩

end Go.Eng

namespace Go.Eng
open Go Go.Proofs
theorem top_7 (w : Bool) (hwS : Sh.bools (.fld 0 (.list 1 (.num .i64)) (.fld 1 (.num .i64) (.fld 2 (.fld 0 (.num .i64) (.fld 1 (.list 1 (.num .i64)) (.fld 2 (.list 1 (.num .i64)) .nil))) .nil))) = true → w = true) (H : AHeap) (cs : List Value) (ns : List Int) (ss : List ByteArray) (D : List Nat) (hcl : cs.length = 5) (hone : cs.all oneC = true) (hR : Rd H ⟨false, w⟩ (.fld 0 (.list 1 (.num .i64)) (.fld 1 (.num .i64) (.fld 2 (.fld 0 (.num .i64) (.fld 1 (.list 1 (.num .i64)) (.fld 2 (.list 1 (.num .i64)) .nil))) .nil))) cs 0 ns ss D) (hD : ∀ j ∈ D, j < H.next) (l1 : ns.length ≤ 10000000) (l2 : ss.length ≤ 10000000) :
    WF E0 7 [.agg cs.toArray] H fun q => q.1 = .bool true := by
  have hcalls : ∀ f ∈ ([73, 75, 79, 82] : List FuncId), CallOK' E0 3 9 42 f (.fld 0 (.list 1 (.num .i64)) (.fld 1 (.num .i64) (.fld 2 (.fld 0 (.num .i64) (.fld 1 (.list 1 (.num .i64)) (.fld 2 (.list 1 (.num .i64)) .nil))) .nil))) ∧ E0.ext f = none := by
    intro f hf
    simp only [List.mem_cons, List.not_mem_nil, or_false] at hf
    rcases hf with rfl | rfl | rfl | rfl
    · exact ⟨call_73, rfl⟩
    · exact ⟨call_75, rfl⟩
    · exact ⟨call_79, rfl⟩
    · exact ⟨call_82, rfl⟩
  refine WF.k Tryz.func7 rfl rfl ?_
  refine KC.seq (KC.region ?_)
  refine KO.box (rfl) ((boxAgg hone)) rfl rfl fun G0 u0 => ?_
  refine KO.pv (PV.assign rfl) rfl rfl ?_
  refine KO.nil ?_
  rw [show cellsV (.agg cs.toArray) = cs by simp [cellsV]] at u0
  have hX : G0.row H.next = some ⟨102, true, true, cs⟩ := by rw [u0.row, if_pos rfl]
  have hn0 := u0.next
  refine KC.seq (KC.region ?_)
  refine KO.loadN ag102 sz102 rfl (hX) ((takeN_of (p := cs) (by rw [List.drop_zero, ← hcl, List.take_length]) hcl)) rfl rfl ?_
  refine KO.buildSlice el116 ez108 rfl rfl (rfl) rfl rfl fun G1 u1 => ?_
  refine KO.call rfl rfl rfl rfl (apart_70 (own := 71) (see := 72) (calls := [73, 75, 79, 82]) own_71 (see_72 9) hcalls rfl rfl (by decide) G1 cs ns ss D hcl hone w hwS (hR.frame fun j hj => by have := hD j hj; rw [u1.row, if_neg (by omega), u0.row, if_neg (by omega)]) (fun j hj => by have := hD j hj; rw [u1.next]; omega) l1 l2 G0.next (by rw [u1.row, if_pos rfl]; rfl) (by rw [u1.next]; omega)) fun v2 G2 q2 => ?_
  dsimp only at q2
  subst q2
  refine KO.pv (PV.move rfl) rfl rfl ?_
  refine KO.call rfl rfl rfl rfl (WF.sum (Q := fun q => q.1 = .bool true) rfl rfl) fun v3 G3 q3 => ?_
  dsimp only at q3
  subst q3
  refine KO.pv (PV.pickT rfl rfl rfl) rfl rfl ?_
  refine KO.pv (PV.assign rfl) rfl rfl ?_
  refine KO.nil ?_
  exact KC.ret ⟨rfl, _, rfl, rfl⟩

end Go.Eng
