/- TopSharedAssign answers true on the interpreter. Conditions: none beyond each theorem's own. -/
import Derived.Test.YtphehedgnhmahaaGreatDoorAssignA
import Derived.Test.YtphehedgnhmahaaGreatDoorKnC
import Derived.KernelRfl
namespace Go.Eng
open Go Go.Proofs
theorem as_known (H : AHeap) (vars l : Int) (hl : IntKind.i64.wrap l = l) : WF E0 135 [.int .i64 vars, .int .i64 l] H fun q => q.2 = H ∧ ∃ b : Bool, q.1 = .bool b ∧ (b = true → ∃ n : Nat, l = n ∧ 2 ≤ n ∧ ((n / 2 : Nat) : Int) ≤ vars) := by
  obtain ⟨r1, r2⟩ := range64 hl
  refine WF.k Tryz.func135 rfl rfl ?_
  refine KC.seq (KC.region ?_)
  refine KO.pv (PV.assign rfl) rfl rfl ?_
  refine KO.nil ?_
  refine KC.seq (KC.region ?_)
  by_cases c1 : l < 2
  · refine KO.pv (PV.move rfl) rfl rfl ?_
    refine KO.pv (PV.geq rfl rfl) rfl rfl ?_
    rw [decide_eq_true c1, Bool.not_true]
    refine KO.pv (PV.move rfl) rfl rfl ?_
    refine KO.no rfl rfl rfl ?_
    refine KO.no rfl rfl rfl ?_
    refine KO.no rfl rfl rfl ?_
    refine KO.no rfl rfl rfl ?_
    refine KO.pv (PV.pickF rfl rfl rfl) rfl rfl ?_
    refine KO.pv (PV.assign rfl) rfl rfl ?_
    refine KO.nil ?_
    exact KC.ret ⟨rfl, _, rfl, rfl, _, rfl, fun h => by cases h⟩
  · obtain ⟨n, rfl⟩ := Int.eq_ofNat_of_zero_le (show 0 ≤ l by omega)
    refine KO.pv (PV.move rfl) rfl rfl ?_
    refine KO.pv (PV.geq rfl rfl) rfl rfl ?_
    rw [decide_eq_false c1, Bool.not_false]
    refine KO.pv (PV.move rfl) rfl rfl ?_
    refine KO.pv (PV.move rfl) rfl rfl ?_
    refine KO.pv (PV.quo rfl rfl (by decide) ((show _ = ((n / 2 : Nat) : Int) from wrap64 (by rw [tdiv2]; omega) (by rw [tdiv2]; omega)))) rfl rfl ?_
    refine KO.pv (PV.move rfl) rfl rfl ?_
    refine KO.pv (PV.leq rfl rfl) rfl rfl ?_
    refine KO.pv (PV.pickT rfl rfl rfl) rfl rfl ?_
    refine KO.pv (PV.assign rfl) rfl rfl ?_
    refine KO.nil ?_
    exact KC.ret ⟨rfl, _, rfl, rfl, _, rfl, fun h => ⟨n, rfl, by omega, by simpa using h⟩⟩

/-- What a passed check tells of an assignment. -/
def AsOK (vars : Int) (us ss : List Int) : Prop :=
  0 ≤ vars ∧ vars ≤ 4000 ∧ (∀ l ∈ us, ∃ n : Nat, l = n ∧ 2 ≤ n ∧ ((n / 2 : Nat) : Int) ≤ vars) ∧ ∀ s ∈ ss, 0 ≤ s ∧ s < us.length

theorem as_Check (H : AHeap) (vars : Int) (a1 a2 : Option Addr) (n1 c1 n2 c2 : Nat) (us ss : List Int) (h1 : VL H .i64 (.slice a1 n1 c1) us) (h2 : VL H .i64 (.slice a2 n2 c2) ss) : WF E0 53 [.agg #[.int .i64 vars, .slice a1 n1 c1, .slice a2 n2 c2]] H fun q => Frh H q.2 ∧ ∃ e : Int, q.1 = .int .i64 e ∧ (e = 0 → AsOK vars us ss) := by
  obtain ⟨hl1, hc1, hm1, hw1⟩ := h1.len
  obtain ⟨hl2, hc2, hm2, hw2⟩ := h2.len
  refine WF.k Tryz.func53 rfl rfl ?_
  refine KC.seq (KC.region ?_)
  refine KO.box (rfl) (rfl) rfl rfl fun G0 u0 => ?_
  refine KO.pv (PV.assign rfl) rfl rfl ?_
  refine KO.nil ?_
  have hX : G0.row H.next = some ⟨24, true, true, [.int .i64 vars, .slice a1 n1 c1, .slice a2 n2 c2]⟩ := by rw [u0.row, if_pos rfl]; rfl
  have hn0 := u0.next
  have hF0 : Frh H G0 := .new u0
  refine KC.seq (KC.seq (KC.region ?_))
  by_cases d1 : vars < 0
  · refine KO.pv (PV.fieldAddr fo24_0 rfl) rfl rfl ?_
    refine KO.load1 ag3 rfl (hX) (rfl) rfl rfl ?_
    refine KO.pv (PV.lss rfl rfl) rfl rfl ?_
    rw [decide_eq_true d1]
    refine KO.pv (PV.move rfl) rfl rfl ?_
    refine KO.no rfl rfl rfl ?_
    refine KO.no rfl rfl rfl ?_
    refine KO.no rfl rfl rfl ?_
    refine KO.pv (PV.pickT rfl rfl rfl) rfl rfl ?_
    refine KO.nil ?_
    refine KC.cond rfl (fun _ => ?_) (fun hb => by cases hb)
    refine KC.seq (KC.region ?_)
    refine KO.pv (PV.assign rfl) rfl rfl ?_
    refine KO.nil ?_
    exact KC.ret ⟨rfl, _, rfl, hF0, _, rfl, fun h => by cases h⟩
  by_cases d2 : 4000 < vars
  · refine KO.pv (PV.fieldAddr fo24_0 rfl) rfl rfl ?_
    refine KO.load1 ag3 rfl (hX) (rfl) rfl rfl ?_
    refine KO.pv (PV.lss rfl rfl) rfl rfl ?_
    rw [decide_eq_false d1]
    refine KO.pv (PV.move rfl) rfl rfl ?_
    refine KO.pv (PV.fieldAddr fo24_0 rfl) rfl rfl ?_
    refine KO.load1 ag3 rfl (hX) (rfl) rfl rfl ?_
    refine KO.pv (PV.gtr rfl rfl) rfl rfl ?_
    rw [decide_eq_true d2]
    refine KO.pv (PV.pickF rfl rfl rfl) rfl rfl ?_
    refine KO.nil ?_
    refine KC.cond rfl (fun _ => ?_) (fun hb => by cases hb)
    refine KC.seq (KC.region ?_)
    refine KO.pv (PV.assign rfl) rfl rfl ?_
    refine KO.nil ?_
    exact KC.ret ⟨rfl, _, rfl, hF0, _, rfl, fun h => by cases h⟩
  refine KO.pv (PV.fieldAddr fo24_0 rfl) rfl rfl ?_
  refine KO.load1 ag3 rfl (hX) (rfl) rfl rfl ?_
  refine KO.pv (PV.lss rfl rfl) rfl rfl ?_
  rw [decide_eq_false d1]
  refine KO.pv (PV.move rfl) rfl rfl ?_
  refine KO.pv (PV.fieldAddr fo24_0 rfl) rfl rfl ?_
  refine KO.load1 ag3 rfl (hX) (rfl) rfl rfl ?_
  refine KO.pv (PV.gtr rfl rfl) rfl rfl ?_
  rw [decide_eq_false d2]
  refine KO.pv (PV.pickF rfl rfl rfl) rfl rfl ?_
  refine KO.nil ?_
  refine KC.cond rfl (fun hb => by cases hb) (fun _ => KC.skip ?_)
  obtain ⟨V, rfl⟩ := Int.eq_ofNat_of_zero_le (show 0 ≤ vars by omega)
  refine KC.seq (KC.region ?_)
  refine KO.pv (PV.fieldAddr fo24_0 rfl) rfl rfl ?_
  refine KO.load1 ag3 rfl (hX) (rfl) rfl rfl ?_
  refine KO.pv (PV.add rfl rfl ((show _ = ((V + 1 : Nat) : Int) from wrap64 (by omega) (by omega)))) rfl rfl ?_
  refine KO.makeSlice el50 ez4 sb4 (rfl) (rfl) ((Nat.le_refl _)) ((by omega)) rfl rfl fun G1 u1 => ?_
  refine KO.pv (PV.assign rfl) rfl rfl ?_
  refine KO.nil ?_
  have hn1 := u1.next
  have hX1 : G1.row H.next = some ⟨24, true, true, [.int .i64 (V : Int), .slice a1 n1 c1, .slice a2 n2 c2]⟩ := by rw [u1.row, if_neg (by omega)]; exact hX
  have hB1 : BR 4 (V + 1) (G1.row (H.next + 1)) := by rw [u1.row, if_pos hn0.symm]; exact BR.zero
  have hF1 : Frh H G1 := hF0.trans (.new u1)
  rw [hn0]
  refine KC.seq (KC.seq (KC.region ?_))
  refine KO.pv (PV.fieldAddr fo24_1 rfl) rfl rfl ?_
  refine KO.load1 ag22 rfl (hX1) (rfl) rfl rfl ?_
  refine KO.pv (PV.len un22 rfl) rfl rfl ?_
  refine KO.pv (PV.move rfl) rfl rfl ?_
  refine KO.nil ?_
  refine KC.sub (l' := [(1, .pointer (some ⟨H.next, 0, none⟩)), (3, .slice (some ⟨H.next + 1, 0, none⟩) (V + 1) (V + 1)), (21, .slice a1 n1 c1), (22, .int .i64 (n1 : Int)), (23, .int .i64 ((0 : Nat) : Int))]) (.cons rfl (.cons rfl (.cons rfl (.cons rfl (.cons rfl .nil))))) ?_
  refine KC.block (KC.loopN (fun k l A => ∃ i : Nat, i + k = n1 ∧ l = [(1, .pointer (some ⟨H.next, 0, none⟩)), (3, .slice (some ⟨H.next + 1, 0, none⟩) (V + 1) (V + 1)), (21, .slice a1 n1 c1), (22, .int .i64 (n1 : Int)), (23, .int .i64 (i : Int))] ∧ A.next = H.next + 2 ∧ Frh H A ∧ A.row H.next = some ⟨24, true, true, [.int .i64 (V : Int), .slice a1 n1 c1, .slice a2 n2 c2]⟩ ∧ BR 4 (V + 1) (A.row (H.next + 1)) ∧
    ∀ j, j < i → ∀ u, us[j]? = some u → ∃ n : Nat, u = n ∧ 2 ≤ n ∧ ((n / 2 : Nat) : Int) ≤ (V : Int)) ?_ n1 ⟨0, by omega, rfl, by omega, hF1, hX1, hB1, fun j hj => by omega⟩)
  clear hX1 hB1 hF1 hX hF0 u0 u1 hn0 hn1
  rintro k l A ⟨i, hik, rfl, hnA, hFA, hXA, hBA, hok⟩
  refine KC.seq (KC.region ?_)
  refine KO.pv (PV.lss rfl rfl) rfl rfl ?_
  refine KO.nil ?_
  refine KC.seq (KC.cond rfl (fun hb => KC.skip ?_) (fun hb => KC.exit ?_))
  · have hi : i < n1 := by simpa using hb
    obtain ⟨b, off, sp, r, u, rfl, hbH, hr, hus, hcs, hwu⟩ := h1.at_ hi
    refine KC.seq (KC.block (KC.seq (KC.region ?_)))
    refine KO.pv (PV.indexAddr un22 sz3 rfl rfl (hi)) rfl rfl ?_
    refine KO.load1 ag3 rfl (((hFA.2 b hbH).trans hr)) (hcs) rfl rfl ?_
    refine KO.pv (PV.assign rfl) rfl rfl ?_
    refine KO.nil ?_
    refine KC.seq (KC.seq (KC.region ?_))
    refine KO.pv (PV.fieldAddr fo24_0 rfl) rfl rfl ?_
    refine KO.load1 ag3 rfl (hXA) (rfl) rfl rfl ?_
    refine KO.pv (PV.move rfl) rfl rfl ?_
    refine KO.call rfl rfl rfl rfl ((as_known A V u hwu)) fun v1 A1 q1 => ?_
    obtain ⟨hA1, kb, hv1, hkb⟩ := q1
    dsimp only at hA1 hv1
    subst hv1
    subst hA1
    cases kb with
    | false =>
      refine KO.pv (PV.not rfl) rfl rfl ?_
      simp only [Bool.not_false]
      refine KO.pv (PV.move rfl) rfl rfl ?_
      refine KO.no rfl rfl rfl ?_
      refine KO.no rfl rfl rfl ?_
      refine KO.no rfl rfl rfl ?_
      refine KO.no rfl rfl rfl ?_
      refine KO.no rfl rfl rfl ?_
      refine KO.pv (PV.pickT rfl rfl rfl) rfl rfl ?_
      refine KO.nil ?_
      refine KC.cond rfl (fun _ => ?_) (fun hb => by cases hb)
      refine KC.seq (KC.region ?_)
      refine KO.pv (PV.assign rfl) rfl rfl ?_
      refine KO.nil ?_
      exact KC.ret ⟨rfl, _, rfl, hFA, _, rfl, fun h => by cases h⟩
    | true =>
      obtain ⟨n, rfl, hn2, hnV⟩ := hkb rfl
      obtain ⟨cs, hrB, hcl, hcb⟩ := hBA
      have hnn : n / 2 < V + 1 := by omega
      obtain ⟨xb, hxb⟩ := hcb (n / 2) hnn
      obtain ⟨w1, w2⟩ := range64 hwu
      refine KO.pv (PV.not rfl) rfl rfl ?_
      simp only [Bool.not_true]
      refine KO.pv (PV.move rfl) rfl rfl ?_
      refine KO.pv (PV.move rfl) rfl rfl ?_
      refine KO.pv (PV.move rfl) rfl rfl ?_
      refine KO.pv (PV.quo rfl rfl (by decide) ((show _ = ((n / 2 : Nat) : Int) from wrap64 (by rw [tdiv2]; omega) (by rw [tdiv2]; omega)))) rfl rfl ?_
      refine KO.pv (PV.indexAddr un50 sz4 rfl rfl (hnn)) rfl rfl ?_
      refine KO.load1 ag4 rfl (hrB) ((by rw [Nat.zero_add, Nat.mul_one]; exact hxb)) rfl rfl ?_
      refine KO.pv (PV.pickF rfl rfl rfl) rfl rfl ?_
      refine KO.nil ?_
      refine KC.cond rfl (fun hb => ?_) (fun hb => KC.skip ?_)
      · refine KC.seq (KC.region ?_)
        refine KO.pv (PV.assign rfl) rfl rfl ?_
        refine KO.nil ?_
        exact KC.ret ⟨rfl, _, rfl, hFA, _, rfl, fun h => by cases h⟩
      refine KC.region ?_
      refine KO.pv (PV.move rfl) rfl rfl ?_
      refine KO.pv (PV.move rfl) rfl rfl ?_
      refine KO.pv (PV.quo rfl rfl (by decide) ((show _ = ((n / 2 : Nat) : Int) from wrap64 (by rw [tdiv2]; omega) (by rw [tdiv2]; omega)))) rfl rfl ?_
      refine KO.pv (PV.indexAddr un50 sz4 rfl rfl (hnn)) rfl rfl ?_
      refine KO.store1 sz4 rfl rfl (rfl) (hrB) (rfl) ((by rw [Nat.zero_add, Nat.mul_one]; show n / 2 < cs.length; omega)) rfl fun B x1 => ?_
      refine KO.nil ?_
      refine KC.region ?_
      refine KO.pv (PV.add rfl rfl ((show _ = ((i + 1 : Nat) : Int) from wrap64 (by omega) (by omega)))) rfl rfl ?_
      refine KO.pv (PV.move rfl) rfl rfl ?_
      refine KO.nil ?_
      refine ⟨k - 1, _, by omega, .cons rfl (.cons rfl (.cons rfl (.cons rfl (.cons rfl .nil)))), i + 1, by omega, rfl, by rw [x1.next]; exact hnA, hFA.upd x1 (by omega), by rw [x1.row, if_neg (by omega)]; exact hXA, ?_, fun j hj w hw => ?_⟩
      · rw [x1.row, if_pos rfl]
        have := BR.put (hrB ▸ ⟨cs, hrB, hcl, hcb⟩ : BR 4 (V + 1) (some ⟨4, true, true, cs⟩)) hnn true
        rw [Nat.zero_add, Nat.mul_one]; exact this
      · by_cases e : j = i
        · subst e; rw [hus] at hw; cases hw; exact ⟨n, rfl, hn2, hnV⟩
        · exact hok j (by omega) w hw
  have hi : ¬ i < n1 := by simpa using hb
  refine KC.seq (KC.seq (KC.region ?_))
  refine KO.pv (PV.fieldAddr fo24_2 rfl) rfl rfl ?_
  refine KO.load1 ag22 rfl (hXA) (rfl) rfl rfl ?_
  refine KO.pv (PV.len un22 rfl) rfl rfl ?_
  refine KO.pv (PV.move rfl) rfl rfl ?_
  refine KO.nil ?_
  refine KC.sub (l' := [(1, .pointer (some ⟨H.next, 0, none⟩)), (45, .slice a2 n2 c2), (46, .int .i64 (n2 : Int)), (47, .int .i64 ((0 : Nat) : Int))]) (.cons rfl (.cons rfl (.cons rfl (.cons rfl .nil)))) ?_
  refine KC.block (KC.loopN (fun k l B => ∃ j : Nat, j + k = n2 ∧ l = [(1, .pointer (some ⟨H.next, 0, none⟩)), (45, .slice a2 n2 c2), (46, .int .i64 (n2 : Int)), (47, .int .i64 (j : Int))] ∧ B = A ∧ ∀ m, m < j → ∀ u, ss[m]? = some u → 0 ≤ u ∧ u < (n1 : Int)) ?_ n2 ⟨0, by omega, rfl, rfl, fun j hj => by omega⟩)
  rintro k2 l B ⟨j, hjk, rfl, rfl, hok2⟩
  refine KC.seq (KC.region ?_)
  refine KO.pv (PV.lss rfl rfl) rfl rfl ?_
  refine KO.nil ?_
  refine KC.seq (KC.cond rfl (fun hb => KC.skip ?_) (fun hb => KC.exit ?_))
  rotate_left
  · have hj : ¬ j < n2 := by simpa using hb
    refine KC.seq (KC.region ?_)
    refine KO.pv (PV.assign rfl) rfl rfl ?_
    refine KO.nil ?_
    refine KC.ret ⟨rfl, _, rfl, hFA, _, rfl, fun _ => ⟨by omega, by omega, fun w hw => ?_, fun w hw => ?_⟩⟩
    · obtain ⟨m, hm, rfl⟩ := List.mem_iff_getElem.1 hw
      exact hok m (by omega) _ (List.getElem?_eq_getElem hm)
    · obtain ⟨m, hm, rfl⟩ := List.mem_iff_getElem.1 hw
      rw [hl1]
      exact hok2 m (by omega) _ (List.getElem?_eq_getElem hm)
  have hj : j < n2 := by simpa using hb
  obtain ⟨b, off, sp, r, u, rfl, hbH, hr, hus, hcs, hwu⟩ := h2.at_ hj
  have hrB := (hFA.2 b hbH).trans hr
  refine KC.seq (KC.block (KC.seq (KC.region ?_)))
  refine KO.pv (PV.move rfl) rfl rfl ?_
  refine KO.pv (PV.indexAddr un22 sz3 rfl rfl (hj)) rfl rfl ?_
  refine KO.load1 ag3 rfl (hrB) (hcs) rfl rfl ?_
  refine KO.pv (PV.assign rfl) rfl rfl ?_
  refine KO.pv (PV.assign rfl) rfl rfl ?_
  refine KO.nil ?_
  refine KC.seq (KC.region ?_)
  by_cases e1 : u < 0
  · refine KO.pv (PV.move rfl) rfl rfl ?_
    refine KO.pv (PV.lss rfl rfl) rfl rfl ?_
    rw [decide_eq_true e1]
    refine KO.pv (PV.move rfl) rfl rfl ?_
    refine KO.no rfl rfl rfl ?_
    refine KO.no rfl rfl rfl ?_
    refine KO.no rfl rfl rfl ?_
    refine KO.no rfl rfl rfl ?_
    refine KO.no rfl rfl rfl ?_
    refine KO.pv (PV.pickT rfl rfl rfl) rfl rfl ?_
    refine KO.pv (PV.move rfl) rfl rfl ?_
    refine KO.no rfl rfl rfl ?_
    refine KO.no rfl rfl rfl ?_
    refine KO.no rfl rfl rfl ?_
    refine KO.no rfl rfl rfl ?_
    refine KO.no rfl rfl rfl ?_
    refine KO.no rfl rfl rfl ?_
    refine KO.no rfl rfl rfl ?_
    refine KO.no rfl rfl rfl ?_
    refine KO.no rfl rfl rfl ?_
    refine KO.no rfl rfl rfl ?_
    refine KO.no rfl rfl rfl ?_
    refine KO.no rfl rfl rfl ?_
    refine KO.pv (PV.pickT rfl rfl rfl) rfl rfl ?_
    refine KO.nil ?_
    refine KC.cond rfl (fun _ => ?_) (fun hb => by cases hb)
    refine KC.seq (KC.region ?_)
    refine KO.pv (PV.assign rfl) rfl rfl ?_
    refine KO.nil ?_
    exact KC.ret ⟨rfl, _, rfl, hFA, _, rfl, fun h => by cases h⟩
  by_cases e2 : u < (n1 : Int)
  rotate_left
  · refine KO.pv (PV.move rfl) rfl rfl ?_
    refine KO.pv (PV.lss rfl rfl) rfl rfl ?_
    rw [decide_eq_false e1]
    refine KO.pv (PV.move rfl) rfl rfl ?_
    refine KO.pv (PV.move rfl) rfl rfl ?_
    refine KO.pv (PV.fieldAddr fo24_1 rfl) rfl rfl ?_
    refine KO.load1 ag22 rfl (hXA) (rfl) rfl rfl ?_
    refine KO.pv (PV.len un22 rfl) rfl rfl ?_
    refine KO.pv (PV.geq rfl rfl) rfl rfl ?_
    rw [decide_eq_false e2, Bool.not_false]
    refine KO.pv (PV.pickF rfl rfl rfl) rfl rfl ?_
    refine KO.pv (PV.move rfl) rfl rfl ?_
    refine KO.no rfl rfl rfl ?_
    refine KO.no rfl rfl rfl ?_
    refine KO.no rfl rfl rfl ?_
    refine KO.no rfl rfl rfl ?_
    refine KO.no rfl rfl rfl ?_
    refine KO.no rfl rfl rfl ?_
    refine KO.no rfl rfl rfl ?_
    refine KO.no rfl rfl rfl ?_
    refine KO.no rfl rfl rfl ?_
    refine KO.no rfl rfl rfl ?_
    refine KO.no rfl rfl rfl ?_
    refine KO.no rfl rfl rfl ?_
    refine KO.pv (PV.pickT rfl rfl rfl) rfl rfl ?_
    refine KO.nil ?_
    refine KC.cond rfl (fun _ => ?_) (fun hb => by cases hb)
    refine KC.seq (KC.region ?_)
    refine KO.pv (PV.assign rfl) rfl rfl ?_
    refine KO.nil ?_
    exact KC.ret ⟨rfl, _, rfl, hFA, _, rfl, fun h => by cases h⟩
  have hnext : ∀ m, m < j + 1 → ∀ w, ss[m]? = some w → 0 ≤ w ∧ w < (n1 : Int) := fun m hm w hw => by
    by_cases e : m = j
    · subst e; rw [hus] at hw; cases hw; exact ⟨by omega, e2⟩
    · exact hok2 m (by omega) w hw
  by_cases e3 : (0 : Int) < (j : Int)
  · obtain ⟨u', hus', hcs', hwu'⟩ := h2.cell hr (i := j - 1) (by omega)
    refine KO.pv (PV.move rfl) rfl rfl ?_
    refine KO.pv (PV.lss rfl rfl) rfl rfl ?_
    rw [decide_eq_false e1]
    refine KO.pv (PV.move rfl) rfl rfl ?_
    refine KO.pv (PV.move rfl) rfl rfl ?_
    refine KO.pv (PV.fieldAddr fo24_1 rfl) rfl rfl ?_
    refine KO.load1 ag22 rfl (hXA) (rfl) rfl rfl ?_
    refine KO.pv (PV.len un22 rfl) rfl rfl ?_
    refine KO.pv (PV.geq rfl rfl) rfl rfl ?_
    rw [decide_eq_true e2, Bool.not_true]
    refine KO.pv (PV.pickF rfl rfl rfl) rfl rfl ?_
    refine KO.pv (PV.move rfl) rfl rfl ?_
    refine KO.pv (PV.move rfl) rfl rfl ?_
    refine KO.pv (PV.gtr rfl rfl) rfl rfl ?_
    rw [decide_eq_true e3]
    refine KO.pv (PV.move rfl) rfl rfl ?_
    refine KO.pv (PV.move rfl) rfl rfl ?_
    refine KO.pv (PV.fieldAddr fo24_2 rfl) rfl rfl ?_
    refine KO.load1 ag22 rfl (hXA) (rfl) rfl rfl ?_
    refine KO.pv (PV.move rfl) rfl rfl ?_
    refine KO.pv (PV.sub rfl rfl ((show _ = ((j - 1 : Nat) : Int) from (wrap64 (by omega) (by omega)).trans (by omega)))) rfl rfl ?_
    refine KO.pv (PV.indexAddr un22 sz3 rfl rfl ((show j - 1 < n2 by omega))) rfl rfl ?_
    refine KO.load1 ag3 rfl (hrB) (hcs') rfl rfl ?_
    refine KO.pv (PV.leq rfl rfl) rfl rfl ?_
    refine KO.pv (PV.pickT rfl rfl rfl) rfl rfl ?_
    refine KO.pv (PV.pickF rfl rfl rfl) rfl rfl ?_
    refine KO.nil ?_
    refine KC.cond rfl (fun _ => ?_) (fun hb => KC.skip ?_)
    · refine KC.seq (KC.region ?_)
      refine KO.pv (PV.assign rfl) rfl rfl ?_
      refine KO.nil ?_
      exact KC.ret ⟨rfl, _, rfl, hFA, _, rfl, fun h => by cases h⟩
    refine KC.region ?_
    refine KO.pv (PV.add rfl rfl ((show _ = ((j + 1 : Nat) : Int) from wrap64 (by omega) (by omega)))) rfl rfl ?_
    refine KO.pv (PV.move rfl) rfl rfl ?_
    refine KO.nil ?_
    exact ⟨k2 - 1, _, by omega, .cons rfl (.cons rfl (.cons rfl (.cons rfl .nil))), j + 1, by omega, rfl, rfl, hnext⟩
  · refine KO.pv (PV.move rfl) rfl rfl ?_
    refine KO.pv (PV.lss rfl rfl) rfl rfl ?_
    rw [decide_eq_false e1]
    refine KO.pv (PV.move rfl) rfl rfl ?_
    refine KO.pv (PV.move rfl) rfl rfl ?_
    refine KO.pv (PV.fieldAddr fo24_1 rfl) rfl rfl ?_
    refine KO.load1 ag22 rfl (hXA) (rfl) rfl rfl ?_
    refine KO.pv (PV.len un22 rfl) rfl rfl ?_
    refine KO.pv (PV.geq rfl rfl) rfl rfl ?_
    rw [decide_eq_true e2, Bool.not_true]
    refine KO.pv (PV.pickF rfl rfl rfl) rfl rfl ?_
    refine KO.pv (PV.move rfl) rfl rfl ?_
    refine KO.pv (PV.move rfl) rfl rfl ?_
    refine KO.pv (PV.gtr rfl rfl) rfl rfl ?_
    rw [decide_eq_false e3]
    refine KO.pv (PV.move rfl) rfl rfl ?_
    refine KO.no rfl rfl rfl ?_
    refine KO.no rfl rfl rfl ?_
    refine KO.no rfl rfl rfl ?_
    refine KO.no rfl rfl rfl ?_
    refine KO.no rfl rfl rfl ?_
    refine KO.no rfl rfl rfl ?_
    refine KO.no rfl rfl rfl ?_
    refine KO.no rfl rfl rfl ?_
    refine KO.pv (PV.pickF rfl rfl rfl) rfl rfl ?_
    refine KO.pv (PV.pickF rfl rfl rfl) rfl rfl ?_
    refine KO.nil ?_
    refine KC.cond rfl (fun hb => by cases hb) (fun hb => KC.skip ?_)
    refine KC.region ?_
    refine KO.pv (PV.add rfl rfl ((show _ = ((j + 1 : Nat) : Int) from wrap64 (by omega) (by omega)))) rfl rfl ?_
    refine KO.pv (PV.move rfl) rfl rfl ?_
    refine KO.nil ?_
    exact ⟨k2 - 1, _, by omega, .cons rfl (.cons rfl (.cons rfl (.cons rfl .nil))), j + 1, by omega, rfl, rfl, hnext⟩

theorem sl_Index (H : AHeap) (a1 : Option Addr) (n1 c1 : Nat) (x : Int) (us : List Int) (h1 : VL H .i64 (.slice a1 n1 c1) us) : WF E0 167 [.slice a1 n1 c1, .int .i64 x] H fun q => q.2 = H ∧ ∃ z : Int, q.1 = .int .i64 z ∧ -1 ≤ z ∧ z < n1 := by
  obtain ⟨hl1, hc1, hm1, hw1⟩ := h1.len
  refine WF.k Tryz.func167 rfl rfl ?_
  refine KC.seq (KC.region ?_)
  refine KO.pv (PV.assign rfl) rfl rfl ?_
  refine KO.nil ?_
  refine KC.seq (KC.seq (KC.region ?_))
  refine KO.pv (PV.move rfl) rfl rfl ?_
  refine KO.pv (PV.len un22 rfl) rfl rfl ?_
  refine KO.pv (PV.move rfl) rfl rfl ?_
  refine KO.nil ?_
  refine KC.sub (l' := [(0, .slice a1 n1 c1), (1, .int .i64 x), (7, .int .i64 (n1 : Int)), (8, .int .i64 ((0 : Nat) : Int))]) (.cons rfl (.cons rfl (.cons rfl (.cons rfl .nil)))) ?_
  refine KC.block (KC.loopN (fun k l A => ∃ i : Nat, i + k = n1 ∧ l = [(0, .slice a1 n1 c1), (1, .int .i64 x), (7, .int .i64 (n1 : Int)), (8, .int .i64 (i : Int))] ∧ A = H) ?_ n1 ⟨0, by omega, rfl, rfl⟩)
  rintro k l A ⟨i, hik, rfl, rfl⟩
  refine KC.seq (KC.region ?_)
  refine KO.pv (PV.lss rfl rfl) rfl rfl ?_
  refine KO.nil ?_
  refine KC.seq (KC.cond rfl (fun hb => KC.skip ?_) (fun hb => KC.exit ?_))
  rotate_left
  · refine KC.seq (KC.region ?_)
    refine KO.pv (PV.assign rfl) rfl rfl ?_
    refine KO.nil ?_
    exact KC.ret ⟨rfl, _, rfl, rfl, _, rfl, by omega, by omega⟩
  have hi : i < n1 := by simpa using hb
  obtain ⟨b, off, sp, r, u, rfl, hbH, hr, hus, hcs, hwu⟩ := h1.at_ hi
  refine KC.seq (KC.block (KC.seq (KC.region ?_)))
  refine KO.pv (PV.move rfl) rfl rfl ?_
  refine KO.pv (PV.assign rfl) rfl rfl ?_
  refine KO.nil ?_
  refine KC.seq (KC.region ?_)
  refine KO.pv (PV.move rfl) rfl rfl ?_
  refine KO.pv (PV.move rfl) rfl rfl ?_
  refine KO.pv (PV.move rfl) rfl rfl ?_
  refine KO.pv (PV.indexAddr un22 sz3 rfl rfl (hi)) rfl rfl ?_
  refine KO.load1 ag3 rfl (hr) (hcs) rfl rfl ?_
  refine KO.pv (PV.eql rfl rfl) rfl rfl ?_
  refine KO.nil ?_
  refine KC.cond rfl (fun _ => ?_) (fun _ => KC.skip ?_)
  · refine KC.seq (KC.region ?_)
    refine KO.pv (PV.move rfl) rfl rfl ?_
    refine KO.pv (PV.assign rfl) rfl rfl ?_
    refine KO.nil ?_
    exact KC.ret ⟨rfl, _, rfl, rfl, _, rfl, by omega, by omega⟩
  refine KC.region ?_
  refine KO.pv (PV.add rfl rfl ((show _ = ((i + 1 : Nat) : Int) from wrap64 (by omega) (by omega)))) rfl rfl ?_
  refine KO.pv (PV.move rfl) rfl rfl ?_
  refine KO.nil ?_
  exact ⟨k - 1, _, by omega, .cons rfl (.cons rfl (.cons rfl (.cons rfl .nil))), i + 1, by omega, rfl, rfl⟩

theorem sl_Contains (H : AHeap) (a1 : Option Addr) (n1 c1 : Nat) (x : Int) (us : List Int) (h1 : VL H .i64 (.slice a1 n1 c1) us) : WF E0 138 [.slice a1 n1 c1, .int .i64 x] H fun q => q.2 = H ∧ ∃ b : Bool, q.1 = .bool b := by
  refine WF.k Tryz.func138 rfl rfl ?_
  refine KC.seq (KC.region ?_)
  refine KO.pv (PV.assign rfl) rfl rfl ?_
  refine KO.nil ?_
  refine KC.seq (KC.region ?_)
  refine KO.pv (PV.move rfl) rfl rfl ?_
  refine KO.pv (PV.move rfl) rfl rfl ?_
  refine KO.call rfl rfl rfl rfl ((sl_Index H a1 n1 c1 x us h1)) fun v1 A q1 => ?_
  obtain ⟨hA, z, hv, hz1, hz2⟩ := q1
  dsimp only at hA hv
  subst hv
  subst hA
  refine KO.pv (PV.geq rfl rfl) rfl rfl ?_
  refine KO.pv (PV.assign rfl) rfl rfl ?_
  refine KO.nil ?_
  exact KC.ret ⟨rfl, _, rfl, rfl, _, rfl⟩

theorem as_open (H : AHeap) (vars lit : Int) (a1 a2 : Option Addr) (n1 c1 n2 c2 : Nat) (us ss : List Int) (h1 : VL H .i64 (.slice a1 n1 c1) us) (h2 : VL H .i64 (.slice a2 n2 c2) ss) (hlit : IntKind.i64.wrap lit = lit) : WF E0 137 [.agg #[.int .i64 vars, .slice a1 n1 c1, .slice a2 n2 c2], .int .i64 lit] H fun q => Frh H q.2 ∧ ∃ e : Int, q.1 = .int .i64 e ∧ (e = 0 → AsOK vars us ss ∧ ∃ n : Nat, lit = n ∧ 2 ≤ n ∧ ((n / 2 : Nat) : Int) ≤ vars) := by
  refine WF.k Tryz.func137 rfl rfl ?_
  refine KC.seq (KC.region ?_)
  refine KO.box (rfl) (rfl) rfl rfl fun G0 u0 => ?_
  refine KO.pv (PV.assign rfl) rfl rfl ?_
  refine KO.nil ?_
  have hX : G0.row H.next = some ⟨24, true, true, [.int .i64 vars, .slice a1 n1 c1, .slice a2 n2 c2]⟩ := by rw [u0.row, if_pos rfl]; rfl
  have hn0 := u0.next
  have hF0 : Frh H G0 := .new u0
  refine KC.seq (KC.seq (KC.region ?_))
  refine KO.loadN ag24 sz24 rfl (hX) (rfl) rfl rfl ?_
  refine KO.call rfl rfl rfl rfl ((as_Check G0 vars a1 a2 n1 c1 n2 c2 us ss (h1.frame hF0) (h2.frame hF0))) fun v1 A q1 => ?_
  obtain ⟨hFA, e1, hv1, hok⟩ := q1
  dsimp only at hFA hv1
  subst hv1
  refine KO.pv (PV.assign rfl) rfl rfl ?_
  refine KO.nil ?_
  refine KC.seq (KC.region ?_)
  refine KO.pv (PV.move rfl) rfl rfl ?_
  refine KO.pv (PV.neq rfl rfl) rfl rfl ?_
  refine KO.nil ?_
  have hFB := hF0.trans hFA
  refine KC.cond rfl (fun hb => ?_) (fun hb => KC.skip ?_)
  · refine KC.seq (KC.region ?_)
    refine KO.pv (PV.move rfl) rfl rfl ?_
    refine KO.pv (PV.assign rfl) rfl rfl ?_
    refine KO.nil ?_
    exact KC.ret ⟨rfl, _, rfl, hFB, _, rfl, fun h => by simp [h] at hb⟩
  have he0 : e1 = 0 := by simpa using hb
  have hXA : A.row H.next = some ⟨24, true, true, [.int .i64 vars, .slice a1 n1 c1, .slice a2 n2 c2]⟩ := (hFA.2 _ (by omega)).trans hX
  refine KC.seq (KC.seq (KC.region ?_))
  refine KO.pv (PV.fieldAddr fo24_0 rfl) rfl rfl ?_
  refine KO.load1 ag3 rfl (hXA) (rfl) rfl rfl ?_
  refine KO.pv (PV.move rfl) rfl rfl ?_
  refine KO.call rfl rfl rfl rfl ((as_known A vars lit hlit)) fun v2 A1 q2 => ?_
  obtain ⟨hA1, kb, hv2, hkb⟩ := q2
  dsimp only at hA1 hv2
  subst hv2
  subst hA1
  refine KO.pv (PV.not rfl) rfl rfl ?_
  refine KO.nil ?_
  refine KC.cond rfl (fun hb => ?_) (fun hb => KC.skip ?_)
  · refine KC.seq (KC.region ?_)
    refine KO.pv (PV.assign rfl) rfl rfl ?_
    refine KO.nil ?_
    exact KC.ret ⟨rfl, _, rfl, hFB, _, rfl, fun h => by cases h⟩
  refine KC.seq (KC.region ?_)
  refine KO.pv (PV.assign rfl) rfl rfl ?_
  refine KO.nil ?_
  exact KC.ret ⟨rfl, _, rfl, hFB, _, rfl, fun _ => ⟨hok he0, hkb (by simpa using hb)⟩⟩

end Go.Eng

namespace Go.Eng
open Go Go.Proofs
/-- An assignment in new memory. -/
structure AsG (H A : AHeap) (v : Value) (us ss : List Int) : Prop where
  ex : ∃ vars a1 n1 c1 a2 n2 c2 D1 D2, v = .agg #[.int .i64 vars, .slice a1 n1 c1, .slice a2 n2 c2] ∧ IntKind.i64.wrap vars = vars ∧ GL A 3 1 (.slice a1 n1 c1) (us.map (Value.int .i64)) D1 ∧ GL A 3 1 (.slice a2 n2 c2) (ss.map (Value.int .i64)) D2 ∧ (∀ j ∈ D1, H.next ≤ j ∧ j < A.next) ∧ (∀ j ∈ D2, H.next ≤ j ∧ j < A.next) ∧ ∀ j ∈ D1, j ∉ D2
  f : Frh H A
  w1 : ∀ u ∈ us, IntKind.i64.wrap u = u
  w2 : ∀ u ∈ ss, IntKind.i64.wrap u = u
  l1 : us.length ≤ 400000000
  l2 : ss.length ≤ 400000000
theorem AsG.frame {H A B : AHeap} {v : Value} {us ss : List Int} (h : AsG H A v us ss) (q : Frh A B) : AsG H B v us ss := by
  obtain ⟨⟨vars, a1, n1, c1, a2, n2, c2, D1, D2, e1, e2, e3, e4, e5, e6, e7⟩, f, w1, w2, l1, l2⟩ := h
  exact ⟨⟨vars, a1, n1, c1, a2, n2, c2, D1, D2, e1, e2, e3.frame fun j hj => q.2 j (e5 j hj).2, e4.frame fun j hj => q.2 j (e6 j hj).2, fun j hj => ⟨(e5 j hj).1, Nat.lt_of_lt_of_le (e5 j hj).2 q.1⟩, fun j hj => ⟨(e6 j hj).1, Nat.lt_of_lt_of_le (e6 j hj).2 q.1⟩, e7⟩, f.trans q, w1, w2, l1, l2⟩
theorem AsG.from_ {H H0 A : AHeap} {v : Value} {us ss : List Int} (h : AsG H0 A v us ss) (q : Frh H H0) : AsG H A v us ss := by
  obtain ⟨⟨vars, a1, n1, c1, a2, n2, c2, D1, D2, e1, e2, e3, e4, e5, e6, e7⟩, f, w1, w2, l1, l2⟩ := h
  exact ⟨⟨vars, a1, n1, c1, a2, n2, c2, D1, D2, e1, e2, e3, e4, fun j hj => ⟨Nat.le_trans q.1 (e5 j hj).1, (e5 j hj).2⟩, fun j hj => ⟨Nat.le_trans q.1 (e6 j hj).1, (e6 j hj).2⟩, e7⟩, q.trans f, w1, w2, l1, l2⟩
theorem AsG.zero {H A : AHeap} {vars : Int} (h : IntKind.i64.wrap vars = vars) (q : Frh H A) : AsG H A (.agg #[.int .i64 vars, .slice none 0 0, .slice none 0 0]) [] [] :=
  ⟨⟨vars, none, 0, 0, none, 0, 0, [], [], rfl, h, .nil rfl, .nil rfl, fun _ h => absurd h List.not_mem_nil, fun _ h => absurd h List.not_mem_nil, fun _ h => absurd h List.not_mem_nil⟩, q, fun _ h => absurd h List.not_mem_nil, fun _ h => absurd h List.not_mem_nil, by simp, by simp⟩
theorem bld24 : buildA E0.P 24 [] = some (.agg #[.int .i64 0, .slice none 0 0, .slice none 0 0]) := by kernel_rfl
theorem bld24v (n : Int) : buildA E0.P 24 [(0, .int .i64 n)] = some (.agg #[.int .i64 n, .slice none 0 0, .slice none 0 0]) := by kernel_rfl
theorem bld24a (n : Int) (a b : Value) (ha : ∃ x y z, a = .slice x y z) (hb : ∃ x y z, b = .slice x y z) : buildA E0.P 24 [(0, .int .i64 n), (1, a), (2, b)] = some (.agg #[.int .i64 n, a, b]) := by
  obtain ⟨x, y, z, rfl⟩ := ha
  obtain ⟨x', y', z', rfl⟩ := hb
  kernel_rfl
theorem load24 {H : AHeap} {b : Nat} {n : Int} {v w : Value} {e : Nat} (h : H.row b = some ⟨e, true, true, [.int .i64 n, v, w]⟩) : loadA E0.P 24 (.pointer (some ⟨b, 0, none⟩)) H = some (.agg #[.int .i64 n, v, w]) := by
  rw [load_row h]
  exact readN ag24 sz24 rfl

theorem as_New (H : AHeap) (vars : Int) (hw : IntKind.i64.wrap vars = vars) : WF E0 55 [.int .i64 vars] H fun q => ∃ v e, q.1 = .tuple #[v, .int .i64 e] ∧ AsG H q.2 v [] [] := by
  refine WF.kc2 Tryz.func55 rfl rfl rfl ?_
  refine KC.seq (KC.region ?_)
  refine KO.alloc zt24 rfl rfl fun G0 u0 => ?_
  refine KO.pv (PV.assign rfl) rfl rfl ?_
  refine KO.nil ?_
  have hX : G0.row H.next = some ⟨24, true, true, [.int .i64 0, .slice none 0 0, .slice none 0 0]⟩ := by rw [u0.row, if_pos rfl]
  have hF0 : Frh H G0 := .new u0
  refine KC.seq (KC.seq (KC.region ?_))
  by_cases d1 : vars < 0
  · refine KO.pv (PV.move rfl) rfl rfl ?_
    refine KO.pv (PV.lss rfl rfl) rfl rfl ?_
    rw [decide_eq_true d1]
    refine KO.pv (PV.move rfl) rfl rfl ?_
    refine KO.no rfl rfl rfl ?_
    refine KO.no rfl rfl rfl ?_
    refine KO.pv (PV.pickT rfl rfl rfl) rfl rfl ?_
    refine KO.nil ?_
    refine KC.cond rfl (fun _ => ?_) (fun hb => by cases hb)
    refine KC.seq (KC.region ?_)
    refine KO.pv (PV.build (rfl) (bld24)) rfl rfl ?_
    refine KO.store rfl rfl sz24 (rfl) (hX) (rfl) ((Nat.le_refl _)) rfl fun B x1 => ?_
    refine KO.pv (PV.assign rfl) rfl rfl ?_
    refine KO.nil ?_
    exact KC.ret ⟨rfl, _, _, _, rfl, load24 (by rw [x1.row, if_pos rfl]; rfl), rfl, _, _, rfl, .zero rfl (hF0.upd x1 (Nat.le_refl _))⟩
  by_cases d2 : 4000 < vars
  · refine KO.pv (PV.move rfl) rfl rfl ?_
    refine KO.pv (PV.lss rfl rfl) rfl rfl ?_
    rw [decide_eq_false d1]
    refine KO.pv (PV.move rfl) rfl rfl ?_
    refine KO.pv (PV.move rfl) rfl rfl ?_
    refine KO.pv (PV.gtr rfl rfl) rfl rfl ?_
    rw [decide_eq_true d2]
    refine KO.pv (PV.pickF rfl rfl rfl) rfl rfl ?_
    refine KO.nil ?_
    refine KC.cond rfl (fun _ => ?_) (fun hb => by cases hb)
    refine KC.seq (KC.region ?_)
    refine KO.pv (PV.build (rfl) (bld24)) rfl rfl ?_
    refine KO.store rfl rfl sz24 (rfl) (hX) (rfl) ((Nat.le_refl _)) rfl fun B x1 => ?_
    refine KO.pv (PV.assign rfl) rfl rfl ?_
    refine KO.nil ?_
    exact KC.ret ⟨rfl, _, _, _, rfl, load24 (by rw [x1.row, if_pos rfl]; rfl), rfl, _, _, rfl, .zero rfl (hF0.upd x1 (Nat.le_refl _))⟩
  refine KO.pv (PV.move rfl) rfl rfl ?_
  refine KO.pv (PV.lss rfl rfl) rfl rfl ?_
  rw [decide_eq_false d1]
  refine KO.pv (PV.move rfl) rfl rfl ?_
  refine KO.pv (PV.move rfl) rfl rfl ?_
  refine KO.pv (PV.gtr rfl rfl) rfl rfl ?_
  rw [decide_eq_false d2]
  refine KO.pv (PV.pickF rfl rfl rfl) rfl rfl ?_
  refine KO.nil ?_
  refine KC.cond rfl (fun hb => by cases hb) (fun _ => KC.skip ?_)
  refine KC.seq (KC.region ?_)
  refine KO.pv (PV.move rfl) rfl rfl ?_
  refine KO.pv (PV.build (rfl) ((bld24v _))) rfl rfl ?_
  refine KO.store rfl rfl sz24 (rfl) (hX) (rfl) ((Nat.le_refl _)) rfl fun B x1 => ?_
  refine KO.pv (PV.assign rfl) rfl rfl ?_
  refine KO.nil ?_
  exact KC.ret ⟨rfl, _, _, _, rfl, load24 (by rw [x1.row, if_pos rfl]; rfl), rfl, _, _, rfl, .zero hw (hF0.upd x1 (Nat.le_refl _))⟩

theorem as_put (H : AHeap) (vars lit : Int) (a1 a2 : Option Addr) (n1 c1 n2 c2 : Nat) (us ss : List Int) (h1 : VL H .i64 (.slice a1 n1 c1) us) (h2 : VL H .i64 (.slice a2 n2 c2) ss) (hx1 : exactBase a1 = true) (hx2 : exactBase a2 = true) (hb1 : n1 ≤ 300000000) (hb2 : n2 ≤ 300000000) (hlit : IntKind.i64.wrap lit = lit) (hvw : IntKind.i64.wrap vars = vars) :
    WF E0 136 [.agg #[.int .i64 vars, .slice a1 n1 c1, .slice a2 n2 c2], .int .i64 lit] H fun q => ∃ v e us' ss', q.1 = .tuple #[v, .int .i64 e] ∧ AsG H q.2 v us' ss' ∧ us'.length ≤ 300000001 ∧ ss'.length ≤ 300000000 ∧ (e = 0 → 0 < us'.length) := by
  obtain ⟨hl1, hc1, hm1, hw1⟩ := h1.len
  obtain ⟨hl2, hc2, hm2, hw2⟩ := h2.len
  refine WF.kc2 Tryz.func136 rfl rfl rfl ?_
  refine KC.seq (KC.region ?_)
  refine KO.box (rfl) (rfl) rfl rfl fun G0 u0 => ?_
  refine KO.alloc zt24 rfl rfl fun G1 u1 => ?_
  refine KO.pv (PV.assign rfl) rfl rfl ?_
  refine KO.nil ?_
  have hn0 := u0.next
  have hn1 := u1.next
  have hX : G1.row H.next = some ⟨24, true, true, [.int .i64 vars, .slice a1 n1 c1, .slice a2 n2 c2]⟩ := by rw [u1.row, if_neg (by omega), u0.row, if_pos rfl]; rfl
  have hR : G1.row (H.next + 1) = some ⟨24, true, true, [.int .i64 0, .slice none 0 0, .slice none 0 0]⟩ := by rw [u1.row, if_pos hn0.symm]
  have hF1 : Frh H G1 := (Frh.new u0).trans (.new u1)
  rw [hn0]
  refine KC.seq (KC.seq (KC.region ?_))
  refine KO.loadN ag24 sz24 rfl (hX) (rfl) rfl rfl ?_
  refine KO.pv (PV.move rfl) rfl rfl ?_
  refine KO.call rfl rfl rfl rfl ((as_open G1 vars lit a1 a2 n1 c1 n2 c2 us ss (h1.frame hF1) (h2.frame hF1) hlit)) fun v1 A q1 => ?_
  obtain ⟨hFA, e1, hv1, hok⟩ := q1
  dsimp only at hFA hv1
  subst hv1
  refine KO.pv (PV.assign rfl) rfl rfl ?_
  refine KO.nil ?_
  have hle := hFA.1
  have hXA : A.row H.next = some ⟨24, true, true, [.int .i64 vars, .slice a1 n1 c1, .slice a2 n2 c2]⟩ := (hFA.2 _ (by omega)).trans hX
  have hRA : A.row (H.next + 1) = some ⟨24, true, true, [.int .i64 0, .slice none 0 0, .slice none 0 0]⟩ := (hFA.2 _ (by omega)).trans hR
  have hFB := hF1.trans hFA
  refine KC.seq (KC.region ?_)
  refine KO.pv (PV.move rfl) rfl rfl ?_
  refine KO.pv (PV.neq rfl rfl) rfl rfl ?_
  refine KO.nil ?_
  refine KC.cond rfl (fun hb => ?_) (fun hb => KC.skip ?_)
  · refine KC.seq (KC.region ?_)
    refine KO.pv (PV.build (rfl) (bld24)) rfl rfl ?_
    refine KO.pv (PV.move rfl) rfl rfl ?_
    refine KO.store rfl rfl sz24 (rfl) (hRA) (rfl) ((Nat.le_refl _)) rfl fun B x1 => ?_
    refine KO.pv (PV.assign rfl) rfl rfl ?_
    refine KO.nil ?_
    exact KC.ret ⟨rfl, _, _, _, rfl, load24 (by rw [x1.row, if_pos rfl]; rfl), rfl, _, _, _, _, rfl, .zero rfl (hFB.upd x1 (by omega)), by simp, by simp, fun h => by simp [h] at hb⟩
  have h1A := h1.frame hFB
  have h2A := h2.frame hFB
  have full : ∀ B, Upd A B (H.next + 1) ⟨24, true, true, [.int .i64 0, .slice none 0 0, .slice none 0 0]⟩ → True := fun _ _ => trivial
  refine KC.seq (KC.seq (KC.region ?_))
  refine KO.pv (PV.fieldAddr fo24_1 rfl) rfl rfl ?_
  refine KO.load1 ag22 rfl (hXA) (rfl) rfl rfl ?_
  refine KO.pv (PV.move rfl) rfl rfl ?_
  refine KO.call rfl rfl rfl rfl ((sl_Contains A a1 n1 c1 lit us h1A)) fun v2 A1 q2 => ?_
  obtain ⟨hA1, kb, hv2⟩ := q2
  dsimp only at hA1 hv2
  subst hv2
  subst hA1
  cases kb with
  | true =>
    refine KO.pv (PV.move rfl) rfl rfl ?_
    refine KO.no rfl rfl rfl ?_
    refine KO.no rfl rfl rfl ?_
    refine KO.no rfl rfl rfl ?_
    refine KO.no rfl rfl rfl ?_
    refine KO.no rfl rfl rfl ?_
    refine KO.pv (PV.pickT rfl rfl rfl) rfl rfl ?_
    refine KO.nil ?_
    refine KC.cond rfl (fun _ => ?_) (fun hb => by cases hb)
    refine KC.seq (KC.region ?_)
    refine KO.pv (PV.build (rfl) (bld24)) rfl rfl ?_
    refine KO.store rfl rfl sz24 (rfl) (hRA) (rfl) ((Nat.le_refl _)) rfl fun B x1 => ?_
    refine KO.pv (PV.assign rfl) rfl rfl ?_
    refine KO.nil ?_
    exact KC.ret ⟨rfl, _, _, _, rfl, load24 (by rw [x1.row, if_pos rfl]; rfl), rfl, _, _, _, _, rfl, .zero rfl (hFB.upd x1 (by omega)), by simp, by simp, fun h => by cases h⟩
  | false =>
  refine KO.pv (PV.move rfl) rfl rfl ?_
  refine KO.pv (PV.fieldAddr fo24_1 rfl) rfl rfl ?_
  refine KO.load1 ag22 rfl (hXA) (rfl) rfl rfl ?_
  refine KO.pv (PV.move rfl) rfl rfl ?_
  refine KO.bits (.inr (.inr rfl)) rfl rfl rfl rfl fun nb hnb => ?_
  refine KO.call rfl rfl rfl rfl ((sl_Contains A1 a1 n1 c1 nb us h1A)) fun v3 A2 q3 => ?_
  obtain ⟨hA2, kb2, hv3⟩ := q3
  dsimp only at hA2 hv3
  subst hv3
  subst hA2
  refine KO.pv (PV.pickF rfl rfl rfl) rfl rfl ?_
  refine KO.nil ?_
  refine KC.cond rfl (fun _ => ?_) (fun hb => KC.skip ?_)
  · refine KC.seq (KC.region ?_)
    refine KO.pv (PV.build (rfl) (bld24)) rfl rfl ?_
    refine KO.store rfl rfl sz24 (rfl) (hRA) (rfl) ((Nat.le_refl _)) rfl fun B x1 => ?_
    refine KO.pv (PV.assign rfl) rfl rfl ?_
    refine KO.nil ?_
    exact KC.ret ⟨rfl, _, _, _, rfl, load24 (by rw [x1.row, if_pos rfl]; rfl), rfl, _, _, _, _, rfl, .zero rfl (hFB.upd x1 (by omega)), by simp, by simp, fun h => by cases h⟩
  refine KC.seq ?_
  refine KC.draw (n := 8) (anc := [0, 1, 3, 0, 8, 24, 7, 127]) (hv := []) (ord := [0, 1, 2, 3, 4, 5, 6, 7]) (by kernel_rfl) (by kernel_rfl) (by kernel_rfl) (by kernel_rfl) (by kernel_rfl) fun H0 hn0 hr0 => ?_
  refine KD.pv 1 (PV.fieldAddr fo24_1 rfl) rfl rfl rfl (by kernel_rfl) rfl rfl rfl ?_
  refine KD.load 3 rfl ((hr0 _ ▸ hXA)) (by rw [read1 ag22]; exact (rfl)) (past1 ⟨_, ((hr0 _ ▸ hXA)), by rw [read1 ag22]; exact (rfl)⟩) (veq_sl) rfl (by kernel_rfl) rfl rfl rfl ?_
  refine KD.pv 7 (PV.len un22 rfl) rfl rfl (rd_int _) (by kernel_rfl) rfl rfl rfl ?_
  refine KD.pv 15 (PV.fieldAddr fo24_2 rfl) rfl rfl rfl (by kernel_rfl) rfl rfl rfl ?_
  refine KD.load 31 rfl ((hr0 _ ▸ hXA)) (by rw [read1 ag22]; exact (rfl)) (past1 ⟨_, ((hr0 _ ▸ hXA)), by rw [read1 ag22]; exact (rfl)⟩) (veq_sl) rfl (by kernel_rfl) rfl rfl rfl ?_
  refine KD.pv 63 (PV.len un22 rfl) rfl rfl (rd_int _) (by kernel_rfl) rfl rfl rfl ?_
  refine KD.pv 127 (PV.assign rfl) rfl rfl rfl (by kernel_rfl) rfl rfl rfl ?_
  refine KD.pv 255 (PV.assign rfl) rfl rfl rfl (by kernel_rfl) rfl rfl rfl ?_
  refine KD.nil ⟨rfl, ?_⟩
  have hF6 : Frh A2 H0 := ⟨by omega, fun j _ => hr0 j⟩
  have hX6 : H0.row H.next = some ⟨24, true, true, [.int .i64 vars, .slice a1 n1 c1, .slice a2 n2 c2]⟩ := (hr0 _).trans hXA
  have hR6 : H0.row (H.next + 1) = some ⟨24, true, true, [.int .i64 0, .slice none 0 0, .slice none 0 0]⟩ := (hr0 _).trans hRA
  have hV1 := h1A.frame hF6
  have hV2 := h2A.frame hF6
  have hle6 : H.next + 2 ≤ H0.next := by omega
  have hF7 := hFB.trans hF6
  clear hr0 hn0 hF6 h1A h2A hXA hRA hFB hFA hX hR hF1 u0 u1 hok full
  generalize H0 = K at *
  refine KC.seq ?_
  refine KC.draw (n := 20) (anc := [0, 1, 0, 4, 0, 0, 60, 0, 128, 508, 0, 0, 2048, 0, 0, 30720, 65532, 131071, 262143, 524287]) (hv := [9, 16, 18]) (ord := [2, 3, 4, 5, 6, 7, 8, 9, 10, 11, 12, 13, 14, 15, 16, 0, 1, 17, 18, 19]) (by kernel_rfl) (by kernel_rfl) (by kernel_rfl) (by kernel_rfl) (by kernel_rfl) fun H0 hn0 hr0 => ?_
  refine KD.pv 4 (PV.fieldAddr fo24_1 rfl) rfl rfl rfl (by kernel_rfl) rfl rfl rfl ?_
  have hX0 : H0.row H.next = some ⟨24, true, true, [.int .i64 vars, .slice a1 n1 c1, .slice a2 n2 c2]⟩ := (hr0 _).trans hX6
  refine KD.load 12 rfl (hX0) (by rw [read1 ag22]; exact (rfl)) (past1 ⟨_, (hX0), by rw [read1 ag22]; exact (rfl)⟩) (veq_sl) rfl (by kernel_rfl) rfl rfl rfl ?_
  refine KD.pv 28 (PV.move rfl) rfl rfl rfl (by kernel_rfl) rfl rfl rfl ?_
  refine KD.pv 60 (PV.move rfl) rfl rfl rfl (by kernel_rfl) rfl rfl rfl ?_
  refine KD.pv 124 (PV.slice rfl (fun _ h => by cases h) (fun _ => rfl) (fun _ h => by cases h; exact ⟨_, rfl, rfl⟩) (fun h => by cases h) (fun _ h => by cases h; exact ⟨_, rfl, rfl⟩) (fun h => by cases h) (slice_toM un22 sz3 hx1 (Nat.le_refl n1) hc1)) rfl rfl rfl (by kernel_rfl) rfl rfl rfl ?_
  refine KD.pv 252 (PV.move rfl) rfl rfl rfl (by kernel_rfl) rfl rfl rfl ?_
  refine KD.buildSlice 508 el22 ez3 rfl rfl (rfl) rfl (by kernel_rfl) rfl rfl rfl fun B8 m8 => ?_
  have hF8 : Frh K B8 := Frh.upd ⟨by omega, fun j _ => hr0 j⟩ m8 (Nat.le_add_right _ _)
  have hV8 : VL B8 .i64 (.slice a1 n1 n1) us := by
    have := (hV1.frame hF8).take (Nat.le_refl n1) (Nat.le_refl n1)
    rwa [List.take_of_length_le (by omega)] at this
  refine KD.appendV 1020 el22 ez3 sb3 un22 rfl rfl (hV8) (hx1) ((newElems_one (m8.row _ ▸ if_pos rfl) rfl rfl)) (rfl) ((Nat.succ_pos 0)) ((by omega)) rfl (by kernel_rfl) rfl rfl rfl fun v9 C9 k1 k2 k3 => ?_
  obtain ⟨x9, y9, z9, rfl⟩ := (GL.ofLst k1).sl
  have hF9 : Frh K C9 := hF8.trans k2
  have hX9 : C9.row H.next = some ⟨24, true, true, [.int .i64 vars, .slice a1 n1 c1, .slice a2 n2 c2]⟩ := (hF9.2 _ (by omega)).trans hX6
  refine KD.buildSlice 2044 el22 ez3 rfl rfl (rfl) rfl (by kernel_rfl) rfl rfl rfl fun B10 m10 => ?_
  have hF10 : Frh K B10 := hF9.upd m10 (Nat.le_add_right _ _)
  have hX10 : B10.row H.next = some ⟨24, true, true, [.int .i64 vars, .slice a1 n1 c1, .slice a2 n2 c2]⟩ := (hF10.2 _ (by omega)).trans hX6
  have hV10 : VL B10 .i64 (.slice a2 n2 n2) ss := by
    have := (hV2.frame hF10).take (Nat.le_refl n2) (Nat.le_refl n2)
    rwa [List.take_of_length_le (by omega)] at this
  refine KD.pv 4092 (PV.fieldAddr fo24_2 rfl) rfl rfl rfl (by kernel_rfl) rfl rfl rfl ?_
  refine KD.load 8188 rfl (hX10) (by rw [read1 ag22]; exact (rfl)) (past2 ⟨_, hX9, by rw [read1 ag22]; rfl⟩ ⟨_, hX0, by rw [read1 ag22]; rfl⟩) (veq_sl) rfl (by kernel_rfl) rfl rfl rfl ?_
  refine KD.pv 16380 (PV.move rfl) rfl rfl rfl (by kernel_rfl) rfl rfl rfl ?_
  refine KD.pv 32764 (PV.move rfl) rfl rfl rfl (by kernel_rfl) rfl rfl rfl ?_
  refine KD.pv 65532 (PV.slice rfl (fun _ h => by cases h) (fun _ => rfl) (fun _ h => by cases h; exact ⟨_, rfl, rfl⟩) (fun h => by cases h) (fun _ h => by cases h; exact ⟨_, rfl, rfl⟩) (fun h => by cases h) (slice_toM un22 sz3 hx2 (Nat.le_refl n2) hc2)) rfl rfl rfl (by kernel_rfl) rfl rfl rfl ?_
  refine KD.appendG 131068 el22 ez3 sb3 un22 rfl rfl ((GL.nil rfl)) (hV10.new) ((by simp [hl2])) (rfl) ((by simp [hl2]; omega)) rfl (by kernel_rfl) rfl rfl rfl fun v16 C16 D16 g1 g2 g3 g4 => ?_
  obtain ⟨x16, y16, z16, rfl⟩ := g1.sl
  have hF16 : Frh K C16 := hF10.keep g2 (fun j hj => g3 j List.not_mem_nil hj)
  have hX16 : C16.row H.next = some ⟨24, true, true, [.int .i64 vars, .slice a1 n1 c1, .slice a2 n2 c2]⟩ := (hF16.2 _ (by omega)).trans hX6
  have hR16 : C16.row (H.next + 1) = some ⟨24, true, true, [.int .i64 0, .slice none 0 0, .slice none 0 0]⟩ := (hF16.2 _ (by omega)).trans hR6
  refine KD.pv 131069 (PV.fieldAddr fo24_0 rfl) rfl rfl rfl (by kernel_rfl) rfl rfl rfl ?_
  refine KD.load 131071 rfl (hX16) (by rw [read1 ag3]; exact (rfl)) (past3 ⟨_, hX16, by rw [read1 ag3]; rfl⟩ ⟨_, hX9, by rw [read1 ag3]; rfl⟩ ⟨_, hX0, by rw [read1 ag3]; rfl⟩) (veq_int) rfl (by kernel_rfl) rfl rfl rfl ?_
  refine KD.pv 262143 (PV.build (rfl) ((bld24a _ _ _ ⟨_, _, _, rfl⟩ ⟨_, _, _, rfl⟩))) rfl rfl rfl (by kernel_rfl) rfl rfl rfl ?_
  refine KD.storeN 524287 sz24 rfl rfl (rfl) (hR16) (rfl) ((Nat.le_refl _)) rfl (by kernel_rfl) rfl rfl fun Z z1 => ?_
  refine KD.pv 1048575 (PV.assign rfl) rfl rfl rfl (by kernel_rfl) rfl rfl rfl ?_
  refine KD.nil ⟨rfl, ?_⟩
  have e8 := m8.next
  have e10 := m10.next
  have ez := z1.next
  have e2 := hF16.1
  refine KC.ret ⟨rfl, _, _, _, rfl, load24 (by rw [z1.row, if_pos rfl]; rfl), rfl, _, _, us ++ [lit], ss, rfl, ⟨⟨vars, _, _, _, _, _, _, [B8.next], D16, rfl, hvw, .ofLst ?_, ?_, fun j hj => ?_, fun j hj => ?_, fun j hj hj' => ?_⟩, (hF7.trans hF16).upd z1 (by omega), fun u hu => ?_, hw2, by rw [List.length_append, List.length_singleton]; omega, by omega⟩, by rw [List.length_append, List.length_singleton]; omega, by omega, fun _ => by simp⟩
  · rw [List.map_append]
    exact k1.frame fun j hj => by
      simp only [List.mem_singleton] at hj
      rw [z1.row, if_neg (by omega), g3 j List.not_mem_nil (by omega), m10.row, if_neg (show j ≠ K.next + 10 by omega)]
  · exact (show GL C16 3 1 _ (ss.map (Value.int .i64)) D16 from g1).frame fun j hj => by
      rcases g4 j hj with h | h
      · cases h
      · rw [z1.row, if_neg (by omega)]
  · simp only [List.mem_singleton] at hj
    show H.next ≤ j ∧ j < Z.next
    omega
  · show H.next ≤ j ∧ j < Z.next
    rcases g4 j hj with h | h
    · cases h
    · omega
  · simp only [List.mem_singleton] at hj
    rcases g4 j hj' with h | h
    · cases h
    · omega
  · rcases List.mem_append.1 hu with h | h
    · exact hw1 u h
    · simp only [List.mem_singleton] at h
      rw [h]; exact hlit

theorem as_Imply (H : AHeap) (vars lit : Int) (a1 a2 : Option Addr) (n1 c1 n2 c2 : Nat) (us ss : List Int) (h1 : VL H .i64 (.slice a1 n1 c1) us) (h2 : VL H .i64 (.slice a2 n2 c2) ss) (hx1 : exactBase a1 = true) (hx2 : exactBase a2 = true) (hb1 : n1 ≤ 300000000) (hb2 : n2 ≤ 300000000) (hlit : IntKind.i64.wrap lit = lit) (hvw : IntKind.i64.wrap vars = vars) :
    WF E0 61 [.agg #[.int .i64 vars, .slice a1 n1 c1, .slice a2 n2 c2], .int .i64 lit] H fun q => ∃ v e us' ss', q.1 = .tuple #[v, .int .i64 e] ∧ AsG H q.2 v us' ss' := by
  refine WF.kc2 Tryz.func61 rfl rfl rfl ?_
  refine KC.seq (KC.region ?_)
  refine KO.box (rfl) (rfl) rfl rfl fun G0 u0 => ?_
  refine KO.alloc zt24 rfl rfl fun G1 u1 => ?_
  refine KO.pv (PV.assign rfl) rfl rfl ?_
  refine KO.nil ?_
  have hn0 := u0.next
  have hn1 := u1.next
  have hX : G1.row H.next = some ⟨24, true, true, [.int .i64 vars, .slice a1 n1 c1, .slice a2 n2 c2]⟩ := by rw [u1.row, if_neg (by omega), u0.row, if_pos rfl]; rfl
  have hR : G1.row (H.next + 1) = some ⟨24, true, true, [.int .i64 0, .slice none 0 0, .slice none 0 0]⟩ := by rw [u1.row, if_pos hn0.symm]
  have hF1 : Frh H G1 := (Frh.new u0).trans (.new u1)
  rw [hn0]
  refine KC.seq (KC.region ?_)
  refine KO.loadN ag24 sz24 rfl (hX) (rfl) rfl rfl ?_
  refine KO.pv (PV.move rfl) rfl rfl ?_
  refine KO.call rfl rfl rfl rfl ((as_put G1 vars lit a1 a2 n1 c1 n2 c2 us ss (h1.frame hF1) (h2.frame hF1) hx1 hx2 hb1 hb2 hlit hvw)) fun v1 A q1 => ?_
  obtain ⟨v, e, us1, ss1, hv1, hG, hle1, hle2, hne⟩ := q1
  dsimp only at hv1 hG
  subst hv1
  have hG0 := hG
  obtain ⟨⟨vars1, b1, m1, d1, b2, m2, d2, D1, D2, rfl, e2, e3, e4, e5, e6, e7⟩, f, w1, w2, l1, l2⟩ := hG
  have hRA := (f.2 (H.next + 1) (by omega)).trans hR
  refine KO.pv (PV.extract rfl rfl) rfl rfl ?_
  refine KO.pv (PV.extract rfl rfl) rfl rfl ?_
  refine KO.store rfl rfl sz24 (rfl) (hRA) (rfl) ((Nat.le_refl _)) rfl fun B x1 => ?_
  refine KO.pv (PV.assign rfl) rfl rfl ?_
  refine KO.nil ?_
  have hfn := f.1
  refine KC.ret ⟨rfl, _, _, _, rfl, load24 (by rw [x1.row, if_pos rfl]; rfl), rfl, _, _, us1, ss1, rfl, ⟨⟨_, _, _, _, _, _, _, D1, D2, rfl, e2, e3.frame fun j hj => ?_, e4.frame fun j hj => ?_, fun j hj => ?_, fun j hj => ?_, e7⟩, (hF1.trans f).upd x1 (by omega), w1, w2, l1, l2⟩⟩
  · have := e5 j hj; rw [x1.row, if_neg (by omega)]
  · have := e6 j hj; rw [x1.row, if_neg (by omega)]
  · have := e5 j hj; have := x1.next; show H.next ≤ j ∧ j < B.next; omega
  · have := e6 j hj; have := x1.next; show H.next ≤ j ∧ j < B.next; omega

theorem as_Decide (H : AHeap) (vars lit : Int) (a1 a2 : Option Addr) (n1 c1 n2 c2 : Nat) (us ss : List Int) (h1 : VL H .i64 (.slice a1 n1 c1) us) (h2 : VL H .i64 (.slice a2 n2 c2) ss) (hx1 : exactBase a1 = true) (hx2 : exactBase a2 = true) (hb1 : n1 ≤ 300000000) (hb2 : n2 ≤ 300000000) (hlit : IntKind.i64.wrap lit = lit) (hvw : IntKind.i64.wrap vars = vars) :
    WF E0 58 [.agg #[.int .i64 vars, .slice a1 n1 c1, .slice a2 n2 c2], .int .i64 lit] H fun q => ∃ v e us' ss', q.1 = .tuple #[v, .int .i64 e] ∧ AsG H q.2 v us' ss' := by
  refine WF.kc2 Tryz.func58 rfl rfl rfl ?_
  refine KC.seq (KC.region ?_)
  refine KO.box (rfl) (rfl) rfl rfl fun G0 u0 => ?_
  refine KO.alloc zt24 rfl rfl fun G1 u1 => ?_
  refine KO.pv (PV.assign rfl) rfl rfl ?_
  refine KO.nil ?_
  have hn0 := u0.next
  have hn1 := u1.next
  have hX : G1.row H.next = some ⟨24, true, true, [.int .i64 vars, .slice a1 n1 c1, .slice a2 n2 c2]⟩ := by rw [u1.row, if_neg (by omega), u0.row, if_pos rfl]; rfl
  have hR : G1.row (H.next + 1) = some ⟨24, true, true, [.int .i64 0, .slice none 0 0, .slice none 0 0]⟩ := by rw [u1.row, if_pos hn0.symm]
  have hF1 : Frh H G1 := (Frh.new u0).trans (.new u1)
  rw [hn0]
  refine KC.seq (KC.region ?_)
  refine KO.loadN ag24 sz24 rfl (hX) (rfl) rfl rfl ?_
  refine KO.pv (PV.move rfl) rfl rfl ?_
  refine KO.call rfl rfl rfl rfl ((as_put G1 vars lit a1 a2 n1 c1 n2 c2 us ss (h1.frame hF1) (h2.frame hF1) hx1 hx2 hb1 hb2 hlit hvw)) fun v1 A q1 => ?_
  obtain ⟨v, e, us1, ss1, hv1, hG, hle1, hle2, hne⟩ := q1
  dsimp only at hv1 hG
  subst hv1
  obtain ⟨⟨vars1, b1, m1, d1, b2, m2, d2, D1, D2, rfl, e2, e3, e4, e5, e6, e7⟩, f, w1, w2, l1, l2⟩ := hG
  have hRA := (f.2 (H.next + 1) (by omega)).trans hR
  refine KO.pv (PV.move rfl) rfl rfl ?_
  refine KO.pv (PV.extract rfl rfl) rfl rfl ?_
  refine KO.pv (PV.extract rfl rfl) rfl rfl ?_
  refine KO.alloc zt24 rfl rfl fun B1 x1 => ?_
  have hRB : B1.row A.next = some ⟨24, true, true, [.int .i64 0, .slice none 0 0, .slice none 0 0]⟩ := by rw [x1.row, if_pos rfl]
  refine KO.store rfl rfl sz24 (rfl) (hRB) (rfl) ((Nat.le_refl _)) rfl fun B x2 => ?_
  refine KO.pv (PV.assign rfl) rfl rfl ?_
  refine KO.nil ?_
  have hfn := f.1
  have y1 := x1.next
  have y2 := x2.next
  have hO : B.row A.next = some ⟨24, true, true, [.int .i64 vars1, .slice b1 m1 d1, .slice b2 m2 d2]⟩ := by rw [x2.row, if_pos rfl]; rfl
  have hRB' : B.row (H.next + 1) = some ⟨24, true, true, [.int .i64 0, .slice none 0 0, .slice none 0 0]⟩ := by rw [x2.row, if_neg (by omega), x1.row, if_neg (by omega)]; exact hRA
  have hFB : Frh H B := ((hF1.trans f).trans (.new x1)).upd x2 (by omega)
  have e3B : GL B 3 1 (.slice b1 m1 d1) (us1.map (Value.int .i64)) D1 := e3.frame fun j hj => by have := e5 j hj; rw [x2.row, if_neg (by omega), x1.row, if_neg (by omega)]
  have e4B : GL B 3 1 (.slice b2 m2 d2) (ss1.map (Value.int .i64)) D2 := e4.frame fun j hj => by have := e6 j hj; rw [x2.row, if_neg (by omega), x1.row, if_neg (by omega)]
  refine KC.seq (KC.seq (KC.region ?_))
  refine KO.pv (PV.move rfl) rfl rfl ?_
  refine KO.pv (PV.neq rfl rfl) rfl rfl ?_
  refine KO.nil ?_
  refine KC.cond rfl (fun hb => ?_) (fun hb => KC.skip ?_)
  · refine KC.seq (KC.region ?_)
    refine KO.pv (PV.build (rfl) (bld24)) rfl rfl ?_
    refine KO.pv (PV.move rfl) rfl rfl ?_
    refine KO.store rfl rfl sz24 (rfl) (hRB') (rfl) ((Nat.le_refl _)) rfl fun Z z1 => ?_
    refine KO.pv (PV.assign rfl) rfl rfl ?_
    refine KO.nil ?_
    exact KC.ret ⟨rfl, _, _, _, rfl, load24 (by rw [z1.row, if_pos rfl]; rfl), rfl, _, _, _, _, rfl, .zero rfl (hFB.upd z1 (by omega))⟩
  have he0 : e = 0 := by simpa using hb
  have hpos := hne he0
  have hm1 : us1.length = m1 := by have := e3.len.1; rwa [List.length_map] at this
  have hm2 : ss1.length = m2 := by have := e4.len.1; rwa [List.length_map] at this
  refine KC.seq (KC.region ?_)
  refine KO.pv (PV.fieldAddr fo24_2 rfl) rfl rfl ?_
  refine KO.load1 ag22 rfl (hO) (rfl) rfl rfl ?_
  refine KO.pv (PV.fieldAddr fo24_1 rfl) rfl rfl ?_
  refine KO.load1 ag22 rfl (hO) (rfl) rfl rfl ?_
  refine KO.pv (PV.len un22 rfl) rfl rfl ?_
  refine KO.pv (PV.sub rfl rfl ((show _ = ((m1 - 1 : Nat) : Int) from (wrap64 (by omega) (by omega)).trans (by omega)))) rfl rfl ?_
  refine KO.buildSlice el22 ez3 rfl rfl (rfl) rfl rfl fun C1 c1_ => ?_
  have e4C : GL C1 3 1 (.slice b2 m2 d2) (ss1.map (Value.int .i64)) D2 := e4B.frame fun j hj => by have := e6 j hj; rw [c1_.row, if_neg (by omega)]
  have hO1 : C1.row A.next = some ⟨24, true, true, [.int .i64 vars1, .slice b1 m1 d1, .slice b2 m2 d2]⟩ := by rw [c1_.row, if_neg (by omega)]; exact hO
  have y3 := c1_.next
  refine KO.appendG el22 ez3 sb3 un22 rfl rfl (e4C) ((newElems_one (c1_.row _ ▸ if_pos rfl) rfl rfl)) (rfl) ((ints_all _)) ((by simp only [List.length_map, List.length_cons, List.length_nil]; omega)) rfl rfl fun v5 C2 D5 k1 k2 k3 k4 => ?_
  have hO2 : C2.row A.next = some ⟨24, true, true, [.int .i64 vars1, .slice b1 m1 d1, .slice b2 m2 d2]⟩ := (k3 _ (fun h => by have := e6 _ h; omega) (by omega)).trans hO1
  obtain ⟨b5, m5, d5, rfl⟩ := k1.sl
  refine KO.pv (PV.fieldAddr fo24_2 rfl) rfl rfl ?_
  refine KO.store1 sz22 rfl rfl (k1.one) (hO2) (rfl) ((show 0 + 2 < 3 by decide)) rfl fun C3 c3_ => ?_
  refine KO.nil ?_
  have y4 := c3_.next
  have hO3 : C3.row A.next = some ⟨24, true, true, [.int .i64 vars1, .slice b1 m1 d1, .slice b5 m5 d5]⟩ := by rw [c3_.row, if_pos rfl]; rfl
  have keep : ∀ j, j < C1.next → j ≠ A.next → j ∉ D2 → C3.row j = C1.row j := fun j h1 h2 h3 => by rw [c3_.row, if_neg h2]; exact k3 j h3 h1
  have hR3 : C3.row (H.next + 1) = some ⟨24, true, true, [.int .i64 0, .slice none 0 0, .slice none 0 0]⟩ := by rw [keep _ (by omega) (by omega) (fun h => by have := e6 _ h; omega), c1_.row, if_neg (by omega)]; exact hRB'
  refine KC.seq (KC.region ?_)
  refine KO.loadN ag24 sz24 rfl (hO3) (rfl) rfl rfl ?_
  refine KO.store rfl rfl sz24 (rfl) (hR3) (rfl) ((Nat.le_refl _)) rfl fun Z z1 => ?_
  refine KO.pv (PV.assign rfl) rfl rfl ?_
  refine KO.nil ?_
  have y5 := z1.next
  refine KC.ret ⟨rfl, _, _, _, rfl, load24 (by rw [z1.row, if_pos rfl]; rfl), rfl, _, _, us1, ss1 ++ [((m1 - 1 : Nat) : Int)], rfl, ⟨⟨_, _, _, _, _, _, _, D1, D5, rfl, e2, e3B.frame fun j hj => ?_, ?_, fun j hj => ?_, fun j hj => ?_, fun j hj hj' => ?_⟩, ?_, w1, fun u hu => ?_, l1, by rw [List.length_append, List.length_singleton]; omega⟩⟩
  · have := e5 j hj
    rw [z1.row, if_neg (by omega), keep j (by omega) (by omega) (e7 j hj), c1_.row, if_neg (by omega)]
  · rw [List.map_append]
    exact k1.frame fun j hj => by
      rcases k4 j hj with h | h
      · have := e6 j h
        rw [z1.row, if_neg (by omega), c3_.row, if_neg (by omega)]
      · rw [z1.row, if_neg (by omega), c3_.row, if_neg (by omega)]
  · have := e5 j hj; show H.next ≤ j ∧ j < Z.next; omega
  · show H.next ≤ j ∧ j < Z.next
    rcases k4 j hj with h | h
    · have := e6 j h; omega
    · omega
  · have := e5 j hj
    rcases k4 j hj' with h | h
    · exact e7 j hj h
    · omega
  · refine ⟨by show H.next ≤ Z.next; omega, fun j hj => ?_⟩
    show Z.row j = H.row j
    rw [z1.row, if_neg (by omega), keep j (by omega) (by omega) (fun h => by have := e6 j h; omega), c1_.row, if_neg (by omega)]
    exact hFB.2 j hj
  · rcases List.mem_append.1 hu with h | h
    · exact w2 u h
    · simp only [List.mem_singleton] at h
      rw [h]; exact wrap64 (by omega) (by omega)

end Go.Eng

namespace Go.Eng
open Go Go.Proofs
theorem as_Value (H : AHeap) (vars lit : Int) (a1 a2 : Option Addr) (n1 c1 n2 c2 : Nat) (us ss : List Int) (h1 : VL H .i64 (.slice a1 n1 c1) us) (h2 : VL H .i64 (.slice a2 n2 c2) ss) (hlit : IntKind.i64.wrap lit = lit) : WF E0 64 [.agg #[.int .i64 vars, .slice a1 n1 c1, .slice a2 n2 c2], .int .i64 lit] H fun q => Frh H q.2 := by
  refine WF.k Tryz.func64 rfl rfl ?_
  refine KC.seq (KC.region ?_)
  refine KO.box (rfl) (rfl) rfl rfl fun G0 u0 => ?_
  refine KO.pv (PV.assign rfl) rfl rfl ?_
  refine KO.pv (PV.assign rfl) rfl rfl ?_
  refine KO.nil ?_
  have hX : G0.row H.next = some ⟨24, true, true, [.int .i64 vars, .slice a1 n1 c1, .slice a2 n2 c2]⟩ := by rw [u0.row, if_pos rfl]; rfl
  have hn0 := u0.next
  have hF0 : Frh H G0 := .new u0
  refine KC.seq (KC.seq (KC.region ?_))
  refine KO.loadN ag24 sz24 rfl (hX) (rfl) rfl rfl ?_
  refine KO.pv (PV.move rfl) rfl rfl ?_
  refine KO.call rfl rfl rfl rfl ((as_open G0 vars lit a1 a2 n1 c1 n2 c2 us ss (h1.frame hF0) (h2.frame hF0) hlit)) fun v1 A q1 => ?_
  obtain ⟨hFA, e1, hv1, hok⟩ := q1
  dsimp only at hFA hv1
  subst hv1
  refine KO.pv (PV.assign rfl) rfl rfl ?_
  refine KO.nil ?_
  refine KC.seq (KC.region ?_)
  refine KO.pv (PV.move rfl) rfl rfl ?_
  refine KO.pv (PV.neq rfl rfl) rfl rfl ?_
  refine KO.nil ?_
  have hFB := hF0.trans hFA
  refine KC.cond rfl (fun hb => ?_) (fun hb => KC.skip ?_)
  · refine KC.seq (KC.region ?_)
    refine KO.pv (PV.move rfl) rfl rfl ?_
    refine KO.pv (PV.assign rfl) rfl rfl ?_
    refine KO.pv (PV.assign rfl) rfl rfl ?_
    refine KO.nil ?_
    exact KC.ret ⟨rfl, _, rfl, hFB⟩
  have hXA : A.row H.next = some ⟨24, true, true, [.int .i64 vars, .slice a1 n1 c1, .slice a2 n2 c2]⟩ := (hFA.2 _ (by omega)).trans hX
  have h1A := h1.frame hFB
  refine KC.seq (KC.block (KC.seq (KC.region ?_)))
  refine KO.pv (PV.fieldAddr fo24_1 rfl) rfl rfl ?_
  refine KO.load1 ag22 rfl (hXA) (rfl) rfl rfl ?_
  refine KO.pv (PV.move rfl) rfl rfl ?_
  refine KO.call rfl rfl rfl rfl ((sl_Contains A a1 n1 c1 lit us h1A)) fun v2 A1 q2 => ?_
  obtain ⟨hA1, kb, hv2⟩ := q2
  dsimp only at hA1 hv2
  subst hv2
  subst hA1
  refine KO.pv (PV.assign rfl) rfl rfl ?_
  refine KO.nil ?_
  refine KC.cond rfl (fun _ => ?_) (fun _ => ?_)
  · refine KC.seq (KC.region ?_)
    refine KO.pv (PV.assign rfl) rfl rfl ?_
    refine KO.pv (PV.assign rfl) rfl rfl ?_
    refine KO.nil ?_
    exact KC.ret ⟨rfl, _, rfl, hFB⟩
  refine KC.seq (KC.region ?_)
  refine KO.pv (PV.fieldAddr fo24_1 rfl) rfl rfl ?_
  refine KO.load1 ag22 rfl (hXA) (rfl) rfl rfl ?_
  refine KO.pv (PV.move rfl) rfl rfl ?_
  refine KO.bits (.inr (.inr rfl)) rfl rfl rfl rfl fun nb hnb => ?_
  refine KO.call rfl rfl rfl rfl ((sl_Contains A1 a1 n1 c1 nb us h1A)) fun v3 A2 q3 => ?_
  obtain ⟨hA2, kb2, hv3⟩ := q3
  dsimp only at hA2 hv3
  subst hv3
  subst hA2
  refine KO.pv (PV.assign rfl) rfl rfl ?_
  refine KO.nil ?_
  refine KC.cond rfl (fun _ => ?_) (fun _ => KC.skip ?_)
  · refine KC.seq (KC.region ?_)
    refine KO.pv (PV.assign rfl) rfl rfl ?_
    refine KO.pv (PV.assign rfl) rfl rfl ?_
    refine KO.nil ?_
    exact KC.ret ⟨rfl, _, rfl, hFB⟩
  refine KC.seq (KC.region ?_)
  refine KO.pv (PV.assign rfl) rfl rfl ?_
  refine KO.pv (PV.assign rfl) rfl rfl ?_
  refine KO.nil ?_
  exact KC.ret ⟨rfl, _, rfl, hFB⟩

theorem as_Level1 (H : AHeap) (x lit : Int) (bx : Nat) (hr : H.row bx = some ⟨3, true, true, [.int .i64 lit]⟩) : WF E0 140 [.int .i64 x, .pointer (some ⟨bx, 0, none⟩)] H fun q => q.2 = H ∧ ∃ b : Bool, q.1 = .bool b := by
  refine WF.k Tryz.func140 rfl rfl ?_
  refine KC.seq (KC.region ?_)
  refine KO.pv (PV.assign rfl) rfl rfl ?_
  refine KO.nil ?_
  refine KC.seq (KC.region ?_)
  refine KO.pv (PV.move rfl) rfl rfl ?_
  refine KO.pv (PV.quo rfl rfl (by decide) rfl) rfl rfl ?_
  refine KO.load1 ag3 rfl (hr) (rfl) rfl rfl ?_
  refine KO.pv (PV.quo rfl rfl (by decide) rfl) rfl rfl ?_
  refine KO.pv (PV.eql rfl rfl) rfl rfl ?_
  refine KO.pv (PV.assign rfl) rfl rfl ?_
  refine KO.nil ?_
  exact KC.ret ⟨rfl, _, rfl, rfl, _, rfl⟩

theorem sl_IndexFunc (H : AHeap) (a1 : Option Addr) (n1 c1 : Nat) (lit : Int) (bx : Nat) (us : List Int) (h1 : VL H .i64 (.slice a1 n1 c1) us) (hrx : H.row bx = some ⟨3, true, true, [.int .i64 lit]⟩) : WF E0 139 [.slice a1 n1 c1, .func (.func 140) #[] #[.pointer (some ⟨bx, 0, none⟩)]] H fun q => q.2 = H ∧ ∃ z : Int, q.1 = .int .i64 z ∧ -1 ≤ z ∧ z < n1 := by
  obtain ⟨hl1, hc1, hm1, hw1⟩ := h1.len
  refine WF.k Tryz.func139 rfl rfl ?_
  refine KC.seq (KC.region ?_)
  refine KO.pv (PV.assign rfl) rfl rfl ?_
  refine KO.nil ?_
  refine KC.seq (KC.seq (KC.region ?_))
  refine KO.pv (PV.move rfl) rfl rfl ?_
  refine KO.pv (PV.len un22 rfl) rfl rfl ?_
  refine KO.pv (PV.move rfl) rfl rfl ?_
  refine KO.nil ?_
  refine KC.sub (l' := [(0, .slice a1 n1 c1), (1, .func (.func 140) #[] #[.pointer (some ⟨bx, 0, none⟩)]), (7, .int .i64 (n1 : Int)), (8, .int .i64 ((0 : Nat) : Int))]) (.cons rfl (.cons rfl (.cons rfl (.cons rfl .nil)))) ?_
  refine KC.block (KC.loopN (fun k l A => ∃ i : Nat, i + k = n1 ∧ l = [(0, .slice a1 n1 c1), (1, .func (.func 140) #[] #[.pointer (some ⟨bx, 0, none⟩)]), (7, .int .i64 (n1 : Int)), (8, .int .i64 (i : Int))] ∧ A = H) ?_ n1 ⟨0, by omega, rfl, rfl⟩)
  rintro k l A ⟨i, hik, rfl, rfl⟩
  refine KC.seq (KC.region ?_)
  refine KO.pv (PV.lss rfl rfl) rfl rfl ?_
  refine KO.nil ?_
  refine KC.seq (KC.cond rfl (fun hb => KC.skip ?_) (fun hb => KC.exit ?_))
  rotate_left
  · refine KC.seq (KC.region ?_)
    refine KO.pv (PV.assign rfl) rfl rfl ?_
    refine KO.nil ?_
    exact KC.ret ⟨rfl, _, rfl, rfl, _, rfl, by omega, by omega⟩
  have hi : i < n1 := by simpa using hb
  obtain ⟨b, off, sp, r, u, rfl, hbH, hr, hus, hcs, hwu⟩ := h1.at_ hi
  refine KC.seq (KC.block (KC.seq (KC.region ?_)))
  refine KO.pv (PV.move rfl) rfl rfl ?_
  refine KO.pv (PV.assign rfl) rfl rfl ?_
  refine KO.nil ?_
  refine KC.seq (KC.region ?_)
  refine KO.pv (PV.move rfl) rfl rfl ?_
  refine KO.pv (PV.move rfl) rfl rfl ?_
  refine KO.pv (PV.move rfl) rfl rfl ?_
  refine KO.pv (PV.indexAddr un22 sz3 rfl rfl (hi)) rfl rfl ?_
  refine KO.load1 ag3 rfl (hr) (hcs) rfl rfl ?_
  refine KO.callV rfl rfl rfl rfl rfl ((as_Level1 A u lit bx hrx)) fun v5 A5 q5 => ?_
  obtain ⟨hA5, kb, hv5⟩ := q5
  dsimp only at hA5 hv5
  subst hv5
  subst hA5
  refine KO.nil ?_
  refine KC.cond rfl (fun _ => ?_) (fun _ => KC.skip ?_)
  · refine KC.seq (KC.region ?_)
    refine KO.pv (PV.move rfl) rfl rfl ?_
    refine KO.pv (PV.assign rfl) rfl rfl ?_
    refine KO.nil ?_
    exact KC.ret ⟨rfl, _, rfl, rfl, _, rfl, by omega, by omega⟩
  refine KC.region ?_
  refine KO.pv (PV.add rfl rfl ((show _ = ((i + 1 : Nat) : Int) from wrap64 (by omega) (by omega)))) rfl rfl ?_
  refine KO.pv (PV.move rfl) rfl rfl ?_
  refine KO.nil ?_
  exact ⟨k - 1, _, by omega, .cons rfl (.cons rfl (.cons rfl (.cons rfl .nil))), i + 1, by omega, rfl, rfl⟩

theorem cmp_isNaN (H : AHeap) (x : Int) : WF E0 181 [.int .i64 x] H fun q => q.2 = H ∧ q.1 = .bool false := by
  refine WF.k Tryz.func181 rfl rfl ?_
  refine KC.seq (KC.region ?_)
  refine KO.pv (PV.assign rfl) rfl rfl ?_
  refine KO.nil ?_
  refine KC.seq (KC.region ?_)
  refine KO.pv (PV.move rfl) rfl rfl ?_
  refine KO.pv (PV.move rfl) rfl rfl ?_
  refine KO.pv (PV.neq rfl rfl) rfl rfl ?_
  refine KO.pv (PV.assign rfl) rfl rfl ?_
  refine KO.nil ?_
  exact KC.ret ⟨rfl, _, rfl, rfl, by show Value.bool (!(x == x)) = _; rw [beq_self_eq_true]; rfl⟩
theorem sl_isNaN (H : AHeap) (x : Int) : WF E0 169 [.int .i64 x] H fun q => q.2 = H ∧ q.1 = .bool false := by
  refine WF.k Tryz.func169 rfl rfl ?_
  refine KC.seq (KC.region ?_)
  refine KO.pv (PV.assign rfl) rfl rfl ?_
  refine KO.nil ?_
  refine KC.seq (KC.region ?_)
  refine KO.pv (PV.move rfl) rfl rfl ?_
  refine KO.pv (PV.move rfl) rfl rfl ?_
  refine KO.pv (PV.neq rfl rfl) rfl rfl ?_
  refine KO.pv (PV.assign rfl) rfl rfl ?_
  refine KO.nil ?_
  exact KC.ret ⟨rfl, _, rfl, rfl, by show Value.bool (!(x == x)) = _; rw [beq_self_eq_true]; rfl⟩
theorem cmp_Less (H : AHeap) (x y : Int) : WF E0 168 [.int .i64 x, .int .i64 y] H fun q => q.2 = H ∧ q.1 = .bool (decide (x < y)) := by
  refine WF.k Tryz.func168 rfl rfl ?_
  refine KC.seq (KC.region ?_)
  refine KO.pv (PV.assign rfl) rfl rfl ?_
  refine KO.nil ?_
  refine KC.seq (KC.region ?_)
  refine KO.pv (PV.move rfl) rfl rfl ?_
  refine KO.call rfl rfl rfl rfl ((cmp_isNaN H x)) fun v1 A1 q1 => ?_
  obtain ⟨hA1, hv1⟩ := q1
  dsimp only at hA1 hv1
  subst hv1
  subst hA1
  refine KO.pv (PV.move rfl) rfl rfl ?_
  refine KO.no rfl rfl rfl ?_
  refine KO.no rfl rfl rfl ?_
  refine KO.no rfl rfl rfl ?_
  refine KO.pv (PV.pickF rfl rfl rfl) rfl rfl ?_
  refine KO.pv (PV.move rfl) rfl rfl ?_
  refine KO.pv (PV.move rfl) rfl rfl ?_
  refine KO.pv (PV.move rfl) rfl rfl ?_
  refine KO.pv (PV.lss rfl rfl) rfl rfl ?_
  refine KO.pv (PV.pickF rfl rfl rfl) rfl rfl ?_
  refine KO.pv (PV.assign rfl) rfl rfl ?_
  refine KO.nil ?_
  exact KC.ret ⟨rfl, _, rfl, rfl, rfl⟩

theorem sl_BinarySearch (H : AHeap) (a1 : Option Addr) (n1 c1 : Nat) (x : Int) (us : List Int) (h1 : VL H .i64 (.slice a1 n1 c1) us) : WF E0 141 [.slice a1 n1 c1, .int .i64 x] H fun q => q.2 = H ∧ ∃ (z : Int) (b : Bool), q.1 = .tuple #[.int .i64 z, .bool b] ∧ 0 ≤ z ∧ z ≤ n1 := by
  obtain ⟨hl1, hc1, hm1, hw1⟩ := h1.len
  refine WF.k Tryz.func141 rfl rfl ?_
  refine KC.seq (KC.region ?_)
  refine KO.pv (PV.assign rfl) rfl rfl ?_
  refine KO.pv (PV.assign rfl) rfl rfl ?_
  refine KO.nil ?_
  refine KC.seq (KC.region ?_)
  refine KO.pv (PV.move rfl) rfl rfl ?_
  refine KO.pv (PV.len un22 rfl) rfl rfl ?_
  refine KO.pv (PV.assign rfl) rfl rfl ?_
  refine KO.nil ?_
  refine KC.seq (KC.region ?_)
  refine KO.pv (PV.move rfl) rfl rfl ?_
  refine KO.pv (PV.assign rfl) rfl rfl ?_
  refine KO.pv (PV.assign rfl) rfl rfl ?_
  refine KO.nil ?_
  refine KC.sub (l' := [(0, .slice a1 n1 c1), (1, .int .i64 x), (6, .int .i64 (n1 : Int)), (7, .int .i64 ((0 : Nat) : Int)), (8, .int .i64 (n1 : Int))]) (.cons rfl (.cons rfl (.cons rfl (.cons rfl (.cons rfl .nil))))) ?_
  refine KC.seq (KC.block (KC.loopN (fun k l A => ∃ i j : Nat, i ≤ j ∧ j ≤ n1 ∧ j - i ≤ k ∧ l = [(0, .slice a1 n1 c1), (1, .int .i64 x), (6, .int .i64 (n1 : Int)), (7, .int .i64 (i : Int)), (8, .int .i64 (j : Int))] ∧ A = H) ?_ n1 ⟨0, n1, by omega, by omega, by omega, rfl, rfl⟩))
  rintro k l A ⟨i, j, hij, hjn, hk, rfl, rfl⟩
  refine KC.seq (KC.seq (KC.region ?_))
  refine KO.pv (PV.move rfl) rfl rfl ?_
  refine KO.pv (PV.move rfl) rfl rfl ?_
  refine KO.pv (PV.lss rfl rfl) rfl rfl ?_
  refine KO.nil ?_
  refine KC.cond rfl (fun hb => KC.skip ?_) (fun hb => KC.exit ?_)
  · have hlt : i < j := by simpa using hb
    have hh : (i + j) / 2 < n1 := by omega
    obtain ⟨b, off, sp, r, u, rfl, hbH, hr, hus, hcs, hwu⟩ := h1.at_ hh
    refine KC.block (KC.seq (KC.region ?_))
    refine KO.pv (PV.move rfl) rfl rfl ?_
    refine KO.pv (PV.move rfl) rfl rfl ?_
    refine KO.pv (PV.add rfl rfl ((show _ = ((i + j : Nat) : Int) from wrap64 (by omega) (by omega)))) rfl rfl ?_
    refine KO.pv (PV.convert un3 un172 rfl) rfl rfl ?_
    rw [show IntKind.u64.wrap ((i + j : Nat) : Int) = ((i + j : Nat) : Int) from wrapU64 (by omega) (by omega)]
    refine KO.pv (PV.shr rfl rfl ((by decide))) rfl rfl ?_
    rw [show Int.fdiv ((i + j : Nat) : Int) (2 ^ (min (1 : Int).toNat IntKind.u64.bits)) = (((i + j) / 2 : Nat) : Int) from fdiv_nat (i + j) 2]
    refine KO.pv (PV.convert un172 un3 rfl) rfl rfl ?_
    rw [show IntKind.i64.wrap (((i + j) / 2 : Nat) : Int) = (((i + j) / 2 : Nat) : Int) from wrap64 (by omega) (by omega)]
    refine KO.pv (PV.assign rfl) rfl rfl ?_
    refine KO.nil ?_
    refine KC.seq (KC.region ?_)
    refine KO.pv (PV.move rfl) rfl rfl ?_
    refine KO.pv (PV.move rfl) rfl rfl ?_
    refine KO.pv (PV.indexAddr un22 sz3 rfl rfl (hh)) rfl rfl ?_
    refine KO.load1 ag3 rfl (hr) (hcs) rfl rfl ?_
    refine KO.pv (PV.move rfl) rfl rfl ?_
    refine KO.call rfl rfl rfl rfl ((cmp_Less A u x)) fun v5 A5 q5 => ?_
    obtain ⟨hA5, hv5⟩ := q5
    dsimp only at hA5 hv5
    subst hv5
    subst hA5
    refine KO.nil ?_
    refine KC.cond rfl (fun _ => KC.region ?_) (fun _ => KC.region ?_)
    · refine KO.pv (PV.move rfl) rfl rfl ?_
      refine KO.pv (PV.add rfl rfl ((show _ = (((i + j) / 2 + 1 : Nat) : Int) from wrap64 (by omega) (by omega)))) rfl rfl ?_
      refine KO.pv (PV.assign rfl) rfl rfl ?_
      refine KO.nil ?_
      exact ⟨k - 1, _, by omega, .cons rfl (.cons rfl (.cons rfl (.cons rfl (.cons rfl .nil)))), (i + j) / 2 + 1, j, by omega, by omega, by omega, rfl, rfl⟩
    · refine KO.pv (PV.move rfl) rfl rfl ?_
      refine KO.pv (PV.assign rfl) rfl rfl ?_
      refine KO.nil ?_
      exact ⟨k - 1, _, by omega, .cons rfl (.cons rfl (.cons rfl (.cons rfl (.cons rfl .nil)))), i, (i + j) / 2, by omega, by omega, by omega, rfl, rfl⟩
  refine KC.seq (KC.region ?_)
  by_cases e1 : (i : Int) < (n1 : Int)
  · have hin : i < n1 := by omega
    obtain ⟨b, off, sp, r, u, rfl, hbH, hr, hus, hcs, hwu⟩ := h1.at_ hin
    by_cases e2 : u = x
    · refine KO.pv (PV.move rfl) rfl rfl ?_
      refine KO.pv (PV.move rfl) rfl rfl ?_
      refine KO.pv (PV.move rfl) rfl rfl ?_
      refine KO.pv (PV.lss rfl rfl) rfl rfl ?_
      rw [decide_eq_true e1]
      refine KO.pv (PV.move rfl) rfl rfl ?_
      refine KO.pv (PV.move rfl) rfl rfl ?_
      refine KO.pv (PV.move rfl) rfl rfl ?_
      refine KO.pv (PV.indexAddr un22 sz3 rfl rfl (hin)) rfl rfl ?_
      refine KO.load1 ag3 rfl (hr) (hcs) rfl rfl ?_
      refine KO.pv (PV.move rfl) rfl rfl ?_
      refine KO.pv (PV.eql rfl rfl) rfl rfl ?_
      rw [show (u == x) = true by simp [e2]]
      refine KO.pv (PV.move rfl) rfl rfl ?_
      refine KO.no rfl rfl rfl ?_
      refine KO.no rfl rfl rfl ?_
      refine KO.no rfl rfl rfl ?_
      refine KO.no rfl rfl rfl ?_
      refine KO.no rfl rfl rfl ?_
      refine KO.no rfl rfl rfl ?_
      refine KO.no rfl rfl rfl ?_
      refine KO.no rfl rfl rfl ?_
      refine KO.no rfl rfl rfl ?_
      refine KO.pv (PV.pickT rfl rfl rfl) rfl rfl ?_
      refine KO.pv (PV.pickT rfl rfl rfl) rfl rfl ?_
      refine KO.pv (PV.assign rfl) rfl rfl ?_
      refine KO.pv (PV.assign rfl) rfl rfl ?_
      refine KO.nil ?_
      exact KC.ret ⟨rfl, _, rfl, rfl, _, _, rfl, by omega, by omega⟩
    · refine KO.pv (PV.move rfl) rfl rfl ?_
      refine KO.pv (PV.move rfl) rfl rfl ?_
      refine KO.pv (PV.move rfl) rfl rfl ?_
      refine KO.pv (PV.lss rfl rfl) rfl rfl ?_
      rw [decide_eq_true e1]
      refine KO.pv (PV.move rfl) rfl rfl ?_
      refine KO.pv (PV.move rfl) rfl rfl ?_
      refine KO.pv (PV.move rfl) rfl rfl ?_
      refine KO.pv (PV.indexAddr un22 sz3 rfl rfl (hin)) rfl rfl ?_
      refine KO.load1 ag3 rfl (hr) (hcs) rfl rfl ?_
      refine KO.pv (PV.move rfl) rfl rfl ?_
      refine KO.pv (PV.eql rfl rfl) rfl rfl ?_
      rw [show (u == x) = false by simp [e2]]
      refine KO.pv (PV.move rfl) rfl rfl ?_
      refine KO.pv (PV.move rfl) rfl rfl ?_
      refine KO.pv (PV.move rfl) rfl rfl ?_
      refine KO.pv (PV.indexAddr un22 sz3 rfl rfl (hin)) rfl rfl ?_
      refine KO.load1 ag3 rfl (hr) (hcs) rfl rfl ?_
      refine KO.call rfl rfl rfl rfl ((sl_isNaN A u)) fun v6 A6 q6 => ?_
      obtain ⟨hA6, hv6⟩ := q6
      dsimp only at hA6 hv6
      subst hv6
      subst hA6
      refine KO.pv (PV.move rfl) rfl rfl ?_
      refine KO.no rfl rfl rfl ?_
      refine KO.no rfl rfl rfl ?_
      refine KO.pv (PV.pickF rfl rfl rfl) rfl rfl ?_
      refine KO.pv (PV.pickF rfl rfl rfl) rfl rfl ?_
      refine KO.pv (PV.pickT rfl rfl rfl) rfl rfl ?_
      refine KO.pv (PV.assign rfl) rfl rfl ?_
      refine KO.pv (PV.assign rfl) rfl rfl ?_
      refine KO.nil ?_
      exact KC.ret ⟨rfl, _, rfl, rfl, _, _, rfl, by omega, by omega⟩
  · refine KO.pv (PV.move rfl) rfl rfl ?_
    refine KO.pv (PV.move rfl) rfl rfl ?_
    refine KO.pv (PV.move rfl) rfl rfl ?_
    refine KO.pv (PV.lss rfl rfl) rfl rfl ?_
    rw [decide_eq_false e1]
    refine KO.pv (PV.move rfl) rfl rfl ?_
    refine KO.no rfl rfl rfl ?_
    refine KO.no rfl rfl rfl ?_
    refine KO.no rfl rfl rfl ?_
    refine KO.no rfl rfl rfl ?_
    refine KO.no rfl rfl rfl ?_
    refine KO.no rfl rfl rfl ?_
    refine KO.no rfl rfl rfl ?_
    refine KO.no rfl rfl rfl ?_
    refine KO.no rfl rfl rfl ?_
    refine KO.no rfl rfl rfl ?_
    refine KO.no rfl rfl rfl ?_
    refine KO.no rfl rfl rfl ?_
    refine KO.no rfl rfl rfl ?_
    refine KO.no rfl rfl rfl ?_
    refine KO.no rfl rfl rfl ?_
    refine KO.no rfl rfl rfl ?_
    refine KO.no rfl rfl rfl ?_
    refine KO.pv (PV.pickF rfl rfl rfl) rfl rfl ?_
    refine KO.pv (PV.assign rfl) rfl rfl ?_
    refine KO.pv (PV.assign rfl) rfl rfl ?_
    refine KO.nil ?_
    exact KC.ret ⟨rfl, _, rfl, rfl, _, _, rfl, by omega, by omega⟩

theorem as_Level (H : AHeap) (vars lit : Int) (a1 a2 : Option Addr) (n1 c1 n2 c2 : Nat) (us ss : List Int) (h1 : VL H .i64 (.slice a1 n1 c1) us) (h2 : VL H .i64 (.slice a2 n2 c2) ss) (hlit : IntKind.i64.wrap lit = lit) : WF E0 66 [.agg #[.int .i64 vars, .slice a1 n1 c1, .slice a2 n2 c2], .int .i64 lit] H fun q => Frh H q.2 := by
  refine WF.k Tryz.func66 rfl rfl ?_
  refine KC.seq (KC.region ?_)
  refine KO.box (rfl) (rfl) rfl rfl fun G0 u0 => ?_
  refine KO.box (rfl) (rfl) rfl rfl fun G1 u1 => ?_
  refine KO.pv (PV.assign rfl) rfl rfl ?_
  refine KO.pv (PV.assign rfl) rfl rfl ?_
  refine KO.nil ?_
  have hn0 := u0.next
  have hn1 := u1.next
  have hX : G1.row H.next = some ⟨24, true, true, [.int .i64 vars, .slice a1 n1 c1, .slice a2 n2 c2]⟩ := by rw [u1.row, if_neg (by omega), u0.row, if_pos rfl]; rfl
  have hY : G1.row (H.next + 1) = some ⟨3, true, true, [.int .i64 lit]⟩ := by rw [u1.row, if_pos hn0.symm]; rfl
  have hF0 : Frh H G1 := (Frh.new u0).trans (.new u1)
  rw [hn0]
  refine KC.seq (KC.seq (KC.region ?_))
  refine KO.loadN ag24 sz24 rfl (hX) (rfl) rfl rfl ?_
  refine KO.load1 ag3 rfl (hY) (rfl) rfl rfl ?_
  refine KO.call rfl rfl rfl rfl ((as_open G1 vars lit a1 a2 n1 c1 n2 c2 us ss (h1.frame hF0) (h2.frame hF0) hlit)) fun v1 A q1 => ?_
  obtain ⟨hFA, e1, hv1, hok⟩ := q1
  dsimp only at hFA hv1
  subst hv1
  refine KO.pv (PV.assign rfl) rfl rfl ?_
  refine KO.nil ?_
  refine KC.seq (KC.region ?_)
  refine KO.pv (PV.move rfl) rfl rfl ?_
  refine KO.pv (PV.neq rfl rfl) rfl rfl ?_
  refine KO.nil ?_
  have hFB := hF0.trans hFA
  refine KC.cond rfl (fun hb => ?_) (fun hb => KC.skip ?_)
  · refine KC.seq (KC.region ?_)
    refine KO.pv (PV.move rfl) rfl rfl ?_
    refine KO.pv (PV.assign rfl) rfl rfl ?_
    refine KO.pv (PV.assign rfl) rfl rfl ?_
    refine KO.nil ?_
    exact KC.ret ⟨rfl, _, rfl, hFB⟩
  have hXA : A.row H.next = some ⟨24, true, true, [.int .i64 vars, .slice a1 n1 c1, .slice a2 n2 c2]⟩ := (hFA.2 _ (by omega)).trans hX
  have hYA : A.row (H.next + 1) = some ⟨3, true, true, [.int .i64 lit]⟩ := (hFA.2 _ (by omega)).trans hY
  refine KC.seq (KC.region ?_)
  refine KO.pv (PV.fieldAddr fo24_1 rfl) rfl rfl ?_
  refine KO.load1 ag22 rfl (hXA) (rfl) rfl rfl ?_
  refine KO.pv (PV.makeFunc rfl rfl) rfl rfl ?_
  refine KO.call rfl rfl rfl rfl ((sl_IndexFunc A a1 n1 c1 lit (H.next + 1) us (h1.frame hFB) hYA)) fun v2 A1 q2 => ?_
  obtain ⟨hA1, z, hv2, hz1, hz2⟩ := q2
  dsimp only at hA1 hv2
  subst hv2
  subst hA1
  refine KO.pv (PV.assign rfl) rfl rfl ?_
  refine KO.nil ?_
  refine KC.seq (KC.seq (KC.region ?_))
  refine KO.pv (PV.move rfl) rfl rfl ?_
  refine KO.pv (PV.lss rfl rfl) rfl rfl ?_
  refine KO.nil ?_
  refine KC.cond rfl (fun hb => ?_) (fun hb => KC.skip ?_)
  · refine KC.seq (KC.region ?_)
    refine KO.pv (PV.assign rfl) rfl rfl ?_
    refine KO.pv (PV.assign rfl) rfl rfl ?_
    refine KO.nil ?_
    exact KC.ret ⟨rfl, _, rfl, hFB⟩
  refine KC.seq (KC.region ?_)
  refine KO.pv (PV.fieldAddr fo24_2 rfl) rfl rfl ?_
  refine KO.load1 ag22 rfl (hXA) (rfl) rfl rfl ?_
  refine KO.pv (PV.move rfl) rfl rfl ?_
  refine KO.call rfl rfl rfl rfl ((sl_BinarySearch A1 a2 n2 c2 z ss (h2.frame hFB))) fun v3 A2 q3 => ?_
  obtain ⟨hA2, z2, b2, hv3, hy1, hy2⟩ := q3
  dsimp only at hA2 hv3
  subst hv3
  subst hA2
  refine KO.pv (PV.move rfl) rfl rfl ?_
  refine KO.pv (PV.extract rfl rfl) rfl rfl ?_
  refine KO.pv (PV.extract rfl rfl) rfl rfl ?_
  refine KO.pv (PV.assign rfl) rfl rfl ?_
  refine KO.pv (PV.assign rfl) rfl rfl ?_
  refine KO.nil ?_
  refine KC.seq (KC.seq (KC.region ?_))
  refine KO.pv (PV.move rfl) rfl rfl ?_
  refine KO.nil ?_
  refine KC.cond rfl (fun hb => ?_) (fun hb => KC.skip ?_)
  · refine KC.region ?_
    refine KO.pv (PV.move rfl) rfl rfl ?_
    refine KO.pv (PV.add rfl rfl rfl) rfl rfl ?_
    refine KO.pv (PV.assign rfl) rfl rfl ?_
    refine KO.nil ?_
    refine KC.seq (KC.region ?_)
    refine KO.pv (PV.move rfl) rfl rfl ?_
    refine KO.pv (PV.assign rfl) rfl rfl ?_
    refine KO.pv (PV.assign rfl) rfl rfl ?_
    refine KO.nil ?_
    exact KC.ret ⟨rfl, _, rfl, hFB⟩
  refine KC.seq (KC.region ?_)
  refine KO.pv (PV.move rfl) rfl rfl ?_
  refine KO.pv (PV.assign rfl) rfl rfl ?_
  refine KO.pv (PV.assign rfl) rfl rfl ?_
  refine KO.nil ?_
  exact KC.ret ⟨rfl, _, rfl, hFB⟩

theorem sl_Clone (H : AHeap) (a : Option Addr) (n c : Nat) (us : List Int) (h : VL H .i64 (.slice a n c) us) (hn : n ≤ 400000000) : WF E0 111 [.slice a n c] H fun q => ∃ D, GL q.2 3 1 q.1 (us.map (Value.int .i64)) D ∧ Frh H q.2 ∧ ∀ j ∈ D, H.next ≤ j ∧ j < q.2.next := by
  have hl := h.len.1
  refine WF.k Tryz.func111 rfl rfl ?_
  refine KC.seq (KC.region ?_)
  refine KO.pv (PV.assign rfl) rfl rfl ?_
  refine KO.nil ?_
  refine KC.seq (KC.seq (KC.region ?_))
  refine KO.pv (PV.move rfl) rfl rfl ?_
  refine KO.pv (PV.eqNil un22 rfl) rfl rfl ?_
  refine KO.nil ?_
  cases a with
  | none =>
    have : us = [] := by
      rcases h.cells with h0 | ⟨_, _, _, _, h, -⟩
      · exact List.length_eq_zero_iff.1 (by omega)
      · cases h
    subst this
    refine KC.cond rfl (fun _ => ?_) (fun hb => by cases hb)
    refine KC.seq (KC.region ?_)
    refine KO.pv (PV.assign rfl) rfl rfl ?_
    refine KO.nil ?_
    exact KC.ret ⟨rfl, _, rfl, [], .nil rfl, .refl, fun _ h => absurd h List.not_mem_nil⟩
  | some x =>
    refine KC.cond rfl (fun hb => by cases hb) (fun _ => KC.skip ?_)
    refine KC.seq (KC.region ?_)
    refine KO.buildSlice el22 ez3 rfl rfl (rfl) rfl rfl fun B m1 => ?_
    have hB := h.frame (.new m1)
    refine KO.pv (PV.move rfl) rfl rfl ?_
    refine KO.appendG el22 ez3 sb3 un22 rfl rfl ((GL.nil rfl)) (hB.new) ((by simp [hl])) (rfl) ((by simp [hl]; omega)) rfl rfl fun v2 C D g1 g2 g3 g4 => ?_
    refine KO.pv (PV.assign rfl) rfl rfl ?_
    refine KO.nil ?_
    have e1 := m1.next
    exact KC.ret ⟨rfl, _, rfl, D, g1, (Frh.new m1).keep g2 (fun j hj => g3 j List.not_mem_nil hj), fun j hj => by
      show H.next ≤ j ∧ j < C.next
      rcases g4 j hj with h | h
      · cases h
      · omega⟩

end Go.Eng

namespace Go.Eng
open Go Go.Proofs

theorem as_Undo (H : AHeap) (vars lvl : Int) (a1 a2 : Option Addr) (n1 c1 n2 c2 : Nat) (us ss : List Int) (h1 : VL H .i64 (.slice a1 n1 c1) us) (h2 : VL H .i64 (.slice a2 n2 c2) ss) (hx1 : exactBase a1 = true) (hx2 : exactBase a2 = true) (hb1 : n1 ≤ 300000000) (hb2 : n2 ≤ 300000000) (hvw : IntKind.i64.wrap vars = vars) :
    WF E0 68 [.agg #[.int .i64 vars, .slice a1 n1 c1, .slice a2 n2 c2], .int .i64 lvl] H fun q => ∃ v e us' st, q.1 = .tuple #[v, .int .i64 e] ∧ AsG H q.2 v us' st := by
  obtain ⟨hl1, hc1, hm1, hw1⟩ := h1.len
  obtain ⟨hl2, hc2, hm2, hw2⟩ := h2.len
  refine WF.kc2 Tryz.func68 rfl rfl rfl ?_
  refine KC.seq (KC.region ?_)
  refine KO.box (rfl) (rfl) rfl rfl fun G0 u0 => ?_
  refine KO.alloc zt24 rfl rfl fun G1 u1 => ?_
  refine KO.pv (PV.assign rfl) rfl rfl ?_
  refine KO.nil ?_
  have hn0 := u0.next
  have hn1 := u1.next
  have hX : G1.row H.next = some ⟨24, true, true, [.int .i64 vars, .slice a1 n1 c1, .slice a2 n2 c2]⟩ := by rw [u1.row, if_neg (by omega), u0.row, if_pos rfl]; rfl
  have hR : G1.row (H.next + 1) = some ⟨24, true, true, [.int .i64 0, .slice none 0 0, .slice none 0 0]⟩ := by rw [u1.row, if_pos hn0.symm]
  have hF1 : Frh H G1 := (Frh.new u0).trans (.new u1)
  rw [hn0]
  refine KC.seq (KC.seq (KC.region ?_))
  refine KO.loadN ag24 sz24 rfl (hX) (rfl) rfl rfl ?_
  refine KO.call rfl rfl rfl rfl ((as_Check G1 vars a1 a2 n1 c1 n2 c2 us ss (h1.frame hF1) (h2.frame hF1))) fun v1 A q1 => ?_
  obtain ⟨hFA, e1, hv1, hok⟩ := q1
  dsimp only at hFA hv1
  subst hv1
  refine KO.pv (PV.assign rfl) rfl rfl ?_
  refine KO.nil ?_
  have hle := hFA.1
  have hXA : A.row H.next = some ⟨24, true, true, [.int .i64 vars, .slice a1 n1 c1, .slice a2 n2 c2]⟩ := (hFA.2 _ (by omega)).trans hX
  have hRA : A.row (H.next + 1) = some ⟨24, true, true, [.int .i64 0, .slice none 0 0, .slice none 0 0]⟩ := (hFA.2 _ (by omega)).trans hR
  have hFB := hF1.trans hFA
  have hAn : H.next + 2 ≤ A.next := by omega
  refine KC.seq (KC.region ?_)
  refine KO.pv (PV.move rfl) rfl rfl ?_
  refine KO.pv (PV.neq rfl rfl) rfl rfl ?_
  refine KO.nil ?_
  refine KC.cond rfl (fun hb => ?_) (fun hb => KC.skip ?_)
  · refine KC.seq (KC.region ?_)
    refine KO.pv (PV.build (rfl) (bld24)) rfl rfl ?_
    refine KO.pv (PV.move rfl) rfl rfl ?_
    refine KO.store rfl rfl sz24 (rfl) (hRA) (rfl) ((Nat.le_refl _)) rfl fun B x1 => ?_
    refine KO.pv (PV.assign rfl) rfl rfl ?_
    refine KO.nil ?_
    exact KC.ret ⟨rfl, _, _, _, rfl, load24 (by rw [x1.row, if_pos rfl]; rfl), rfl, _, _, _, _, rfl, .zero rfl (hFB.upd x1 (by omega))⟩
  obtain ⟨-, -, -, hss⟩ := hok (by simpa using hb)
  have h1A := h1.frame hFB
  have h2A := h2.frame hFB
  clear hX hR hF1 hFA u0 u1 hn0 hn1 hle hok
  refine KC.seq (KC.seq (KC.region ?_))
  by_cases d1 : lvl < 0
  · refine KO.pv (PV.move rfl) rfl rfl ?_
    refine KO.pv (PV.lss rfl rfl) rfl rfl ?_
    rw [decide_eq_true d1]
    refine KO.pv (PV.move rfl) rfl rfl ?_
    refine KO.no rfl rfl rfl ?_
    refine KO.no rfl rfl rfl ?_
    refine KO.no rfl rfl rfl ?_
    refine KO.no rfl rfl rfl ?_
    refine KO.no rfl rfl rfl ?_
    refine KO.pv (PV.pickT rfl rfl rfl) rfl rfl ?_
    refine KO.nil ?_
    refine KC.cond rfl (fun _ => ?_) (fun hb => by cases hb)
    refine KC.seq (KC.region ?_)
    refine KO.pv (PV.build (rfl) (bld24)) rfl rfl ?_
    refine KO.store rfl rfl sz24 (rfl) (hRA) (rfl) ((Nat.le_refl _)) rfl fun B x1 => ?_
    refine KO.pv (PV.assign rfl) rfl rfl ?_
    refine KO.nil ?_
    exact KC.ret ⟨rfl, _, _, _, rfl, load24 (by rw [x1.row, if_pos rfl]; rfl), rfl, _, _, _, _, rfl, .zero rfl (hFB.upd x1 (by omega))⟩
  obtain ⟨L, rfl⟩ := Int.eq_ofNat_of_zero_le (show 0 ≤ lvl by omega)
  by_cases d2 : (n2 : Int) < (L : Int)
  · refine KO.pv (PV.move rfl) rfl rfl ?_
    refine KO.pv (PV.lss rfl rfl) rfl rfl ?_
    rw [decide_eq_false d1]
    refine KO.pv (PV.move rfl) rfl rfl ?_
    refine KO.pv (PV.move rfl) rfl rfl ?_
    refine KO.pv (PV.fieldAddr fo24_2 rfl) rfl rfl ?_
    refine KO.load1 ag22 rfl (hXA) (rfl) rfl rfl ?_
    refine KO.pv (PV.len un22 rfl) rfl rfl ?_
    refine KO.pv (PV.gtr rfl rfl) rfl rfl ?_
    rw [decide_eq_true d2]
    refine KO.pv (PV.pickF rfl rfl rfl) rfl rfl ?_
    refine KO.nil ?_
    refine KC.cond rfl (fun _ => ?_) (fun hb => by cases hb)
    refine KC.seq (KC.region ?_)
    refine KO.pv (PV.build (rfl) (bld24)) rfl rfl ?_
    refine KO.store rfl rfl sz24 (rfl) (hRA) (rfl) ((Nat.le_refl _)) rfl fun B x1 => ?_
    refine KO.pv (PV.assign rfl) rfl rfl ?_
    refine KO.nil ?_
    exact KC.ret ⟨rfl, _, _, _, rfl, load24 (by rw [x1.row, if_pos rfl]; rfl), rfl, _, _, _, _, rfl, .zero rfl (hFB.upd x1 (by omega))⟩
  have hLn : L ≤ n2 := by omega
  refine KO.pv (PV.move rfl) rfl rfl ?_
  refine KO.pv (PV.lss rfl rfl) rfl rfl ?_
  rw [decide_eq_false d1]
  refine KO.pv (PV.move rfl) rfl rfl ?_
  refine KO.pv (PV.move rfl) rfl rfl ?_
  refine KO.pv (PV.fieldAddr fo24_2 rfl) rfl rfl ?_
  refine KO.load1 ag22 rfl (hXA) (rfl) rfl rfl ?_
  refine KO.pv (PV.len un22 rfl) rfl rfl ?_
  refine KO.pv (PV.gtr rfl rfl) rfl rfl ?_
  rw [decide_eq_false d2]
  refine KO.pv (PV.pickF rfl rfl rfl) rfl rfl ?_
  refine KO.nil ?_
  refine KC.cond rfl (fun hb => by cases hb) (fun _ => KC.skip ?_)
  refine KC.seq (KC.region ?_)
  refine KO.pv (PV.fieldAddr fo24_1 rfl) rfl rfl ?_
  refine KO.load1 ag22 rfl (hXA) (rfl) rfl rfl ?_
  refine KO.pv (PV.len un22 rfl) rfl rfl ?_
  refine KO.pv (PV.assign rfl) rfl rfl ?_
  refine KO.nil ?_
  refine KC.seq (KC.seq (KC.region ?_))
  refine KO.pv (PV.move rfl) rfl rfl ?_
  refine KO.pv (PV.fieldAddr fo24_2 rfl) rfl rfl ?_
  refine KO.load1 ag22 rfl (hXA) (rfl) rfl rfl ?_
  refine KO.pv (PV.len un22 rfl) rfl rfl ?_
  refine KO.pv (PV.lss rfl rfl) rfl rfl ?_
  refine KO.nil ?_
  refine KC.cond rfl (fun hb => ?_) (fun hb => KC.skip ?_)
  · have hlt : L < n2 := by simpa using hb
    obtain ⟨b, off, sp, r, u, rfl, hbH, hr, hus, hcs, hwu⟩ := h2A.at_ hlt
    obtain ⟨hu0, hu1⟩ := hss u (List.mem_of_getElem? hus)
    obtain ⟨N, rfl⟩ := Int.eq_ofNat_of_zero_le hu0
    have hN : N ≤ n1 := by omega
    refine KC.region ?_
    refine KO.pv (PV.fieldAddr fo24_2 rfl) rfl rfl ?_
    refine KO.load1 ag22 rfl (hXA) (rfl) rfl rfl ?_
    refine KO.pv (PV.move rfl) rfl rfl ?_
    refine KO.pv (PV.indexAddr un22 sz3 rfl rfl (hlt)) rfl rfl ?_
    refine KO.load1 ag3 rfl (hr) (hcs) rfl rfl ?_
    refine KO.pv (PV.assign rfl) rfl rfl ?_
    refine KO.nil ?_
    refine KC.sub (l' := [(1, .int .i64 (L : Int)), (2, .pointer (some ⟨H.next, 0, none⟩)), (4, .pointer (some ⟨H.next + 1, 0, none⟩)), (7, .int .i64 (N : Int))]) (.cons rfl (.cons rfl (.cons rfl (.cons rfl .nil)))) ?_
    have hV1 := h1A
    have hV2 := h2A
    refine KC.seq ?_
    refine KC.draw (n := 15) (anc := [0, 1, 0, 4, 0, 28, 60, 0, 128, 0, 896, 2044, 4095, 8191, 16383]) (hv := [6, 11, 13]) (ord := [2, 3, 4, 5, 6, 7, 8, 9, 10, 11, 0, 1, 12, 13, 14]) (by kernel_rfl) (by kernel_rfl) (by kernel_rfl) (by kernel_rfl) (by kernel_rfl) fun H0 hn0 hr0 => ?_
    refine KD.pv 4 (PV.fieldAddr fo24_1 rfl) rfl rfl rfl (by kernel_rfl) rfl rfl rfl ?_
    have hF0 : Frh A H0 := ⟨by omega, fun j _ => hr0 j⟩
    have hX0 := (hr0 _).trans hXA
    refine KD.load 12 rfl (hX0) (by rw [read1 ag22]; exact (rfl)) (past1 ⟨_, (hX0), by rw [read1 ag22]; exact (rfl)⟩) (veq_sl) rfl (by kernel_rfl) rfl rfl rfl ?_
    refine KD.pv 28 (PV.move rfl) rfl rfl rfl (by kernel_rfl) rfl rfl rfl ?_
    refine KD.pv 60 (PV.slice rfl (fun _ h => by cases h) (fun _ => rfl) (fun _ h => by cases h; exact ⟨_, rfl, rfl⟩) (fun h => by cases h) (fun _ h => by cases h) (fun _ => rfl) (slice_to un22 sz3 (exact_spot hx1) (Nat.le_trans hN hc1))) rfl rfl rfl (by kernel_rfl) rfl rfl rfl ?_
    refine KD.call 124 rfl rfl rfl (by kernel_rfl) rfl rfl rfl ((sl_Clone H0 a1 N c1 (us.take N) ((hV1.frame hF0).take hN (Nat.le_trans hN hc1)) (by omega))) fun v6 C6 q6 => ?_
    obtain ⟨D6, g6, f6, d6⟩ := q6
    dsimp only at g6 f6 d6
    obtain ⟨x6, y6, z6, rfl⟩ := g6.sl
    have hF6 := hF0.trans f6
    have hX6 := (hF6.2 _ (by omega)).trans hXA
    refine KD.pv 252 (PV.fieldAddr fo24_2 rfl) rfl rfl rfl (by kernel_rfl) rfl rfl rfl ?_
    refine KD.load 508 rfl (hX6) (by rw [read1 ag22]; exact (rfl)) (past2 ⟨_, hX6, by rw [read1 ag22]; rfl⟩ ⟨_, hX0, by rw [read1 ag22]; rfl⟩) (veq_sl) rfl (by kernel_rfl) rfl rfl rfl ?_
    refine KD.pv 1020 (PV.move rfl) rfl rfl rfl (by kernel_rfl) rfl rfl rfl ?_
    refine KD.pv 2044 (PV.slice rfl (fun _ h => by cases h) (fun _ => rfl) (fun _ h => by cases h; exact ⟨_, rfl, rfl⟩) (fun h => by cases h) (fun _ h => by cases h) (fun _ => rfl) (slice_to un22 sz3 (exact_spot hx2) (Nat.le_trans hLn hc2))) rfl rfl rfl (by kernel_rfl) rfl rfl rfl ?_
    refine KD.call 4092 rfl rfl rfl (by kernel_rfl) rfl rfl rfl ((sl_Clone C6 (some ⟨b, off, sp⟩) L c2 (ss.take L) ((hV2.frame hF6).take hLn (Nat.le_trans hLn hc2)) (by omega))) fun v11 C11 q11 => ?_
    obtain ⟨D11, g11, f11, d11⟩ := q11
    dsimp only at g11 f11 d11
    obtain ⟨x11, y11, z11, rfl⟩ := g11.sl
    have hF11 := hF6.trans f11
    have hX11 := (hF11.2 _ (by omega)).trans hXA
    have hR11 := (hF11.2 (H.next + 1) (by omega)).trans hRA
    refine KD.pv 4093 (PV.fieldAddr fo24_0 rfl) rfl rfl rfl (by kernel_rfl) rfl rfl rfl ?_
    refine KD.load 4095 rfl (hX11) (by rw [read1 ag3]; exact (rfl)) (past3 ⟨_, hX11, by rw [read1 ag3]; rfl⟩ ⟨_, hX6, by rw [read1 ag3]; rfl⟩ ⟨_, hX0, by rw [read1 ag3]; rfl⟩) (veq_int) rfl (by kernel_rfl) rfl rfl rfl ?_
    refine KD.pv 8191 (PV.build (rfl) ((bld24a _ _ _ ⟨_, _, _, rfl⟩ ⟨_, _, _, rfl⟩))) rfl rfl rfl (by kernel_rfl) rfl rfl rfl ?_
    refine KD.storeN 16383 sz24 rfl rfl (rfl) (hR11) (rfl) ((Nat.le_refl _)) rfl (by kernel_rfl) rfl rfl fun Z z1 => ?_
    refine KD.pv 32767 (PV.assign rfl) rfl rfl rfl (by kernel_rfl) rfl rfl rfl ?_
    refine KD.nil ⟨rfl, ?_⟩
    have ez := z1.next
    have e6 := f6.1
    have e11 := f11.1
    refine KC.ret ⟨rfl, _, _, _, rfl, load24 (by rw [z1.row, if_pos rfl]; rfl), rfl, _, _, us.take N, ss.take L, rfl, ⟨⟨vars, _, _, _, _, _, _, D6, D11, rfl, hvw, g6.frame fun j hj => ?_, g11.frame fun j hj => ?_, fun j hj => ?_, fun j hj => ?_, fun j hj hj' => ?_⟩, (hFB.trans hF11).upd z1 (by omega), fun u hu => hw1 u (List.mem_of_mem_take hu), fun u hu => hw2 u (List.mem_of_mem_take hu), by rw [List.length_take]; omega, by rw [List.length_take]; omega⟩⟩
    · have := d6 j hj; rw [z1.row, if_neg (by omega)]; exact f11.2 j this.2
    · have := d11 j hj; rw [z1.row, if_neg (by omega)]
    · have := d6 j hj; show H.next ≤ j ∧ j < Z.next; omega
    · have := d11 j hj; show H.next ≤ j ∧ j < Z.next; omega
    · have := d6 j hj; have := d11 j hj'; omega
  · have hN := Nat.le_refl n1
    refine KC.sub (l' := [(1, .int .i64 (L : Int)), (2, .pointer (some ⟨H.next, 0, none⟩)), (4, .pointer (some ⟨H.next + 1, 0, none⟩)), (7, .int .i64 (n1 : Int))]) (.cons rfl (.cons rfl (.cons rfl (.cons rfl .nil)))) ?_
    have hV1 := h1A
    have hV2 := h2A
    refine KC.seq ?_
    refine KC.draw (n := 15) (anc := [0, 1, 0, 4, 0, 28, 60, 0, 128, 0, 896, 2044, 4095, 8191, 16383]) (hv := [6, 11, 13]) (ord := [2, 3, 4, 5, 6, 7, 8, 9, 10, 11, 0, 1, 12, 13, 14]) (by kernel_rfl) (by kernel_rfl) (by kernel_rfl) (by kernel_rfl) (by kernel_rfl) fun H0 hn0 hr0 => ?_
    refine KD.pv 4 (PV.fieldAddr fo24_1 rfl) rfl rfl rfl (by kernel_rfl) rfl rfl rfl ?_
    have hF0 : Frh A H0 := ⟨by omega, fun j _ => hr0 j⟩
    have hX0 := (hr0 _).trans hXA
    refine KD.load 12 rfl (hX0) (by rw [read1 ag22]; exact (rfl)) (past1 ⟨_, (hX0), by rw [read1 ag22]; exact (rfl)⟩) (veq_sl) rfl (by kernel_rfl) rfl rfl rfl ?_
    refine KD.pv 28 (PV.move rfl) rfl rfl rfl (by kernel_rfl) rfl rfl rfl ?_
    refine KD.pv 60 (PV.slice rfl (fun _ h => by cases h) (fun _ => rfl) (fun _ h => by cases h; exact ⟨_, rfl, rfl⟩) (fun h => by cases h) (fun _ h => by cases h) (fun _ => rfl) (slice_to un22 sz3 (exact_spot hx1) (Nat.le_trans hN hc1))) rfl rfl rfl (by kernel_rfl) rfl rfl rfl ?_
    refine KD.call 124 rfl rfl rfl (by kernel_rfl) rfl rfl rfl ((sl_Clone H0 a1 n1 c1 (us.take n1) ((hV1.frame hF0).take hN (Nat.le_trans hN hc1)) (by omega))) fun v6 C6 q6 => ?_
    obtain ⟨D6, g6, f6, d6⟩ := q6
    dsimp only at g6 f6 d6
    obtain ⟨x6, y6, z6, rfl⟩ := g6.sl
    have hF6 := hF0.trans f6
    have hX6 := (hF6.2 _ (by omega)).trans hXA
    refine KD.pv 252 (PV.fieldAddr fo24_2 rfl) rfl rfl rfl (by kernel_rfl) rfl rfl rfl ?_
    refine KD.load 508 rfl (hX6) (by rw [read1 ag22]; exact (rfl)) (past2 ⟨_, hX6, by rw [read1 ag22]; rfl⟩ ⟨_, hX0, by rw [read1 ag22]; rfl⟩) (veq_sl) rfl (by kernel_rfl) rfl rfl rfl ?_
    refine KD.pv 1020 (PV.move rfl) rfl rfl rfl (by kernel_rfl) rfl rfl rfl ?_
    refine KD.pv 2044 (PV.slice rfl (fun _ h => by cases h) (fun _ => rfl) (fun _ h => by cases h; exact ⟨_, rfl, rfl⟩) (fun h => by cases h) (fun _ h => by cases h) (fun _ => rfl) (slice_to un22 sz3 (exact_spot hx2) (Nat.le_trans hLn hc2))) rfl rfl rfl (by kernel_rfl) rfl rfl rfl ?_
    refine KD.call 4092 rfl rfl rfl (by kernel_rfl) rfl rfl rfl ((sl_Clone C6 a2 L c2 (ss.take L) ((hV2.frame hF6).take hLn (Nat.le_trans hLn hc2)) (by omega))) fun v11 C11 q11 => ?_
    obtain ⟨D11, g11, f11, d11⟩ := q11
    dsimp only at g11 f11 d11
    obtain ⟨x11, y11, z11, rfl⟩ := g11.sl
    have hF11 := hF6.trans f11
    have hX11 := (hF11.2 _ (by omega)).trans hXA
    have hR11 := (hF11.2 (H.next + 1) (by omega)).trans hRA
    refine KD.pv 4093 (PV.fieldAddr fo24_0 rfl) rfl rfl rfl (by kernel_rfl) rfl rfl rfl ?_
    refine KD.load 4095 rfl (hX11) (by rw [read1 ag3]; exact (rfl)) (past3 ⟨_, hX11, by rw [read1 ag3]; rfl⟩ ⟨_, hX6, by rw [read1 ag3]; rfl⟩ ⟨_, hX0, by rw [read1 ag3]; rfl⟩) (veq_int) rfl (by kernel_rfl) rfl rfl rfl ?_
    refine KD.pv 8191 (PV.build (rfl) ((bld24a _ _ _ ⟨_, _, _, rfl⟩ ⟨_, _, _, rfl⟩))) rfl rfl rfl (by kernel_rfl) rfl rfl rfl ?_
    refine KD.storeN 16383 sz24 rfl rfl (rfl) (hR11) (rfl) ((Nat.le_refl _)) rfl (by kernel_rfl) rfl rfl fun Z z1 => ?_
    refine KD.pv 32767 (PV.assign rfl) rfl rfl rfl (by kernel_rfl) rfl rfl rfl ?_
    refine KD.nil ⟨rfl, ?_⟩
    have ez := z1.next
    have e6 := f6.1
    have e11 := f11.1
    refine KC.ret ⟨rfl, _, _, _, rfl, load24 (by rw [z1.row, if_pos rfl]; rfl), rfl, _, _, us.take n1, ss.take L, rfl, ⟨⟨vars, _, _, _, _, _, _, D6, D11, rfl, hvw, g6.frame fun j hj => ?_, g11.frame fun j hj => ?_, fun j hj => ?_, fun j hj => ?_, fun j hj hj' => ?_⟩, (hFB.trans hF11).upd z1 (by omega), fun u hu => hw1 u (List.mem_of_mem_take hu), fun u hu => hw2 u (List.mem_of_mem_take hu), by rw [List.length_take]; omega, by rw [List.length_take]; omega⟩⟩
    · have := d6 j hj; rw [z1.row, if_neg (by omega)]; exact f11.2 j this.2
    · have := d11 j hj; rw [z1.row, if_neg (by omega)]
    · have := d6 j hj; show H.next ≤ j ∧ j < Z.next; omega
    · have := d11 j hj; show H.next ≤ j ∧ j < Z.next; omega
    · have := d6 j hj; have := d11 j hj'; omega
theorem veq_as {n : Int} {a b : Option Addr} {l c m d : Nat} : veq 100 (.agg [.int .i64 n, .slice a l c, .slice b m d].toArray) (.agg [.int .i64 n, .slice a l c, .slice b m d].toArray) = true := by
  have h : ∀ (x : Option Addr) (p q : Nat), veq 99 (.slice x p q) (.slice x p q) = true := fun x p q => by cases x <;> simp [veq, vSl, optAddrBeq, addrBeq_self]
  show (veq 99 (.int .i64 n) (.int .i64 n) && (veq 99 (.slice a l c) (.slice a l c) && (veq 99 (.slice b m d) (.slice b m d) && true))) = true
  rw [h, h]
  simp [veq, vInt, ikBeq_self]
theorem take3 {cs : List Value} {o : Nat} {x y z : Value} (h0 : cs[o]? = some x) (h1 : cs[o + 1]? = some y) (h2 : cs[o + 2]? = some z) : takeN 3 (cs.drop o) = some [x, y, z] := by
  refine takeN_of ?_ rfl
  apply List.ext_getElem?
  intro i
  rw [List.getElem?_take]
  match i with
  | 0 => rw [if_pos (by omega), List.getElem?_drop]; exact h0
  | 1 => rw [if_pos (by omega), List.getElem?_drop]; exact h1
  | 2 => rw [if_pos (by omega), List.getElem?_drop]; exact h2
  | i + 3 => rw [if_neg (by omega)]; rfl
abbrev ShA : Sh := .fld 0 (.num .i64) (.fld 1 (.list 1 (.num .i64)) (.fld 2 (.list 1 (.num .i64)) .nil))
abbrev ShSA : Sh := .fld 0 ShA (.fld 3 (.num .i64) (.fld 4 (.num .i64) (.fld 5 (.num .i64) .nil)))
theorem argSA {H : AHeap} {bx : Nat} {ns : List Int} {ss : List ByteArray} {D : List Nat} (h : Own H ⟨true, true⟩ ShSA bx ns ss D) (hns : ns.length ≤ 300000000) :
    ∃ r vars a1 n1 c1 a2 n2 c2 us st V L K, H.row bx = some r ∧ takeN 3 (r.cs.drop (0 + 0)) = some [.int .i64 vars, .slice a1 n1 c1, .slice a2 n2 c2] ∧ r.cs[0 + 3]? = some (.int .i64 V) ∧ r.cs[0 + 4]? = some (.int .i64 L) ∧ r.cs[0 + 5]? = some (.int .i64 K) ∧ IntKind.i64.wrap vars = vars ∧ IntKind.i64.wrap V = V ∧ IntKind.i64.wrap L = L ∧ IntKind.i64.wrap K = K ∧
      VL H .i64 (.slice a1 n1 c1) us ∧ VL H .i64 (.slice a2 n2 c2) st ∧ exactBase a1 = true ∧ exactBase a2 = true ∧ n1 ≤ 300000000 ∧ n2 ≤ 300000000 := by
  obtain ⟨r, hr, hw, hR⟩ := h.ex
  have hlD := h.lD
  obtain ⟨_, _, _, _, _, _, hA, hR, rfl, rfl, rfl⟩ := hR
  obtain ⟨_, _, _, _, _, _, r3, hR, rfl, rfl, rfl⟩ := hR
  obtain ⟨_, _, _, _, _, _, r4, hR, rfl, rfl, rfl⟩ := hR
  obtain ⟨_, _, _, _, _, _, r5, hR, rfl, rfl, rfl⟩ := hR
  obtain ⟨_, _, _, _, _, _, r0, hA, rfl, rfl, rfl⟩ := hA
  obtain ⟨_, _, _, _, _, _, r1, hA, rfl, rfl, rfl⟩ := hA
  obtain ⟨_, _, _, _, _, _, r2, hA, rfl, rfl, rfl⟩ := hA
  simp only [List.length_append] at hns
  obtain ⟨vars, k0, wv⟩ := r0.numAt
  obtain ⟨v1, us, k1, ⟨y1, a1, n1, c1, rfl, z1⟩, m1⟩ := list_VX r1 rfl (fun j hj => hlD j (by simp [hj])) (by omega)
  obtain ⟨v2, st, k2, ⟨y2, a2, n2, c2, rfl, z2⟩, m2⟩ := list_VX r2 rfl (fun j hj => hlD j (by simp [hj])) (by omega)
  obtain ⟨V, k3, w3⟩ := r3.numAt
  obtain ⟨L, k4, w4⟩ := r4.numAt
  obtain ⟨K, k5, w5⟩ := r5.numAt
  have e1 := y1.len.1
  have e2 := y2.len.1
  exact ⟨r, vars, a1, n1, c1, a2, n2, c2, us, st, V, L, K, hr, take3 k0 k1 k2, k3, k4, k5, wv, w3, w4, w5, y1, y2, z1, z2, by omega, by omega⟩
theorem ownAsg {H0 A G : AHeap} {vars : Int} {a1 a2 : Option Addr} {n1 c1 n2 c2 ba : Nat} {us ss : List Int} {D1 D2 : List Nat} (e2 : IntKind.i64.wrap vars = vars) (e3 : GL A 3 1 (.slice a1 n1 c1) (us.map (Value.int .i64)) D1) (e4 : GL A 3 1 (.slice a2 n2 c2) (ss.map (Value.int .i64)) D2) (e5 : ∀ j ∈ D1, H0.next ≤ j ∧ j < A.next) (e6 : ∀ j ∈ D2, H0.next ≤ j ∧ j < A.next) (e7 : ∀ j ∈ D1, j ∉ D2) (w1 : ∀ u ∈ us, IntKind.i64.wrap u = u) (w2 : ∀ u ∈ ss, IntKind.i64.wrap u = u) (l1 : us.length ≤ 400000000) (l2 : ss.length ≤ 400000000)
    (hst : ∀ j, H0.next ≤ j → j < A.next → G.row j = A.row j) (hba : G.row ba = some ⟨24, true, true, [.int .i64 vars, .slice a1 n1 c1, .slice a2 n2 c2]⟩) (hb1 : ba < H0.next ∨ A.next ≤ ba) (hb2 : ba < G.next) (hAG : A.next ≤ G.next) :
    ∃ ns D, Own G ⟨false, true⟩ ShA ba ns [] D ∧ (∀ j ∈ D, H0.next ≤ j ∧ j < A.next) ∧ ns.length ≤ 1000000000 := by
  have o1 := (e3.frame (H' := G) fun j hj => hst j (e5 j hj).1 (e5 j hj).2).ol w1 (by omega)
  have o2 := (e4.frame (H' := G) fun j hj => hst j (e6 j hj).1 (e6 j hj).2).ol w2 (by omega)
  obtain ⟨ns1, r1, q1⟩ := o1.rd (cs := [.int .i64 vars, .slice a1 n1 c1, .slice a2 n2 c2]) (o := 0 + 1) rfl
  obtain ⟨ns2, r2, q2⟩ := o2.rd (cs := [.int .i64 vars, .slice a1 n1 c1, .slice a2 n2 c2]) (o := 0 + 2) rfl
  have hD : ∀ j ∈ D1 ++ (D2 ++ []), H0.next ≤ j ∧ j < A.next := fun j hj => by
    simp only [List.append_nil, List.mem_append] at hj
    rcases hj with h | h
    · exact e5 j h
    · exact e6 j h
  refine ⟨_, D1 ++ (D2 ++ []), ⟨⟨_, hba, rfl, ⟨[IntKind.i64.wrap vars], [], [], _, [], _, ⟨vars, rfl, e2, rfl, rfl, rfl⟩, ⟨ns1, [], D1, _, [], _, r1, ⟨ns2, [], D2, [], [], [], r2, ⟨rfl, rfl, rfl⟩, rfl, rfl, rfl⟩, rfl, rfl, rfl⟩, rfl, rfl, rfl⟩⟩, ?_, fun h => ?_, hb2, fun j hj => Nat.lt_of_lt_of_le (hD j hj).2 hAG⟩, hD, ?_⟩
  · rw [List.append_nil, List.nodup_append]
    exact ⟨e3.nodup, e4.nodup, fun j h1 k h2 e => e7 j h1 (e ▸ h2)⟩
  · have := hD _ h; omega
  · simp only [List.length_append, List.length_singleton, List.length_nil]; omega

theorem call_52 : CallOK' E0 3 9 42 52 ShSA := by
  intro H bx ns ss D hO hl1 _
  obtain ⟨r, vars, a1, n1, c1, a2, n2, c2, us, st, VV, LL, KK, hr, ht3, x3, x4, x5, wv, w3, w4, w5, v1, v2, b1, b2, m1_, m2_⟩ := argSA hO hl1
  refine WF.k Tryz.func52 rfl rfl ?_
  refine KC.seq (KC.region ?_)
  refine KO.pv (PV.assign rfl) rfl rfl ?_
  refine KO.nil ?_
  refine KC.seq (KC.region ?_)
  refine KO.pv (PV.move rfl) rfl rfl ?_
  refine KO.pv (PV.nilCheck rfl) rfl rfl ?_
  refine KO.pv (PV.fieldAddr fo85_0 rfl) rfl rfl ?_
  refine KO.loadN ag24 sz24 rfl (hr) (ht3) rfl rfl ?_
  refine KO.call rfl rfl rfl rfl ((as_Check H vars a1 a2 n1 c1 n2 c2 us st v1 v2)) fun v8 A q8 => ?_
  refine KO.nil ?_
  refine KC.seq (KC.region ?_)
  refine KO.pv (PV.assign rfl) rfl rfl ?_
  refine KO.nil ?_
  exact KC.ret ⟨rfl, _, rfl, no_res q8.1⟩

theorem call_54 : CallOK' E0 3 9 42 54 ShSA := by
  intro H bx ns ss D hO hl1 _
  obtain ⟨r, vars, a1, n1, c1, a2, n2, c2, us, st, VV, LL, KK, hr, ht3, x3, x4, x5, wv, w3, w4, w5, v1, v2, b1, b2, m1_, m2_⟩ := argSA hO hl1
  refine WF.k Tryz.func54 rfl rfl ?_
  refine KC.seq (KC.region ?_)
  refine KO.pv (PV.assign rfl) rfl rfl ?_
  refine KO.nil ?_
  refine KC.seq (KC.region ?_)
  refine KO.pv (PV.move rfl) rfl rfl ?_
  refine KO.pv (PV.nilCheck rfl) rfl rfl ?_
  refine KO.pv (PV.fieldAddr fo85_1 rfl) rfl rfl ?_
  refine KO.load1 ag3 rfl (hr) (x3) rfl rfl ?_
  refine KO.call rfl rfl rfl rfl ((as_New H VV w3)) fun v8 A q8 => ?_
  obtain ⟨v, e, hv1, hG⟩ := q8
  dsimp only at hv1 hG
  subst hv1
  obtain ⟨⟨vars1, p1, m1_1, d1, p2, m2, d2, D1, D2, rfl, e2, e3, e4, e5, e6, e7⟩, f, g1, g2, l1, l2⟩ := hG
  refine KO.pv (PV.move rfl) rfl rfl ?_
  refine KO.pv (PV.extract rfl rfl) rfl rfl ?_
  refine KO.pv (PV.extract rfl rfl) rfl rfl ?_
  refine KO.alloc zt24 rfl rfl fun B u0 => ?_
  have hB : B.row A.next = some ⟨24, true, true, [.int .i64 0, .slice none 0 0, .slice none 0 0]⟩ := by rw [u0.row, if_pos rfl]
  refine KO.store rfl rfl sz24 (rfl) (hB) (rfl) ((Nat.le_refl _)) rfl fun C u1 => ?_
  refine KO.pv (PV.assign rfl) rfl rfl ?_
  refine KO.nil ?_
  refine KC.seq (KC.region ?_)
  refine KO.pv (PV.makeFunc rfl rfl) rfl rfl ?_
  refine KO.buildSlice el32 ez42 rfl rfl (rfl) rfl rfl fun G m1 => ?_
  refine KO.pv (PV.assign rfl) rfl rfl ?_
  refine KO.nil ?_
  have y0 := u0.next
  have y1 := u1.next
  have y2 := m1.next
  have hle := f.1
  have hHC : Frh H C := Frh.upd (f.trans (.new u0)) u1 hle
  have hst : ∀ j, H.next ≤ j → j < A.next → G.row j = A.row j := fun j j1 j2 => by
    rw [m1.row, if_neg (by omega), u1.row, if_neg (by omega), u0.row, if_neg (by omega)]
  have hba : G.row A.next = some ⟨24, true, true, [.int .i64 vars1, .slice p1 m1_1 d1, .slice p2 m2 d2]⟩ := by rw [m1.row, if_neg (by omega), u1.row]; exact if_pos rfl
  obtain ⟨nsR, DR, ho, hDR, hnR⟩ := ownAsg e2 e3 e4 e5 e6 e7 g1 g2 l1 l2 hst hba (.inr (Nat.le_refl _)) (by omega) (by omega)
  exact KC.ret ⟨rfl, _, rfl, one_res rfl (see_56 9) ho (by omega) (fun j hj => by have := hDR j hj; omega) (by rw [m1.row, if_pos rfl]; rfl) (by omega) (by show C.next < G.next; omega) (by omega) (fun hj => by have := hDR _ hj; omega) (by omega) (by simp) (hHC.trans (.new m1))⟩

theorem call_63 : CallOK' E0 3 9 42 63 ShSA := by
  intro H bx ns ss D hO hl1 _
  obtain ⟨r, vars, a1, n1, c1, a2, n2, c2, us, st, VV, LL, KK, hr, ht3, x3, x4, x5, wv, w3, w4, w5, v1, v2, b1, b2, m1_, m2_⟩ := argSA hO hl1
  refine WF.k Tryz.func63 rfl rfl ?_
  refine KC.seq (KC.region ?_)
  refine KO.pv (PV.assign rfl) rfl rfl ?_
  refine KO.nil ?_
  refine KC.seq ?_
  refine KC.draw (n := 9) (anc := [0, 1, 3, 7, 0, 16, 48, 112, 255]) (hv := [8]) (ord := [0, 1, 2, 3, 4, 5, 6, 7, 8]) (by kernel_rfl) (by kernel_rfl) (by kernel_rfl) (by kernel_rfl) (by kernel_rfl) fun H0 hn0 hr0 => ?_
  refine KD.pv 1 (PV.move rfl) rfl rfl rfl (by kernel_rfl) rfl rfl rfl ?_
  refine KD.pv 3 (PV.nilCheck rfl) rfl rfl rfl (by kernel_rfl) rfl rfl rfl ?_
  refine KD.pv 7 (PV.fieldAddr fo85_0 rfl) rfl rfl rfl (by kernel_rfl) rfl rfl rfl ?_
  refine KD.load 15 rfl ((hr0 _ ▸ hr)) (readN ag24 sz24 (ht3)) (past1 ⟨_, ((hr0 _ ▸ hr)), readN ag24 sz24 (ht3)⟩) (veq_as) rfl (by kernel_rfl) rfl rfl rfl ?_
  refine KD.pv 31 (PV.move rfl) rfl rfl rfl (by kernel_rfl) rfl rfl rfl ?_
  refine KD.pv 63 (PV.nilCheck rfl) rfl rfl rfl (by kernel_rfl) rfl rfl rfl ?_
  refine KD.pv 127 (PV.fieldAddr fo85_2 rfl) rfl rfl rfl (by kernel_rfl) rfl rfl rfl ?_
  refine KD.load 255 rfl ((hr0 _ ▸ hr)) (by rw [read1 ag3]; exact (x4)) (past1 ⟨_, ((hr0 _ ▸ hr)), by rw [read1 ag3]; exact (x4)⟩) (veq_int) rfl (by kernel_rfl) rfl rfl rfl ?_
  have hF0 : Frh H H0 := ⟨by omega, fun j _ => hr0 j⟩
  have v1 := v1.frame hF0
  have v2 := v2.frame hF0
  refine KD.call 511 rfl rfl rfl (by kernel_rfl) rfl rfl rfl ((as_Value H0 vars LL a1 a2 n1 c1 n2 c2 us st v1 v2 w4)) fun v8 A q8 => ?_
  refine KD.nil ⟨rfl, ?_⟩
  refine KC.seq (KC.region ?_)
  refine KO.pv (PV.assign rfl) rfl rfl ?_
  refine KO.nil ?_
  exact KC.ret ⟨rfl, _, rfl, no_res (hF0.trans q8)⟩

theorem call_65 : CallOK' E0 3 9 42 65 ShSA := by
  intro H bx ns ss D hO hl1 _
  obtain ⟨r, vars, a1, n1, c1, a2, n2, c2, us, st, VV, LL, KK, hr, ht3, x3, x4, x5, wv, w3, w4, w5, v1, v2, b1, b2, m1_, m2_⟩ := argSA hO hl1
  refine WF.k Tryz.func65 rfl rfl ?_
  refine KC.seq (KC.region ?_)
  refine KO.pv (PV.assign rfl) rfl rfl ?_
  refine KO.nil ?_
  refine KC.seq ?_
  refine KC.draw (n := 9) (anc := [0, 1, 3, 7, 0, 16, 48, 112, 255]) (hv := [8]) (ord := [0, 1, 2, 3, 4, 5, 6, 7, 8]) (by kernel_rfl) (by kernel_rfl) (by kernel_rfl) (by kernel_rfl) (by kernel_rfl) fun H0 hn0 hr0 => ?_
  refine KD.pv 1 (PV.move rfl) rfl rfl rfl (by kernel_rfl) rfl rfl rfl ?_
  refine KD.pv 3 (PV.nilCheck rfl) rfl rfl rfl (by kernel_rfl) rfl rfl rfl ?_
  refine KD.pv 7 (PV.fieldAddr fo85_0 rfl) rfl rfl rfl (by kernel_rfl) rfl rfl rfl ?_
  refine KD.load 15 rfl ((hr0 _ ▸ hr)) (readN ag24 sz24 (ht3)) (past1 ⟨_, ((hr0 _ ▸ hr)), readN ag24 sz24 (ht3)⟩) (veq_as) rfl (by kernel_rfl) rfl rfl rfl ?_
  refine KD.pv 31 (PV.move rfl) rfl rfl rfl (by kernel_rfl) rfl rfl rfl ?_
  refine KD.pv 63 (PV.nilCheck rfl) rfl rfl rfl (by kernel_rfl) rfl rfl rfl ?_
  refine KD.pv 127 (PV.fieldAddr fo85_2 rfl) rfl rfl rfl (by kernel_rfl) rfl rfl rfl ?_
  refine KD.load 255 rfl ((hr0 _ ▸ hr)) (by rw [read1 ag3]; exact (x4)) (past1 ⟨_, ((hr0 _ ▸ hr)), by rw [read1 ag3]; exact (x4)⟩) (veq_int) rfl (by kernel_rfl) rfl rfl rfl ?_
  have hF0 : Frh H H0 := ⟨by omega, fun j _ => hr0 j⟩
  have v1 := v1.frame hF0
  have v2 := v2.frame hF0
  refine KD.call 511 rfl rfl rfl (by kernel_rfl) rfl rfl rfl ((as_Level H0 vars LL a1 a2 n1 c1 n2 c2 us st v1 v2 w4)) fun v8 A q8 => ?_
  refine KD.nil ⟨rfl, ?_⟩
  refine KC.seq (KC.region ?_)
  refine KO.pv (PV.assign rfl) rfl rfl ?_
  refine KO.nil ?_
  exact KC.ret ⟨rfl, _, rfl, no_res (hF0.trans q8)⟩

theorem call_57 : CallOK' E0 3 9 42 57 ShSA := by
  intro H bx ns ss D hO hl1 _
  obtain ⟨r, vars, a1, n1, c1, a2, n2, c2, us, st, VV, LL, KK, hr, ht3, x3, x4, x5, wv, w3, w4, w5, v1, v2, b1, b2, m1_, m2_⟩ := argSA hO hl1
  refine WF.k Tryz.func57 rfl rfl ?_
  refine KC.seq (KC.region ?_)
  refine KO.pv (PV.assign rfl) rfl rfl ?_
  refine KO.nil ?_
  refine KC.seq ?_
  refine KC.draw (n := 15) (anc := [0, 1, 3, 7, 0, 16, 48, 112, 255, 511, 1023, 1023, 0, 6143, 16383]) (hv := [8, 13]) (ord := [0, 1, 2, 3, 4, 5, 6, 7, 8, 9, 10, 12, 13, 11, 14]) (by kernel_rfl) (by kernel_rfl) (by kernel_rfl) (by kernel_rfl) (by kernel_rfl) fun H0 hn0 hr0 => ?_
  refine KD.pv 1 (PV.move rfl) rfl rfl rfl (by kernel_rfl) rfl rfl rfl ?_
  refine KD.pv 3 (PV.nilCheck rfl) rfl rfl rfl (by kernel_rfl) rfl rfl rfl ?_
  refine KD.pv 7 (PV.fieldAddr fo85_0 rfl) rfl rfl rfl (by kernel_rfl) rfl rfl rfl ?_
  refine KD.load 15 rfl ((hr0 _ ▸ hr)) (readN ag24 sz24 (ht3)) (past1 ⟨_, ((hr0 _ ▸ hr)), readN ag24 sz24 (ht3)⟩) (veq_as) rfl (by kernel_rfl) rfl rfl rfl ?_
  refine KD.pv 31 (PV.move rfl) rfl rfl rfl (by kernel_rfl) rfl rfl rfl ?_
  refine KD.pv 63 (PV.nilCheck rfl) rfl rfl rfl (by kernel_rfl) rfl rfl rfl ?_
  refine KD.pv 127 (PV.fieldAddr fo85_2 rfl) rfl rfl rfl (by kernel_rfl) rfl rfl rfl ?_
  refine KD.load 255 rfl ((hr0 _ ▸ hr)) (by rw [read1 ag3]; exact (x4)) (past1 ⟨_, ((hr0 _ ▸ hr)), by rw [read1 ag3]; exact (x4)⟩) (veq_int) rfl (by kernel_rfl) rfl rfl rfl ?_
  have hF0 : Frh H H0 := ⟨by omega, fun j _ => hr0 j⟩
  have v1 := v1.frame hF0
  have v2 := v2.frame hF0
  refine KD.call 511 rfl rfl rfl (by kernel_rfl) rfl rfl rfl ((as_Decide H0 vars LL a1 a2 n1 c1 n2 c2 us st v1 v2 b1 b2 m1_ m2_ w4 wv)) fun v8 A q8 => ?_
  obtain ⟨v, e, us1, ss1, hv1, hG⟩ := q8
  dsimp only at hv1 hG
  subst hv1
  obtain ⟨⟨vars1, p1, m1_1, d1, p2, m2, d2, D1, D2, rfl, e2, e3, e4, e5, e6, e7⟩, f, g1, g2, l1, l2⟩ := hG
  refine KD.pv 1023 (PV.move rfl) rfl rfl rfl (by kernel_rfl) rfl rfl rfl ?_
  refine KD.pv 2047 (PV.extract rfl rfl) rfl rfl rfl (by kernel_rfl) rfl rfl rfl ?_
  refine KD.alloc 6143 zt24 rfl (by kernel_rfl) rfl rfl rfl fun B u0 => ?_
  have hB : B.row (H.next + 12) = some ⟨24, true, true, [.int .i64 0, .slice none 0 0, .slice none 0 0]⟩ := by rw [u0.row]; exact if_pos rfl
  refine KD.storeN 14335 sz24 rfl rfl (rfl) (hB) (rfl) ((Nat.le_refl _)) rfl (by kernel_rfl) rfl rfl fun C u1 => ?_
  refine KD.pv 16383 (PV.extract rfl rfl) rfl rfl rfl (by kernel_rfl) rfl rfl rfl ?_
  refine KD.pv 32767 (PV.assign rfl) rfl rfl rfl (by kernel_rfl) rfl rfl rfl ?_
  refine KD.nil ⟨rfl, ?_⟩
  refine KC.seq (KC.region ?_)
  refine KO.pv (PV.makeFunc rfl rfl) rfl rfl ?_
  refine KO.buildSlice el32 ez42 rfl rfl (rfl) rfl rfl fun G m1 => ?_
  refine KO.pv (PV.assign rfl) rfl rfl ?_
  refine KO.nil ?_
  have y0 := u0.next
  have y1 := u1.next
  have y2 := m1.next
  have hle := f.1
  have hHC : Frh H C := Frh.upd (Frh.upd (hF0.trans f) u0 (Nat.le_add_right _ _)) u1 (Nat.le_add_right _ _)
  have hst : ∀ j, H0.next ≤ j → j < A.next → G.row j = A.row j := fun j j1 j2 => by
    rw [m1.row, if_neg (by omega), u1.row, if_neg (show j ≠ H.next + 12 by omega), u0.row, if_neg (show j ≠ H.next + 12 by omega)]
  have hba : G.row (H.next + 12) = some ⟨24, true, true, [.int .i64 vars1, .slice p1 m1_1 d1, .slice p2 m2 d2]⟩ := by rw [m1.row, if_neg (by omega), u1.row]; exact if_pos rfl
  obtain ⟨nsR, DR, ho, hDR, hnR⟩ := ownAsg e2 e3 e4 e5 e6 e7 g1 g2 l1 l2 hst hba (.inl (by omega)) (by omega) (by omega)
  exact KC.ret ⟨rfl, _, rfl, one_res rfl (see_59 9) ho (by omega) (fun j hj => by have := hDR j hj; omega) (by rw [m1.row, if_pos rfl]; rfl) (by omega) (by show C.next < G.next; omega) (by omega) (fun hj => by have := hDR _ hj; omega) (by omega) (by simp) (hHC.trans (.new m1))⟩

theorem call_60 : CallOK' E0 3 9 42 60 ShSA := by
  intro H bx ns ss D hO hl1 _
  obtain ⟨r, vars, a1, n1, c1, a2, n2, c2, us, st, VV, LL, KK, hr, ht3, x3, x4, x5, wv, w3, w4, w5, v1, v2, b1, b2, m1_, m2_⟩ := argSA hO hl1
  refine WF.k Tryz.func60 rfl rfl ?_
  refine KC.seq (KC.region ?_)
  refine KO.pv (PV.assign rfl) rfl rfl ?_
  refine KO.nil ?_
  refine KC.seq ?_
  refine KC.draw (n := 15) (anc := [0, 1, 3, 7, 0, 16, 48, 112, 255, 511, 1023, 1023, 0, 6143, 16383]) (hv := [8, 13]) (ord := [0, 1, 2, 3, 4, 5, 6, 7, 8, 9, 10, 12, 13, 11, 14]) (by kernel_rfl) (by kernel_rfl) (by kernel_rfl) (by kernel_rfl) (by kernel_rfl) fun H0 hn0 hr0 => ?_
  refine KD.pv 1 (PV.move rfl) rfl rfl rfl (by kernel_rfl) rfl rfl rfl ?_
  refine KD.pv 3 (PV.nilCheck rfl) rfl rfl rfl (by kernel_rfl) rfl rfl rfl ?_
  refine KD.pv 7 (PV.fieldAddr fo85_0 rfl) rfl rfl rfl (by kernel_rfl) rfl rfl rfl ?_
  refine KD.load 15 rfl ((hr0 _ ▸ hr)) (readN ag24 sz24 (ht3)) (past1 ⟨_, ((hr0 _ ▸ hr)), readN ag24 sz24 (ht3)⟩) (veq_as) rfl (by kernel_rfl) rfl rfl rfl ?_
  refine KD.pv 31 (PV.move rfl) rfl rfl rfl (by kernel_rfl) rfl rfl rfl ?_
  refine KD.pv 63 (PV.nilCheck rfl) rfl rfl rfl (by kernel_rfl) rfl rfl rfl ?_
  refine KD.pv 127 (PV.fieldAddr fo85_2 rfl) rfl rfl rfl (by kernel_rfl) rfl rfl rfl ?_
  refine KD.load 255 rfl ((hr0 _ ▸ hr)) (by rw [read1 ag3]; exact (x4)) (past1 ⟨_, ((hr0 _ ▸ hr)), by rw [read1 ag3]; exact (x4)⟩) (veq_int) rfl (by kernel_rfl) rfl rfl rfl ?_
  have hF0 : Frh H H0 := ⟨by omega, fun j _ => hr0 j⟩
  have v1 := v1.frame hF0
  have v2 := v2.frame hF0
  refine KD.call 511 rfl rfl rfl (by kernel_rfl) rfl rfl rfl ((as_Imply H0 vars LL a1 a2 n1 c1 n2 c2 us st v1 v2 b1 b2 m1_ m2_ w4 wv)) fun v8 A q8 => ?_
  obtain ⟨v, e, us1, ss1, hv1, hG⟩ := q8
  dsimp only at hv1 hG
  subst hv1
  obtain ⟨⟨vars1, p1, m1_1, d1, p2, m2, d2, D1, D2, rfl, e2, e3, e4, e5, e6, e7⟩, f, g1, g2, l1, l2⟩ := hG
  refine KD.pv 1023 (PV.move rfl) rfl rfl rfl (by kernel_rfl) rfl rfl rfl ?_
  refine KD.pv 2047 (PV.extract rfl rfl) rfl rfl rfl (by kernel_rfl) rfl rfl rfl ?_
  refine KD.alloc 6143 zt24 rfl (by kernel_rfl) rfl rfl rfl fun B u0 => ?_
  have hB : B.row (H.next + 12) = some ⟨24, true, true, [.int .i64 0, .slice none 0 0, .slice none 0 0]⟩ := by rw [u0.row]; exact if_pos rfl
  refine KD.storeN 14335 sz24 rfl rfl (rfl) (hB) (rfl) ((Nat.le_refl _)) rfl (by kernel_rfl) rfl rfl fun C u1 => ?_
  refine KD.pv 16383 (PV.extract rfl rfl) rfl rfl rfl (by kernel_rfl) rfl rfl rfl ?_
  refine KD.pv 32767 (PV.assign rfl) rfl rfl rfl (by kernel_rfl) rfl rfl rfl ?_
  refine KD.nil ⟨rfl, ?_⟩
  refine KC.seq (KC.region ?_)
  refine KO.pv (PV.makeFunc rfl rfl) rfl rfl ?_
  refine KO.buildSlice el32 ez42 rfl rfl (rfl) rfl rfl fun G m1 => ?_
  refine KO.pv (PV.assign rfl) rfl rfl ?_
  refine KO.nil ?_
  have y0 := u0.next
  have y1 := u1.next
  have y2 := m1.next
  have hle := f.1
  have hHC : Frh H C := Frh.upd (Frh.upd (hF0.trans f) u0 (Nat.le_add_right _ _)) u1 (Nat.le_add_right _ _)
  have hst : ∀ j, H0.next ≤ j → j < A.next → G.row j = A.row j := fun j j1 j2 => by
    rw [m1.row, if_neg (by omega), u1.row, if_neg (show j ≠ H.next + 12 by omega), u0.row, if_neg (show j ≠ H.next + 12 by omega)]
  have hba : G.row (H.next + 12) = some ⟨24, true, true, [.int .i64 vars1, .slice p1 m1_1 d1, .slice p2 m2 d2]⟩ := by rw [m1.row, if_neg (by omega), u1.row]; exact if_pos rfl
  obtain ⟨nsR, DR, ho, hDR, hnR⟩ := ownAsg e2 e3 e4 e5 e6 e7 g1 g2 l1 l2 hst hba (.inl (by omega)) (by omega) (by omega)
  exact KC.ret ⟨rfl, _, rfl, one_res rfl (see_62 9) ho (by omega) (fun j hj => by have := hDR j hj; omega) (by rw [m1.row, if_pos rfl]; rfl) (by omega) (by show C.next < G.next; omega) (by omega) (fun hj => by have := hDR _ hj; omega) (by omega) (by simp) (hHC.trans (.new m1))⟩

theorem call_67 : CallOK' E0 3 9 42 67 ShSA := by
  intro H bx ns ss D hO hl1 _
  obtain ⟨r, vars, a1, n1, c1, a2, n2, c2, us, st, VV, LL, KK, hr, ht3, x3, x4, x5, wv, w3, w4, w5, v1, v2, b1, b2, m1_, m2_⟩ := argSA hO hl1
  refine WF.k Tryz.func67 rfl rfl ?_
  refine KC.seq (KC.region ?_)
  refine KO.pv (PV.assign rfl) rfl rfl ?_
  refine KO.nil ?_
  refine KC.seq ?_
  refine KC.draw (n := 15) (anc := [0, 1, 3, 7, 0, 16, 48, 112, 255, 511, 1023, 1023, 0, 6143, 16383]) (hv := [8, 13]) (ord := [0, 1, 2, 3, 4, 5, 6, 7, 8, 9, 10, 12, 13, 11, 14]) (by kernel_rfl) (by kernel_rfl) (by kernel_rfl) (by kernel_rfl) (by kernel_rfl) fun H0 hn0 hr0 => ?_
  refine KD.pv 1 (PV.move rfl) rfl rfl rfl (by kernel_rfl) rfl rfl rfl ?_
  refine KD.pv 3 (PV.nilCheck rfl) rfl rfl rfl (by kernel_rfl) rfl rfl rfl ?_
  refine KD.pv 7 (PV.fieldAddr fo85_0 rfl) rfl rfl rfl (by kernel_rfl) rfl rfl rfl ?_
  refine KD.load 15 rfl ((hr0 _ ▸ hr)) (readN ag24 sz24 (ht3)) (past1 ⟨_, ((hr0 _ ▸ hr)), readN ag24 sz24 (ht3)⟩) (veq_as) rfl (by kernel_rfl) rfl rfl rfl ?_
  refine KD.pv 31 (PV.move rfl) rfl rfl rfl (by kernel_rfl) rfl rfl rfl ?_
  refine KD.pv 63 (PV.nilCheck rfl) rfl rfl rfl (by kernel_rfl) rfl rfl rfl ?_
  refine KD.pv 127 (PV.fieldAddr fo85_3 rfl) rfl rfl rfl (by kernel_rfl) rfl rfl rfl ?_
  refine KD.load 255 rfl ((hr0 _ ▸ hr)) (by rw [read1 ag3]; exact (x5)) (past1 ⟨_, ((hr0 _ ▸ hr)), by rw [read1 ag3]; exact (x5)⟩) (veq_int) rfl (by kernel_rfl) rfl rfl rfl ?_
  have hF0 : Frh H H0 := ⟨by omega, fun j _ => hr0 j⟩
  have v1 := v1.frame hF0
  have v2 := v2.frame hF0
  refine KD.call 511 rfl rfl rfl (by kernel_rfl) rfl rfl rfl ((as_Undo H0 vars KK a1 a2 n1 c1 n2 c2 us st v1 v2 b1 b2 m1_ m2_ wv)) fun v8 A q8 => ?_
  obtain ⟨v, e, us1, ss1, hv1, hG⟩ := q8
  dsimp only at hv1 hG
  subst hv1
  obtain ⟨⟨vars1, p1, m1_1, d1, p2, m2, d2, D1, D2, rfl, e2, e3, e4, e5, e6, e7⟩, f, g1, g2, l1, l2⟩ := hG
  refine KD.pv 1023 (PV.move rfl) rfl rfl rfl (by kernel_rfl) rfl rfl rfl ?_
  refine KD.pv 2047 (PV.extract rfl rfl) rfl rfl rfl (by kernel_rfl) rfl rfl rfl ?_
  refine KD.alloc 6143 zt24 rfl (by kernel_rfl) rfl rfl rfl fun B u0 => ?_
  have hB : B.row (H.next + 12) = some ⟨24, true, true, [.int .i64 0, .slice none 0 0, .slice none 0 0]⟩ := by rw [u0.row]; exact if_pos rfl
  refine KD.storeN 14335 sz24 rfl rfl (rfl) (hB) (rfl) ((Nat.le_refl _)) rfl (by kernel_rfl) rfl rfl fun C u1 => ?_
  refine KD.pv 16383 (PV.extract rfl rfl) rfl rfl rfl (by kernel_rfl) rfl rfl rfl ?_
  refine KD.pv 32767 (PV.assign rfl) rfl rfl rfl (by kernel_rfl) rfl rfl rfl ?_
  refine KD.nil ⟨rfl, ?_⟩
  refine KC.seq (KC.region ?_)
  refine KO.pv (PV.makeFunc rfl rfl) rfl rfl ?_
  refine KO.buildSlice el32 ez42 rfl rfl (rfl) rfl rfl fun G m1 => ?_
  refine KO.pv (PV.assign rfl) rfl rfl ?_
  refine KO.nil ?_
  have y0 := u0.next
  have y1 := u1.next
  have y2 := m1.next
  have hle := f.1
  have hHC : Frh H C := Frh.upd (Frh.upd (hF0.trans f) u0 (Nat.le_add_right _ _)) u1 (Nat.le_add_right _ _)
  have hst : ∀ j, H0.next ≤ j → j < A.next → G.row j = A.row j := fun j j1 j2 => by
    rw [m1.row, if_neg (by omega), u1.row, if_neg (show j ≠ H.next + 12 by omega), u0.row, if_neg (show j ≠ H.next + 12 by omega)]
  have hba : G.row (H.next + 12) = some ⟨24, true, true, [.int .i64 vars1, .slice p1 m1_1 d1, .slice p2 m2 d2]⟩ := by rw [m1.row, if_neg (by omega), u1.row]; exact if_pos rfl
  obtain ⟨nsR, DR, ho, hDR, hnR⟩ := ownAsg e2 e3 e4 e5 e6 e7 g1 g2 l1 l2 hst hba (.inl (by omega)) (by omega) (by omega)
  exact KC.ret ⟨rfl, _, rfl, one_res rfl (see_69 9) ho (by omega) (fun j hj => by have := hDR j hj; omega) (by rw [m1.row, if_pos rfl]; rfl) (by omega) (by show C.next < G.next; omega) (by omega) (fun hj => by have := hDR _ hj; omega) (by omega) (by simp) (hHC.trans (.new m1))⟩

end Go.Eng

namespace Go.Eng
open Go Go.Proofs
theorem top_6 (w : Bool) (hwS : Sh.bools (.fld 0 (.fld 0 (.num .i64) (.fld 1 (.list 1 (.num .i64)) (.fld 2 (.list 1 (.num .i64)) .nil))) (.fld 3 (.num .i64) (.fld 4 (.num .i64) (.fld 5 (.num .i64) .nil)))) = true → w = true) (H : AHeap) (cs : List Value) (ns : List Int) (ss : List ByteArray) (D : List Nat) (hcl : cs.length = 6) (hone : cs.all oneC = true) (hR : Rd H ⟨false, w⟩ (.fld 0 (.fld 0 (.num .i64) (.fld 1 (.list 1 (.num .i64)) (.fld 2 (.list 1 (.num .i64)) .nil))) (.fld 3 (.num .i64) (.fld 4 (.num .i64) (.fld 5 (.num .i64) .nil)))) cs 0 ns ss D) (hD : ∀ j ∈ D, j < H.next) (l1 : ns.length ≤ 10000000) (l2 : ss.length ≤ 10000000) :
    WF E0 6 [.agg cs.toArray] H fun q => q.1 = .bool true := by
  have hcalls : ∀ f ∈ ([52, 54, 57, 60, 63, 65, 67] : List FuncId), CallOK' E0 3 9 42 f (.fld 0 (.fld 0 (.num .i64) (.fld 1 (.list 1 (.num .i64)) (.fld 2 (.list 1 (.num .i64)) .nil))) (.fld 3 (.num .i64) (.fld 4 (.num .i64) (.fld 5 (.num .i64) .nil)))) ∧ E0.ext f = none := by
    intro f hf
    simp only [List.mem_cons, List.not_mem_nil, or_false] at hf
    rcases hf with rfl | rfl | rfl | rfl | rfl | rfl | rfl
    · exact ⟨call_52, rfl⟩
    · exact ⟨call_54, rfl⟩
    · exact ⟨call_57, rfl⟩
    · exact ⟨call_60, rfl⟩
    · exact ⟨call_63, rfl⟩
    · exact ⟨call_65, rfl⟩
    · exact ⟨call_67, rfl⟩
  refine WF.k Tryz.func6 rfl rfl ?_
  refine KC.seq (KC.region ?_)
  refine KO.box (rfl) ((boxAgg hone)) rfl rfl fun G0 u0 => ?_
  refine KO.pv (PV.assign rfl) rfl rfl ?_
  refine KO.nil ?_
  rw [show cellsV (.agg cs.toArray) = cs by simp [cellsV]] at u0
  have hX : G0.row H.next = some ⟨85, true, true, cs⟩ := by rw [u0.row, if_pos rfl]
  have hn0 := u0.next
  refine KC.seq (KC.region ?_)
  refine KO.loadN ag85 sz85 rfl (hX) ((takeN_of (p := cs) (by rw [List.drop_zero, ← hcl, List.take_length]) hcl)) rfl rfl ?_
  refine KO.buildSlice el99 ez91 rfl rfl (rfl) rfl rfl fun G1 u1 => ?_
  refine KO.call rfl rfl rfl rfl (apart_49 (own := 50) (see := 51) (calls := [52, 54, 57, 60, 63, 65, 67]) own_50 (see_51 9) hcalls rfl rfl (by decide) G1 cs ns ss D hcl hone w hwS (hR.frame fun j hj => by have := hD j hj; rw [u1.row, if_neg (by omega), u0.row, if_neg (by omega)]) (fun j hj => by have := hD j hj; rw [u1.next]; omega) l1 l2 G0.next (by rw [u1.row, if_pos rfl]; rfl) (by rw [u1.next]; omega)) fun v2 G2 q2 => ?_
  dsimp only at q2
  subst q2
  refine KO.pv (PV.move rfl) rfl rfl ?_
  refine KO.call rfl rfl rfl rfl (WF.sum (Q := fun q => q.1 = .bool true) rfl rfl) fun v3 G3 q3 => ?_
  dsimp only at q3
  subst q3
  refine KO.pv (PV.pickT rfl rfl rfl) rfl rfl ?_
  refine KO.pv (PV.assign rfl) rfl rfl ?_
  refine KO.nil ?_
  exact KC.ret ⟨rfl, _, rfl, rfl⟩

end Go.Eng
