/- Rules for lists of numbers: read, owned, grown, changed in place. Conditions: none beyond each theorem's own. -/
import Derived.Test.YtphehedgnhmahaaGreatDoorKnB
/- Division; lists of whole numbers: as they are read, as one's own; appends to full lists. -/
namespace Go.Eng
open Go
theorem PV.quo {E : Env} {l : Kn} {t u : TypeId} {x y : Operand} {k : IntKind} {a b n : Int} (hx : kval E.G l x = some (.int k a)) (hy : kval E.G l y = some (.int k b)) (hb : b ≠ 0) (hn : k.wrap (a.tdiv b) = n) : PV E l (.binOp .quo t x y u) (.int k n) :=
  PV.bin hx hy (by simp only [binInt, binOp, ne_eq, not_true, if_false, Op.intDiv, hb, hn]; rfl)
theorem PV.rem {E : Env} {l : Kn} {t u : TypeId} {x y : Operand} {k : IntKind} {a b n : Int} (hx : kval E.G l x = some (.int k a)) (hy : kval E.G l y = some (.int k b)) (hb : b ≠ 0) (hn : a.tmod b = n) : PV E l (.binOp .rem t x y u) (.int k n) :=
  PV.bin hx hy (by simp only [binInt, binOp, ne_eq, not_true, if_false, Op.intDiv, hb, hn]; rfl)
theorem range64 {a : Int} (h : IntKind.i64.wrap a = a) : -9223372036854775808 ≤ a ∧ a < 9223372036854775808 := by
  rw [← h]; simp [IntKind.wrap, IntKind.bits, IntKind.signed]; omega
theorem tdiv2 (n : Nat) : (n : Int).tdiv 2 = ((n / 2 : Nat) : Int) := rfl
theorem KO.px' {E : Env} {N : Nat} {ops rest : List Oper} {l : Kn} {H : AHeap} {Q : Kn → AHeap → Prop} {d : Nat} {op : Op} {ty : TypeId} {ps : String} {af : Array Edge} {g : Option (Nat × Bool)} {v : Value} {H1 : AHeap} (hp : PX E l H op v H1) (hw : kwant ops l ⟨some d, op, ty, ps, af, g⟩ = some true) (hd : Nat.blt d N = true) (h : KO E N ops rest ((d, v) :: l) H1 Q) : KO E N ops (⟨some d, op, ty, ps, af, g⟩ :: rest) l H Q := KO.px hp hw hd h

/-- A list of numbers that can be read. -/
def VL (H : AHeap) (k : IntKind) (v : Value) (us : List Int) : Prop :=
  ∃ a len cap, v = .slice a len cap ∧ len ≤ cap ∧ len ≤ 1000000000 ∧ us.length = len ∧ (∀ u ∈ us, k.wrap u = u) ∧
    (len = 0 ∨ ∃ b off sp r, a = some ⟨b, off, sp⟩ ∧ b < H.next ∧ H.row b = some r ∧ ∀ i, i < len → r.cs[off + i]? = (us[i]?).map (Value.int k))
/-- The same, and its room is known. -/
def VX (H : AHeap) (k : IntKind) (v : Value) (us : List Int) : Prop := VL H k v us ∧ ∃ a len cap, v = .slice a len cap ∧ exactBase a = true
/-- A list of numbers of one's own. -/
def OL (H : AHeap) (k : IntKind) (v : Value) (us : List Int) (D : List Nat) : Prop :=
  ∃ a len cap, v = .slice a len cap ∧ len ≤ cap ∧ len ≤ 900000000 ∧ us.length = len ∧ (∀ u ∈ us, k.wrap u = u) ∧
    ((len = 0 ∧ D = []) ∨ ∃ b off sp r, a = some ⟨b, off, sp⟩ ∧ D = [b] ∧ H.row b = some r ∧ r.rw = true ∧ ∀ i, i < len → r.cs[off + i]? = (us[i]?).map (Value.int k))
theorem VL.frame {H H' : AHeap} {k : IntKind} {v : Value} {us : List Int} (h : VL H k v us) (q : Frh H H') : VL H' k v us := by
  obtain ⟨a, len, cap, h1, h2, h3, h4, h5, h6⟩ := h
  refine ⟨a, len, cap, h1, h2, h3, h4, h5, ?_⟩
  rcases h6 with h | ⟨b, off, sp, r, e1, e2, e3, e4⟩
  · exact .inl h
  · exact .inr ⟨b, off, sp, r, e1, Nat.lt_of_lt_of_le e2 q.1, (q.2 b e2).trans e3, e4⟩
theorem VX.frame {H H' : AHeap} {k : IntKind} {v : Value} {us : List Int} (h : VX H k v us) (q : Frh H H') : VX H' k v us := ⟨h.1.frame q, h.2⟩
theorem OL.frame {H H' : AHeap} {k : IntKind} {v : Value} {us : List Int} {D : List Nat} (h : OL H k v us D) (q : ∀ j ∈ D, H'.row j = H.row j) : OL H' k v us D := by
  obtain ⟨a, len, cap, h1, h2, h3, h4, h5, h6⟩ := h
  refine ⟨a, len, cap, h1, h2, h3, h4, h5, ?_⟩
  rcases h6 with h | ⟨b, off, sp, r, e1, rfl, e3, e4⟩
  · exact .inl h
  · exact .inr ⟨b, off, sp, r, e1, rfl, (q b (by simp)).trans e3, e4⟩
theorem OL.view {H : AHeap} {k : IntKind} {v : Value} {us : List Int} {D : List Nat} (h : OL H k v us D) (hD : ∀ j ∈ D, j < H.next) : VL H k v us := by
  obtain ⟨a, len, cap, h1, h2, h3, h4, h5, h6⟩ := h
  refine ⟨a, len, cap, h1, h2, by omega, h4, h5, ?_⟩
  rcases h6 with h | ⟨b, off, sp, r, e1, rfl, e3, -, e4⟩
  · exact .inl h.1
  · exact .inr ⟨b, off, sp, r, e1, hD b (by simp), e3, e4⟩
/-- One of its numbers. -/
theorem VL.at_ {H : AHeap} {k : IntKind} {a : Option Addr} {len cap : Nat} {us : List Int} (h : VL H k (.slice a len cap) us) {i : Nat} (hi : i < len) :
    ∃ b off sp r u, a = some ⟨b, off, sp⟩ ∧ b < H.next ∧ H.row b = some r ∧ us[i]? = some u ∧ r.cs[off + i * 1]? = some (.int k u) ∧ k.wrap u = u := by
  obtain ⟨a, len, cap, h1, h2, h3, h4, h5, h6⟩ := h
  cases h1
  rcases h6 with h | ⟨b, off, sp, r, e1, e2, e3, e4⟩
  · omega
  · have hu : us[i]? = some us[i] := List.getElem?_eq_getElem (by omega)
    exact ⟨b, off, sp, r, us[i], e1, e2, e3, hu, by rw [Nat.mul_one, e4 i hi, hu]; rfl, h5 _ (List.getElem_mem _)⟩
theorem RdN.cells {H : AHeap} {room : Md} {k : IntKind} {cs : List Value} : ∀ {us : List Int} {o : Nat}, (∀ i, i < us.length → cs[o + i]? = (us[i]?).map (Value.int k)) → (∀ u ∈ us, k.wrap u = u) → RdN (Rd H room (.num k)) cs 1 us.length o (us.map IntKind.i64.wrap) [] []
  | [], _, _, _ => ⟨rfl, rfl, rfl⟩
  | u :: r, o, h, hw => by
    refine ⟨[IntKind.i64.wrap u], [], [], r.map IntKind.i64.wrap, [], [], ⟨u, ?_, hw u List.mem_cons_self, rfl, rfl, rfl⟩, RdN.cells (fun i hi => ?_) (fun x hx => hw x (List.mem_cons_of_mem _ hx)), rfl, rfl, rfl⟩
    · have := h 0 (by simp); simpa using this
    · have := h (i + 1) (by simp; omega)
      rw [show o + 1 + i = o + (i + 1) by omega, this]; rfl
theorem OL.rd {H : AHeap} {k : IntKind} {v : Value} {us : List Int} {D : List Nat} (h : OL H k v us D) {cs : List Value} {o : Nat} (hc : cs[o]? = some v) :
    ∃ ns, Rd H ⟨false, true, false⟩ (.list 1 (.num k)) cs o ns [] D ∧ ns.length = us.length + 1 := by
  obtain ⟨a, len, cap, rfl, h2, h3, h4, h5, h6⟩ := h
  refine ⟨(len : Int) :: us.map IntKind.i64.wrap, ⟨a, len, cap, hc, ⟨h2, by show len ≤ _; omega⟩, (fun h => by cases h), us.map IntKind.i64.wrap, rfl, ?_⟩, by simp⟩
  rcases h6 with ⟨h, rfl⟩ | ⟨b, off, sp, r, e1, rfl, e3, e5, e4⟩
  · subst h
    exact .inl ⟨rfl, by rw [List.length_eq_zero_iff.1 h4]; rfl, rfl, rfl⟩
  · refine .inr ⟨b, off, sp, r, [], e1, e3, fun _ => (.inl e5), rfl, ?_⟩
    show RdN _ _ 1 len off _ _ _
    subst h4
    exact RdN.cells e4 h5
theorem OL.nil {H : AHeap} {k : IntKind} {a : Option Addr} {cap : Nat} : OL H k (.slice a 0 cap) [] [] := ⟨a, 0, cap, rfl, Nat.zero_le _, by omega, rfl, fun _ h => (by cases h), .inl ⟨rfl, rfl⟩⟩
theorem Lst.ol {H : AHeap} {e : Nat} {k : IntKind} {v : Value} {us : List Int} {D : List Nat} (h : Lst H e 1 v (us.map (Value.int k)) D) (hw : ∀ u ∈ us, k.wrap u = u) (hl : us.length ≤ 900000000) : OL H k v us D := by
  rcases h with ⟨rfl, h2, rfl⟩ | ⟨b, n, rfl, h2, h3, rfl⟩
  · have : us = [] := by simpa using h2
    subst this
    exact OL.nil
  · rw [List.length_map, Nat.mul_one] at h3
    refine ⟨_, n, n, rfl, Nat.le_refl _, by omega, h3, hw, .inr ⟨b, 0, some 1, _, rfl, rfl, h2, rfl, fun i hi => ?_⟩⟩
    rw [Nat.zero_add, List.getElem?_map]
/-- An argument's list. -/
theorem list_VX {H : AHeap} {room : Md} {k : IntKind} {cs : List Value} {o : Nat} {ns : List Int} {ss : List ByteArray} {D : List Nat} (h : Rd H room (.list 1 (.num k)) cs o ns ss D) (hr : room.r = true) (hD : ∀ j ∈ D, j < H.next) (hns : ns.length ≤ 300000000) :
    ∃ v us, cs[o]? = some v ∧ VX H k v us ∧ us.length ≤ 300000000 := by
  obtain ⟨a, len, cap, h1, ⟨h2, h2'⟩, h3, n1, rfl, h5⟩ := h
  rw [hr] at h2' h5
  rcases h5 with ⟨h, -⟩ | ⟨b, off, sp, r, D', k1, k2, k3, rfl, k5⟩
  · have : len = 0 := by simp only [cnt, if_true] at h; omega
    subst this
    exact ⟨_, [], h1, ⟨⟨a, 0, cap, rfl, h2, by omega, rfl, fun _ h => (by cases h), .inl rfl⟩, a, 0, cap, rfl, h3 hr⟩, by simp⟩
  · have h2'' : cap ≤ 1000000000 := by simpa [cnt] using h2'
    have hcc : cnt true len cap = cap := rfl
    rw [hcc] at k5
    have hx : ∀ i, i < len → ∃ u : Int, r.cs[off + i]? = some (.int k u) ∧ k.wrap u = u := fun i hi => by
      obtain ⟨_, _, _, hx⟩ := k5.at_ i (by omega)
      obtain ⟨u, h1, h2⟩ := hx.numAt
      rw [Nat.mul_one] at h1
      exact ⟨u, h1, h2⟩
    have hus : ∃ us : List Int, us.length = len ∧ ∀ i, i < len → ∃ u : Int, us[i]? = some u ∧ r.cs[off + i]? = some (.int k u) ∧ k.wrap u = u := by
      clear k5 hcc h2'' h2' h2 h1 hns
      induction len with
      | zero => exact ⟨[], rfl, fun i hi => by omega⟩
      | succ n ih =>
        obtain ⟨us, hu1, hu2⟩ := ih (fun i hi => hx i (by omega))
        obtain ⟨u, hu⟩ := hx n (by omega)
        refine ⟨us ++ [u], by simp [hu1], fun i hi => ?_⟩
        by_cases hin : i < n
        · obtain ⟨w, hw1, hw2⟩ := hu2 i hin
          exact ⟨w, by rw [List.getElem?_append_left (by omega)]; exact hw1, hw2⟩
        · have : i = n := by omega
          subst this
          exact ⟨u, by rw [List.getElem?_append_right (by omega), hu1, Nat.sub_self]; rfl, hu⟩
    obtain ⟨us, hu1, hu2⟩ := hus
    have hlen : len ≤ 300000000 := by
      have : ∀ n o ns ss D, RdN (Rd H room (.num k)) r.cs 1 n o ns ss D → ns.length = n := by
        intro n
        induction n with
        | zero => intro o ns ss D h; obtain ⟨rfl, -⟩ := h; rfl
        | succ n ih =>
          intro o ns ss D h
          obtain ⟨n1, s1, D1, n2, s2, D2, ⟨_, _, _, rfl, _⟩, q2, rfl, -⟩ := h
          rw [List.length_append, ih _ _ _ _ q2]; simp only [List.length_singleton]; omega
      have := this _ _ _ _ _ k5
      simp only [List.length_cons] at hns
      omega
    refine ⟨_, us, h1, ⟨⟨a, len, cap, rfl, h2, by omega, hu1, fun u hu => ?_, .inr ⟨b, off, sp, r, k1, hD b (by simp), k2, fun i hi => ?_⟩⟩, a, len, cap, rfl, h3 hr⟩, by omega⟩
    · obtain ⟨i, hi, rfl⟩ := List.mem_iff_getElem.1 hu
      obtain ⟨w, hw1, -, hw3⟩ := hu2 i (by omega)
      rw [List.getElem?_eq_getElem hi] at hw1
      cases hw1; exact hw3
    · obtain ⟨w, hw1, hw2, -⟩ := hu2 i hi
      rw [hw1, hw2]; rfl
/-- The first part of a list. -/
theorem slice_to {P : Program} {t e sz : Nat} {a : Option Addr} {len cap h : Nat} (hT : P.underlying t = some (.slice e)) (hs : sizeT P e = some sz) (ha : ∀ x, a = some x → spotIs sz x = true) (hh : h ≤ cap) : sliceA P t (.slice a len cap) none (some (.int .i64 (h : Int))) none = some (.slice a h cap) := by
  have hb := boundV_nat (k := .i64) hh
  simp only [sliceA, hT, Option.bind_some, sliceD, dString, cond_false, dSlice, hs, vSl, subSlice, bounds3, isNone, Bool.not_true, Bool.and_false, boundA, hb, Option.map_some, Nat.sub_zero]
  cases a with
  | none => rfl
  | some x =>
    obtain ⟨b, o, sp⟩ := x
    have := ha _ rfl
    cases sp with
    | none => simp [spotIs, subBase, isNone]
    | some y => simp [this, subBase, isNone]
theorem slice_toM {P : Program} {t e sz : Nat} {a : Option Addr} {len cap h m : Nat} (hT : P.underlying t = some (.slice e)) (hs : sizeT P e = some sz) (ha : exactBase a = true) (hh : h ≤ m) (hm : m ≤ cap) : sliceA P t (.slice a len cap) none (some (.int .i64 (h : Int))) (some (.int .i64 (m : Int))) = some (.slice a h m) := by
  have hb1 := boundV_nat (k := .i64) hm
  have hb := boundV_nat (k := .i64) hh
  simp only [sliceA, hT, Option.bind_some, sliceD, dString, cond_false, dSlice, hs, vSl, subSlice, bounds3, isNone, Bool.false_and, Bool.not_false, boundA, hb, hb1, Option.map_some, Nat.sub_zero]
  cases a with
  | none => rfl
  | some x =>
    obtain ⟨b, o, sp⟩ := x
    cases sp with
    | none => simp [spotIs, subBase, isNone]
    | some y => cases ha
theorem appOut_zero {H : AHeap} {e sz n c : Nat} {new : List Value} {a : Option Addr} (ha : exactBase a = true) : appOut H e sz ⟨a, 0, c⟩ n new = some (appNew H e sz n new) := by
  cases a with
  | none => rfl
  | some x => cases x with | mk b o sp => cases sp with | none => rfl | some y => cases ha
/-- Append to a list without room behind it. -/
theorem app_full {P : Program} {H : AHeap} {t tx e ex sz len n : Nat} {z : List Value} {a : Option Addr} {x : Value} {cs new : List Value} (ht : elemT P t = some e) (hz : elemZ P e = some (sz, z)) (hsb : smallBytes P e = true) (htx : P.underlying tx = some (.slice ex)) (hx : newElems sz x H = some (n, new)) (hnl : new.length = n * sz)
    (ha : exactBase a = true) (hcs : cs.all oneC = true) (hcl : cs.length = len * sz) (hcell : len = 0 ∨ ∃ b off sp r, a = some ⟨b, off, sp⟩ ∧ H.row b = some r ∧ (r.cs.drop off).take (len * sz) = cs) (hlim : len + n ≤ 1000000000) :
    ∃ v' H1, appendA P [t, tx] [.slice a len len, x] H = some (v', H1) ∧ ((n = 0 ∧ v' = .slice a len len ∧ H1 = H) ∨ (0 < n ∧ Lst H1 e sz v' (cs ++ new) [H.next] ∧ Frh H H1 ∧ H1.next = H.next + 1)) := by
  have hq : newCellsA P tx (sz, z) x H = some (n, new) := by
    simp only [newCellsA, htx, Option.bind_some, dInt, dString, dSlice, isNone, Bool.not_false, Bool.false_or, cond_true, hx]
  have start : appendA P [t, tx] [.slice a len len, x] H = (bif smallBytes P e && Nat.ble (len + n) 1000000000 then (bif Nat.ble (len + n) len then appIn H sz ⟨a, len, len⟩ n new else appOut H e sz ⟨a, len, len⟩ n new) else none) := by
    show (bif true then (elemT P t).bind fun e => (vSl _).bind fun s => appendE P e tx s x H else none) = _
    simp only [cond_true, ht, Option.bind_some, vSl, appendE, hz, hq]
  rw [start]
  simp only [hsb, ble_nat.2 hlim, Bool.and_self, cond_true]
  by_cases h0 : n = 0
  · subst h0
    have : new = [] := List.length_eq_zero_iff.1 (by rw [hnl]; simp)
    subst this
    refine ⟨_, H, ?_, .inl ⟨rfl, rfl, rfl⟩⟩
    simp only [Nat.add_zero, ble_nat.2 (Nat.le_refl len), cond_true, appIn]
    cases a <;> simp
  · have hble : Nat.ble (len + n) len = false := by
      cases hc : Nat.ble (len + n) len with
      | false => rfl
      | true => exact absurd (ble_nat.1 hc) (by omega)
    simp only [hble, cond_false]
    rcases Nat.eq_zero_or_pos len with rfl | hpos
    · have : cs = [] := List.length_eq_zero_iff.1 (by rw [hcl]; simp)
      subst this
      simp only [appOut_zero ha]
      refine ⟨_, _, rfl, .inr ⟨by omega, .inr ⟨H.next, n, rfl, ?_, hnl, rfl⟩, ⟨Nat.le_succ _, fun j hj => ?_⟩, rfl⟩⟩
      · rw [row_new, if_pos rfl]; rfl
      · rw [row_new, if_neg (by omega)]
    rcases hcell with h | ⟨b, off, sp, r, rfl, hr, hcell⟩
    · omega
    · have hsp : sp = none := by cases sp; rfl; cases ha
      subst hsp
      have hl0 : Nat.beq len 0 = false := by
        cases hq : Nat.beq len 0 with
        | false => rfl
        | true => have := Nat.eq_of_beq_eq_true hq; omega
      simp only [appOut, appOld, hr, Option.bind_some, takeN_of hcell hcl, hcs, cond_true, isNone, hl0, Bool.and_false, cond_false]
      refine ⟨_, _, rfl, .inr ⟨by omega, .inr ⟨H.next, len + n, rfl, ?_, by rw [List.length_append, hcl, hnl, Nat.add_mul], rfl⟩, ⟨Nat.le_succ _, fun j hj => ?_⟩, rfl⟩⟩
      · rw [row_new, if_pos rfl]; rfl
      · rw [row_new, if_neg (by omega)]
theorem PX.appendF {E : Env} {l : Kn} {p q : Operand} {H : AHeap} {t tx e ex sz len n : Nat} {z : List Value} {a : Option Addr} {x : Value} {cs new : List Value} (hp : kval E.G l p = some (.slice a len len)) (hb : kval E.G l q = some x) (ht : elemT E.P t = some e) (hz : elemZ E.P e = some (sz, z)) (hsb : smallBytes E.P e = true) (htx : E.P.underlying tx = some (.slice ex)) (hx : newElems sz x H = some (n, new)) (hnl : new.length = n * sz)
    (ha : exactBase a = true) (hcs : cs.all oneC = true) (hcl : cs.length = len * sz) (hcell : len = 0 ∨ ∃ b off sp r, a = some ⟨b, off, sp⟩ ∧ H.row b = some r ∧ (r.cs.drop off).take (len * sz) = cs) (hlim : len + n ≤ 1000000000) :
    ∃ v' H1, PX E l H (.call ⟨.builtin .append, #[p, q], #[t, tx]⟩) v' H1 ∧ ((n = 0 ∧ v' = .slice a len len ∧ H1 = H) ∨ (0 < n ∧ Lst H1 e sz v' (cs ++ new) [H.next] ∧ Frh H H1 ∧ H1.next = H.next + 1)) := by
  obtain ⟨v', H1, h1, h2⟩ := app_full ht hz hsb htx hx hnl ha hcs hcl hcell hlim
  refine ⟨v', H1, ?_, h2⟩
  intro F N hF cc yy
  have hx' : avals E.G F [p, q] = some [.slice a len len, x] := by simp only [avals, kval_ok hF hp, kval_ok hF hb, Option.bind_some, Option.map_some]
  show callOpA E cc yy F _ H = _
  simp only [callOpA, hx', Option.bind_some, calleeA, builtinA, h1]
end Go.Eng

/- Truth values in a row; comparison with nil; clones; two results of which one is loaded. -/
namespace Go.Eng
open Go
/-- A row of truth values. -/
def BR (e n : Nat) (r : Option Row) : Prop := ∃ cs, r = some ⟨e, true, true, cs⟩ ∧ cs.length = n ∧ ∀ j, j < n → ∃ x : Bool, cs[j]? = some (.bool x)
theorem BR.zero {e n : Nat} : BR e n (some ⟨e, true, true, zerosFor [.bool false] n⟩) :=
  ⟨_, rfl, by rw [zerosFor_length]; simp, fun j hj => ⟨false, by have := zerosFor_get (z := [Value.bool false]) (n := n) (k := j) (c := 0) hj (by simp); simpa using this⟩⟩
theorem BR.put {e n : Nat} {cs : List Value} (h : BR e n (some ⟨e, true, true, cs⟩)) {j : Nat} (hj : j < n) (b : Bool) : BR e n (some ⟨e, true, true, putL cs j [.bool b]⟩) := by
  obtain ⟨cs', h1, h2, h3⟩ := h
  cases h1
  refine ⟨_, rfl, by rw [putL_length (by simp; omega)]; exact h2, fun i hi => ?_⟩
  rw [putL1 (by omega)]
  by_cases e : i = j
  · exact ⟨b, by rw [if_pos e]⟩
  · obtain ⟨x, hx⟩ := h3 i hi
    exact ⟨x, by rw [if_neg e]; exact hx⟩
/-- A number of a list whose block is known. -/
theorem VL.cell {H : AHeap} {k : IntKind} {b off len cap : Nat} {sp : Option Nat} {r : Row} {us : List Int} (h : VL H k (.slice (some ⟨b, off, sp⟩) len cap) us) (hr : H.row b = some r) {i : Nat} (hi : i < len) :
    ∃ u, us[i]? = some u ∧ r.cs[off + i * 1]? = some (.int k u) ∧ k.wrap u = u := by
  obtain ⟨b', off', sp', r', u, e, h1, h2, h3, h4, h5⟩ := h.at_ hi
  cases e
  rw [hr] at h2
  cases h2
  exact ⟨u, h3, h4, h5⟩
theorem VL.len {H : AHeap} {k : IntKind} {a : Option Addr} {len cap : Nat} {us : List Int} (h : VL H k (.slice a len cap) us) : us.length = len ∧ len ≤ cap ∧ len ≤ 1000000000 ∧ ∀ u ∈ us, k.wrap u = u := by
  obtain ⟨a, len, cap, h1, h2, h3, h4, h5, h6⟩ := h
  cases h1
  exact ⟨h4, h2, h3, h5⟩
theorem VL.slice {H : AHeap} {k : IntKind} {v : Value} {us : List Int} (h : VL H k v us) : ∃ a len cap, v = .slice a len cap := by
  obtain ⟨a, len, cap, h1, -⟩ := h
  exact ⟨a, len, cap, h1⟩
/-- The first numbers of a list. -/
theorem VL.take {H : AHeap} {k : IntKind} {a : Option Addr} {len cap : Nat} {us : List Int} (h : VL H k (.slice a len cap) us) {n c : Nat} (hn : n ≤ len) (hc : n ≤ c) : VL H k (.slice a n c) (us.take n) := by
  obtain ⟨a, len, cap, h1, h2, h3, h4, h5, h6⟩ := h
  cases h1
  refine ⟨a, n, c, rfl, hc, by omega, by rw [List.length_take]; omega, fun u hu => h5 u (List.mem_of_mem_take hu), ?_⟩
  rcases h6 with h | ⟨b, off, sp, r, e1, e2, e3, e4⟩
  · exact .inl (by omega)
  · refine .inr ⟨b, off, sp, r, e1, e2, e3, fun i hi => ?_⟩
    rw [e4 i (by omega), List.getElem?_take, if_pos hi]
/-- Its numbers are in the cells from its place on. -/
theorem VL.cells {H : AHeap} {k : IntKind} {a : Option Addr} {len cap : Nat} {us : List Int} (h : VL H k (.slice a len cap) us) : len = 0 ∨ ∃ b off sp r, a = some ⟨b, off, sp⟩ ∧ H.row b = some r ∧ (r.cs.drop off).take (len * 1) = us.map (Value.int k) := by
  obtain ⟨a, len, cap, h1, h2, h3, h4, h5, h6⟩ := h
  cases h1
  rcases h6 with h | ⟨b, off, sp, r, e1, e2, e3, e4⟩
  · exact .inl h
  · refine .inr ⟨b, off, sp, r, e1, e3, ?_⟩
    apply List.ext_getElem?
    intro i
    rw [Nat.mul_one, List.getElem?_take, List.getElem?_drop, List.getElem?_map]
    by_cases hi : i < len
    · rw [if_pos hi, e4 i hi]
    · rw [if_neg hi, List.getElem?_eq_none (by omega)]; rfl
theorem VL.new {H : AHeap} {k : IntKind} {a : Option Addr} {len cap : Nat} {us : List Int} (h : VL H k (.slice a len cap) us) : newElems 1 (.slice a len cap) H = some (len, us.map (Value.int k)) := by
  have hl := h.len.1
  rcases h.cells with h0 | ⟨b, off, sp, r, rfl, hr, hc⟩
  · subst h0
    have : us = [] := List.length_eq_zero_iff.1 hl
    subst this
    cases a <;> simp [newElems, lenV, vSl, firstCellsA, firstSl, rowCells]
  · exact newElems_of hr hc (by simp [hl]) (ints_all us)
/-- Equal to nil? -/
theorem PV.eqNil {E : Env} {l : Kn} {t e u : TypeId} {x : Operand} {a : Option Addr} {n c : Nat} (ht : E.P.underlying t = some (.slice e)) (hx : kval E.G l x = some (.slice a n c)) : PV E l (.binOp .eql t x (.const (.slice none 0 0)) u) (.bool (isNone a)) := by
  intro F N hF cc yy H
  have hk : kval E.G l (.const (.slice none 0 0)) = some (.slice none 0 0) := rfl
  simp only [opA, opBin, kval_ok hF hx, kval_ok hF hk, keepH, Option.bind_some, binA, vInt, vStr]
  cases a <;> simp [eqA, isEql, ht, dSlice, dPtr, dStruct, vSl, isNone, isNilIface, eqD, eqSlice, nilOnly, sameB]
theorem WF.kc2 {E : Env} {f : FuncId} {H : AHeap} {fn : Func} {c : Code} {vs : List Value} {a b : Tmp} {t : TypeId} {R : Value × AHeap → Prop} (hf : E.P.funcs[f]? = some fn) (hb : fn.body = some c) (hn : Nat.ble vs.length fn.ntmps = true) (hr : fn.results.toList = [.cell a t, .tmp b])
    (h : KC E f fn.ntmps c (args0 0 vs) H fun e l' H' => isExit e = false ∧ ∃ p v w, lk l' a = some p ∧ loadA E.P t p H' = some v ∧ lk l' b = some w ∧ R (.tuple #[v, w], H')) (hs : E.sum f = none := by rfl) : WF E f vs H R := by
  refine WF.of hs hf hb ((h _ (knows0 vs _ hn)).mono fun o ho => ?_)
  obtain ⟨l', h1, h2, h3, h4, h5, p, v, w, h6, h7, h8, h9⟩ := ho
  refine ⟨_, ?_, h9⟩
  simp only [funcEnd, h5, cond_false, h2, closeDefs, Option.bind_some, hr, resultsA, resultA, h4.2 a p h6, h4.2 b w h8, h7, Option.map_some, pack]
theorem OL.app {H A : AHeap} {e : Nat} {k : IntKind} {v : Value} {us : List Int} {n : Nat} {a : Option Addr} {len : Nat} (h : (n = 0 ∧ v = .slice a len len ∧ A = H) ∨ (0 < n ∧ Lst A e 1 v (us.map (Value.int k)) [H.next] ∧ Frh H A ∧ A.next = H.next + 1)) (hn : n ≠ 0 ∨ (len = 0 ∧ us = [])) (hw : ∀ u ∈ us, k.wrap u = u) (hl : us.length ≤ 900000000) :
    ∃ D, OL A k v us D ∧ Frh H A ∧ ∀ j ∈ D, H.next ≤ j ∧ j < A.next := by
  rcases h with ⟨h1, rfl, rfl⟩ | ⟨h1, h2, h3, h4⟩
  · rcases hn with h | ⟨rfl, rfl⟩
    · omega
    · exact ⟨[], .nil, .refl, fun _ h => (by cases h)⟩
  · exact ⟨_, h2.ol hw hl, h3, fun j hj => by simp only [List.mem_singleton] at hj; omega⟩
end Go.Eng

/- Lists that grow from nothing, or from nothing with a place of its own. -/
namespace Go.Eng
open Go
def GL (H : AHeap) (e sz : Nat) (v : Value) (cs : List Value) (D : List Nat) : Prop := (∃ a, exactBase a = true ∧ v = .slice a 0 0 ∧ cs = [] ∧ D = []) ∨ Lst H e sz v cs D
theorem GL.frame {H H' : AHeap} {e sz : Nat} {v : Value} {cs : List Value} {D : List Nat} (h : GL H e sz v cs D) (hr : ∀ j ∈ D, H'.row j = H.row j) : GL H' e sz v cs D := h.imp id fun k => k.frame hr
theorem GL.nil {H : AHeap} {e sz : Nat} {a : Option Addr} (ha : exactBase a = true) : GL H e sz (.slice a 0 0) [] [] := .inl ⟨a, ha, rfl, rfl, rfl⟩
theorem GL.sl {H : AHeap} {e sz : Nat} {v : Value} {cs : List Value} {D : List Nat} (h : GL H e sz v cs D) : ∃ a n c, v = .slice a n c := by
  rcases h with ⟨a, -, rfl, -⟩ | ⟨rfl, -⟩ | ⟨b, n, rfl, -⟩
  · exact ⟨_, _, _, rfl⟩
  · exact ⟨_, _, _, rfl⟩
  · exact ⟨_, _, _, rfl⟩
theorem GL.nodup {H : AHeap} {e sz : Nat} {v : Value} {cs : List Value} {D : List Nat} (h : GL H e sz v cs D) : D.Nodup := by
  rcases h with ⟨a, -, -, -, rfl⟩ | ⟨-, -, rfl⟩ | ⟨b, n, -, -, -, rfl⟩ <;> simp
theorem GL.one {H : AHeap} {e sz : Nat} {v : Value} {cs : List Value} {D : List Nat} (h : GL H e sz v cs D) : goodCells v 1 = some [v] := by
  obtain ⟨a, n, c, rfl⟩ := h.sl
  rfl
theorem GL.len {H : AHeap} {e : Nat} {a : Option Addr} {n c : Nat} {cs : List Value} {D : List Nat} (h : GL H e 1 (.slice a n c) cs D) : cs.length = n ∧ n = c := by
  rcases h with ⟨a', -, h1, rfl, -⟩ | ⟨h1, rfl, -⟩ | ⟨b, n', h1, -, h2, -⟩
  · cases h1; exact ⟨rfl, rfl⟩
  · cases h1; exact ⟨rfl, rfl⟩
  · cases h1; exact ⟨by omega, rfl⟩
theorem GL.ol {H : AHeap} {e : Nat} {k : IntKind} {v : Value} {us : List Int} {D : List Nat} (h : GL H e 1 v (us.map (Value.int k)) D) (hw : ∀ u ∈ us, k.wrap u = u) (hl : us.length ≤ 900000000) : OL H k v us D := by
  rcases h with ⟨a, -, rfl, h2, rfl⟩ | h
  · have : us = [] := by simpa using h2
    subst this
    exact OL.nil
  · exact h.ol hw hl
theorem PX.appendG {E : Env} {l : Kn} {H : AHeap} {t tx e ex sz n : Nat} {z : List Value} {x sv : Value} {cs new : List Value} {D : List Nat} {a b : Operand} (h : GL H e sz sv cs D) (ha : kval E.G l a = some sv) (hb : kval E.G l b = some x) (ht : elemT E.P t = some e) (hz : elemZ E.P e = some (sz, z)) (hsb : smallBytes E.P e = true) (htx : E.P.underlying tx = some (.slice ex)) (hx : newElems sz x H = some (n, new)) (hnl : new.length = n * sz) (hcs : cs.all oneC = true)
    (hlim : cs.length + new.length ≤ 1000000000) :
    ∃ v' H1 D', PX E l H (.call ⟨.builtin .append, #[a, b], #[t, tx]⟩) v' H1 ∧ GL H1 e sz v' (cs ++ new) D' ∧ H.next ≤ H1.next ∧ (∀ j, j ∉ D → j < H.next → H1.row j = H.row j) ∧ (∀ j ∈ D', j ∈ D ∨ (H.next ≤ j ∧ j < H1.next)) := by
  have hsz : 0 < sz := by
    simp only [elemZ, Option.bind_eq_some_iff, bif_some, Bool.and_eq_true, blt_nat, Option.some.injEq, Prod.mk.injEq] at hz
    obtain ⟨k, -, zz, -, ⟨h0, -⟩, rfl, -⟩ := hz
    exact h0
  rcases h with ⟨a', h1, rfl, rfl, rfl⟩ | h
  · have hn : n ≤ n * sz := Nat.le_mul_of_pos_right n hsz
    obtain ⟨v', H1, hp, hc⟩ := PX.appendF (cs := []) ha hb ht hz hsb htx hx hnl h1 rfl (by simp) (.inl rfl) (by simp only [List.length_nil] at hlim; omega)
    rcases hc with ⟨rfl, rfl, rfl⟩ | ⟨h2, h3, h4, h5⟩
    · have : new = [] := List.length_eq_zero_iff.1 (by rw [hnl]; simp)
      subst this
      exact ⟨_, H1, [], hp, .nil h1, Nat.le_refl _, fun _ _ _ => rfl, fun _ h => (by cases h)⟩
    · exact ⟨v', H1, _, hp, .inr h3, h4.1, fun j _ hj => h4.2 j hj, fun j hj => by simp only [List.mem_singleton] at hj; exact .inr (by omega)⟩
  · obtain ⟨v', H1, D', p1, k1, k2, k3, k4⟩ := PX.append h ha hb ht hz hsb htx hx hnl hcs hlim
    exact ⟨v', H1, D', p1, .inr k1, k2, k3, k4⟩
theorem KO.appendG {E : Env} {N : Nat} {ops rest : List Oper} {l : Kn} {H : AHeap} {Q : Kn → AHeap → Prop} {ty : TypeId} {ps : String} {af : Array Edge} {g : Option (Nat × Bool)} {d t tx e ex sz n : Nat} {z : List Value} {a b : Operand} {x sv : Value} {cs new : List Value} {D : List Nat} (ht : elemT E.P t = some e) (hz : elemZ E.P e = some (sz, z)) (hsb : smallBytes E.P e = true) (htx : E.P.underlying tx = some (.slice ex))
    (ha : kval E.G l a = some sv) (hb : kval E.G l b = some x) (hL : GL H e sz sv cs D) (hx : newElems sz x H = some (n, new)) (hnl : new.length = n * sz) (hcs : cs.all oneC = true) (hlim : cs.length + new.length ≤ 1000000000)
    (hw : kwant ops l ⟨some d, .call ⟨.builtin .append, #[a, b], #[t, tx]⟩, ty, ps, af, g⟩ = some true) (hd : Nat.blt d N = true)
    (h : ∀ v' H1 D', GL H1 e sz v' (cs ++ new) D' → H.next ≤ H1.next → (∀ j, j ∉ D → j < H.next → H1.row j = H.row j) → (∀ j ∈ D', j ∈ D ∨ (H.next ≤ j ∧ j < H1.next)) → KO E N ops rest ((d, v') :: l) H1 Q) :
    KO E N ops (⟨some d, .call ⟨.builtin .append, #[a, b], #[t, tx]⟩, ty, ps, af, g⟩ :: rest) l H Q := by
  obtain ⟨v', H1, D', p1, k1, k2, k3, k4⟩ := PX.appendG hL ha hb ht hz hsb htx hx hnl hcs hlim
  exact KO.px p1 hw hd (h v' H1 D' k1 k2 k3 k4)
theorem KD.appendG {E : Env} {R : DR} {N : Nat} {ord : List Nat} {l : Kn} {H : AHeap} {past : List AHeap} {done : Nat} {hs : List Nat} {Q : Kn → AHeap → Nat → List Nat → Prop} {i : Nat} {ty : TypeId} {ps : String} {af : Array Edge} {g : Option (Nat × Bool)} {d t tx e ex sz n : Nat} {z : List Value} {a b : Operand} {x sv : Value} {cs new : List Value} {D : List Nat} (done' : Nat) (ht : elemT E.P t = some e) (hz : elemZ E.P e = some (sz, z)) (hsb : smallBytes E.P e = true) (htx : E.P.underlying tx = some (.slice ex))
    (ha : kval E.G l a = some sv) (hb : kval E.G l b = some x) (hL : GL H e sz sv cs D) (hx : newElems sz x H = some (n, new)) (hnl : new.length = n * sz) (hcs : cs.all oneC = true) (hlim : cs.length + new.length ≤ 1000000000)
    (ho : R.ops[i]? = some ⟨some d, .call ⟨.builtin .append, #[a, b], #[t, tx]⟩, ty, ps, af, g⟩) (hk : stepOk R i ⟨some d, .call ⟨.builtin .append, #[a, b], #[t, tx]⟩, ty, ps, af, g⟩ done hs = true) (hw : kwant R.ops l ⟨some d, .call ⟨.builtin .append, #[a, b], #[t, tx]⟩, ty, ps, af, g⟩ = some true) (hd : Nat.blt d N = true) (hdone : Nat.lor done (2 ^ i) = done')
    (h : ∀ v' H1 D', GL H1 e sz v' (cs ++ new) D' → H.next ≤ H1.next → (∀ j, j ∉ D → j < H.next → H1.row j = H.row j) → (∀ j ∈ D', j ∈ D ∨ (H.next ≤ j ∧ j < H1.next)) → KD E R N ord ((d, v') :: l) H1 (H1 :: past) done' hs.tail Q) :
    KD E R N (i :: ord) l H past done hs Q := by
  obtain ⟨v', H1, D', p1, k1, k2, k3, k4⟩ := PX.appendG hL ha hb ht hz hsb htx hx hnl hcs hlim
  exact KD.px done' p1 ho rfl hk hw hd hdone (h v' H1 D' k1 k2 k3 k4)
/-- Append to a list of numbers without room behind it. -/
theorem PX.appendV {E : Env} {l : Kn} {H : AHeap} {t tx e ex n len : Nat} {z : List Value} {x : Value} {ad : Option Addr} {k : IntKind} {us : List Int} {new : List Value} {a b : Operand} (h : VL H k (.slice ad len len) us) (hex : exactBase ad = true) (ha : kval E.G l a = some (.slice ad len len)) (hb : kval E.G l b = some x) (ht : elemT E.P t = some e) (hz : elemZ E.P e = some (1, z)) (hsb : smallBytes E.P e = true) (htx : E.P.underlying tx = some (.slice ex)) (hx : newElems 1 x H = some (n, new)) (hnl : new.length = n) (hn0 : 0 < n)
    (hlim : len + n ≤ 1000000000) :
    ∃ v' H1, PX E l H (.call ⟨.builtin .append, #[a, b], #[t, tx]⟩) v' H1 ∧ Lst H1 e 1 v' (us.map (Value.int k) ++ new) [H.next] ∧ Frh H H1 ∧ H1.next = H.next + 1 := by
  have hl := h.len.1
  obtain ⟨v', H1, hp, hc⟩ := PX.appendF ha hb ht hz hsb htx hx (by omega) hex (ints_all (k := k) us) (by rw [List.length_map]; omega) h.cells hlim
  rcases hc with ⟨h0, -⟩ | ⟨-, h2, h3, h4⟩
  · omega
  · exact ⟨v', H1, hp, h2, h3, h4⟩
theorem KO.appendV {E : Env} {N : Nat} {ops rest : List Oper} {l : Kn} {H : AHeap} {Q : Kn → AHeap → Prop} {ty : TypeId} {ps : String} {af : Array Edge} {g : Option (Nat × Bool)} {d t tx e ex n len : Nat} {z : List Value} {a b : Operand} {x : Value} {ad : Option Addr} {k : IntKind} {us : List Int} {new : List Value} (ht : elemT E.P t = some e) (hz : elemZ E.P e = some (1, z)) (hsb : smallBytes E.P e = true) (htx : E.P.underlying tx = some (.slice ex))
    (ha : kval E.G l a = some (.slice ad len len)) (hb : kval E.G l b = some x) (hV : VL H k (.slice ad len len) us) (hex : exactBase ad = true) (hx : newElems 1 x H = some (n, new)) (hnl : new.length = n) (hn0 : 0 < n) (hlim : len + n ≤ 1000000000)
    (hw : kwant ops l ⟨some d, .call ⟨.builtin .append, #[a, b], #[t, tx]⟩, ty, ps, af, g⟩ = some true) (hd : Nat.blt d N = true)
    (h : ∀ v' H1, Lst H1 e 1 v' (us.map (Value.int k) ++ new) [H.next] → Frh H H1 → H1.next = H.next + 1 → KO E N ops rest ((d, v') :: l) H1 Q) :
    KO E N ops (⟨some d, .call ⟨.builtin .append, #[a, b], #[t, tx]⟩, ty, ps, af, g⟩ :: rest) l H Q := by
  obtain ⟨v', H1, p1, k1, k2, k3⟩ := PX.appendV hV hex ha hb ht hz hsb htx hx hnl hn0 hlim
  exact KO.px p1 hw hd (h v' H1 k1 k2 k3)
theorem KD.appendV {E : Env} {R : DR} {N : Nat} {ord : List Nat} {l : Kn} {H : AHeap} {past : List AHeap} {done : Nat} {hs : List Nat} {Q : Kn → AHeap → Nat → List Nat → Prop} {i : Nat} {ty : TypeId} {ps : String} {af : Array Edge} {g : Option (Nat × Bool)} {d t tx e ex n len : Nat} {z : List Value} {a b : Operand} {x : Value} {ad : Option Addr} {k : IntKind} {us : List Int} {new : List Value} (done' : Nat) (ht : elemT E.P t = some e) (hz : elemZ E.P e = some (1, z)) (hsb : smallBytes E.P e = true) (htx : E.P.underlying tx = some (.slice ex))
    (ha : kval E.G l a = some (.slice ad len len)) (hb : kval E.G l b = some x) (hV : VL H k (.slice ad len len) us) (hex : exactBase ad = true) (hx : newElems 1 x H = some (n, new)) (hnl : new.length = n) (hn0 : 0 < n) (hlim : len + n ≤ 1000000000)
    (ho : R.ops[i]? = some ⟨some d, .call ⟨.builtin .append, #[a, b], #[t, tx]⟩, ty, ps, af, g⟩) (hk : stepOk R i ⟨some d, .call ⟨.builtin .append, #[a, b], #[t, tx]⟩, ty, ps, af, g⟩ done hs = true) (hw : kwant R.ops l ⟨some d, .call ⟨.builtin .append, #[a, b], #[t, tx]⟩, ty, ps, af, g⟩ = some true) (hd : Nat.blt d N = true) (hdone : Nat.lor done (2 ^ i) = done')
    (h : ∀ v' H1, Lst H1 e 1 v' (us.map (Value.int k) ++ new) [H.next] → Frh H H1 → H1.next = H.next + 1 → KD E R N ord ((d, v') :: l) H1 (H1 :: past) done' hs.tail Q) :
    KD E R N (i :: ord) l H past done hs Q := by
  obtain ⟨v', H1, p1, k1, k2, k3⟩ := PX.appendV hV hex ha hb ht hz hsb htx hx hnl hn0 hlim
  exact KD.px done' p1 ho rfl hk hw hd hdone (h v' H1 k1 k2 k3)
theorem GL.ofLst {H : AHeap} {e sz : Nat} {v : Value} {cs : List Value} {D : List Nat} (h : Lst H e sz v cs D) : GL H e sz v cs D := .inr h
/-- A store of more than one cell in a drawn region. -/
theorem KD.storeN {E : Env} {R : DR} {N : Nat} {ord : List Nat} {l : Kn} {H : AHeap} {past : List AHeap} {done : Nat} {hs : List Nat} {Q : Kn → AHeap → Nat → List Nat → Prop} {i : Nat} {ty : TypeId} {ps : String} {af : Array Edge} {g : Option (Nat × Bool)} {T n : Nat} {a v : Operand} {b o : Nat} {u : Value} {r : Row} {vs : List Value} (done' : Nat) (hs1 : sizeT E.P T = some n) (ha : kval E.G l a = some (.pointer (some ⟨b, o, none⟩))) (hv : kval E.G l v = some u) (hg : goodCells u n = some vs) (hr : H.row b = some r) (hrw : r.rw = true) (hl : o + vs.length ≤ r.cs.length)
    (ho : R.ops[i]? = some ⟨none, .store T a v, ty, ps, af, g⟩) (hk : stepOk R i ⟨none, .store T a v, ty, ps, af, g⟩ done hs = true) (hw : kwant R.ops l ⟨none, .store T a v, ty, ps, af, g⟩ = some true) (hdone : Nat.lor done (2 ^ i) = done')
    (h : ∀ H1, Upd H H1 b ⟨r.elem, r.whole, true, putL r.cs o vs⟩ → KD E R N ord l H1 (H1 :: past) done' hs.tail Q) : KD E R N (i :: ord) l H past done hs Q := by
  obtain ⟨H1, u1, p1⟩ := PX.store ha hv hs1 hg hr hrw hl
  exact KD.pn done' p1 ho rfl hk hw hdone (h H1 u1)
theorem past2 {A B : AHeap} {k : Nat} {Q : AHeap → Prop} (h1 : Q A) (h2 : Q B) : ∀ Hp ∈ [A, B].take k, Q Hp := fun Hp hm => by
  have := List.mem_of_mem_take hm
  simp only [List.mem_cons, List.not_mem_nil, or_false] at this
  rcases this with rfl | rfl
  · exact h1
  · exact h2
theorem past3 {A B C : AHeap} {k : Nat} {Q : AHeap → Prop} (h1 : Q A) (h2 : Q B) (h3 : Q C) : ∀ Hp ∈ [A, B, C].take k, Q Hp := fun Hp hm => by
  have := List.mem_of_mem_take hm
  simp only [List.mem_cons, List.not_mem_nil, or_false] at this
  rcases this with rfl | rfl | rfl
  · exact h1
  · exact h2
  · exact h3
/-- What is new stays new behind changes of what is new. -/
theorem Frh.keep {H A B : AHeap} (h : Frh H A) (h1 : A.next ≤ B.next) (h2 : ∀ j, j < A.next → B.row j = A.row j) : Frh H B := h.trans ⟨h1, h2⟩
theorem wrapU64 {a : Int} (h1 : 0 ≤ a) (h2 : a < 18446744073709551616) : IntKind.u64.wrap a = a := by
  simp [IntKind.wrap, IntKind.bits, IntKind.signed]; omega
theorem exact_spot {a : Option Addr} {sz : Nat} (h : exactBase a = true) : ∀ x, a = some x → spotIs sz x = true := by
  intro x hx
  subst hx
  obtain ⟨b, o, sp⟩ := x
  cases sp with
  | none => rfl
  | some y => cases h
end Go.Eng

/- Rows of small numbers that are changed in place. -/
namespace Go.Eng
open Go
def IL (H : AHeap) (b n : Nat) : Prop := ∃ r, H.row b = some r ∧ r.rw = true ∧ ∀ i, i < n → ∃ u : Int, r.cs[0 + i * 1]? = some (.int .i64 u) ∧ 1 ≤ u ∧ u ≤ 4000
theorem IL.frame {H H' : AHeap} {b n : Nat} (h : IL H b n) (e : H'.row b = H.row b) : IL H' b n := by
  obtain ⟨r, h1, h2, h3⟩ := h
  exact ⟨r, e.trans h1, h2, h3⟩
theorem IL.less {H : AHeap} {b n m : Nat} (h : IL H b n) (hm : m ≤ n) : IL H b m := by
  obtain ⟨r, h1, h2, h3⟩ := h
  exact ⟨r, h1, h2, fun i hi => h3 i (by omega)⟩
theorem IL.put {H H' : AHeap} {b n i : Nat} {r : Row} {u : Int} (hc : ∀ i, i < n → ∃ u : Int, r.cs[0 + i * 1]? = some (.int .i64 u) ∧ 1 ≤ u ∧ u ≤ 4000) (hu : Upd H H' b ⟨r.elem, r.whole, true, putL r.cs (0 + i * 1) [.int .i64 u]⟩) (hi : i < n) (h1 : 1 ≤ u) (h2 : u ≤ 4000) : IL H' b n := by
  refine ⟨_, by rw [hu.row, if_pos rfl], rfl, fun j hj => ?_⟩
  obtain ⟨w, hw, -⟩ := hc i hi
  show ∃ u' : Int, (putL r.cs (0 + i * 1) [.int .i64 u])[0 + j * 1]? = _ ∧ _
  rw [putL1 (lt_of_get hw)]
  by_cases e : j = i
  · subst e
    exact ⟨u, by rw [if_pos rfl], h1, h2⟩
  · rw [if_neg (by omega)]
    exact hc j hj
theorem IL.ol {H : AHeap} {b n c : Nat} {sp : Option Nat} (h : IL H b n) (hc : n ≤ c) (hn : n ≤ 900000000) : ∃ us, OL H .i64 (.slice (some ⟨b, 0, sp⟩) n c) us [b] ∧ us.length = n := by
  obtain ⟨r, h1, h2, h3⟩ := h
  have hus : ∃ us : List Int, us.length = n ∧ ∀ i, i < n → ∃ u : Int, us[i]? = some u ∧ r.cs[0 + i * 1]? = some (.int .i64 u) ∧ IntKind.i64.wrap u = u := by
    clear hc hn
    induction n with
    | zero => exact ⟨[], rfl, fun i hi => by omega⟩
    | succ n ih =>
      obtain ⟨us, hu1, hu2⟩ := ih (fun i hi => h3 i (by omega))
      obtain ⟨u, hu, hp, hq⟩ := h3 n (by omega)
      refine ⟨us ++ [u], by simp [hu1], fun i hi => ?_⟩
      by_cases hin : i < n
      · obtain ⟨w, hw1, hw2⟩ := hu2 i hin
        exact ⟨w, by rw [List.getElem?_append_left (by omega)]; exact hw1, hw2⟩
      · have : i = n := by omega
        subst this
        exact ⟨u, by rw [List.getElem?_append_right (by omega), hu1, Nat.sub_self]; rfl, hu, wrap64 (by omega) (by omega)⟩
  obtain ⟨us, hu1, hu2⟩ := hus
  refine ⟨us, ⟨_, n, c, rfl, hc, hn, hu1, fun u hu => ?_, .inr ⟨b, 0, sp, r, rfl, rfl, h1, h2, fun i hi => ?_⟩⟩, hu1⟩
  · obtain ⟨i, hi, rfl⟩ := List.mem_iff_getElem.1 hu
    obtain ⟨w, hw1, -, hw3⟩ := hu2 i (by omega)
    rw [List.getElem?_eq_getElem hi] at hw1
    cases hw1; exact hw3
  · obtain ⟨w, hw1, hw2, -⟩ := hu2 i hi
    rw [Nat.mul_one] at hw2
    rw [hw1, hw2]; rfl
/-- A list that grew and is not empty. -/
theorem GL.ne {H : AHeap} {e : Nat} {v : Value} {cs : List Value} {D : List Nat} (h : GL H e 1 v cs D) (hc : cs ≠ []) : ∃ b, v = .slice (some ⟨b, 0, some 1⟩) cs.length cs.length ∧ H.row b = some ⟨e, false, true, cs⟩ ∧ D = [b] := by
  rcases h with ⟨a, -, -, h, -⟩ | ⟨-, h, -⟩ | ⟨b, n, rfl, h2, h3, rfl⟩
  · exact absurd h hc
  · exact absurd h hc
  · rw [Nat.mul_one] at h3
    subst h3
    exact ⟨b, rfl, h2, rfl⟩
theorem IL.of {H : AHeap} {b e : Nat} {wh : Bool} {us : List Int} (hr : H.row b = some ⟨e, wh, true, us.map (Value.int .i64)⟩) (h : ∀ u ∈ us, 1 ≤ u ∧ u ≤ 4000) : IL H b us.length := by
  refine ⟨_, hr, rfl, fun i hi => ⟨us[i], ?_, h _ (List.getElem_mem _)⟩⟩
  show (us.map (Value.int .i64))[0 + i * 1]? = _
  rw [Nat.zero_add, Nat.mul_one, List.getElem?_map, List.getElem?_eq_getElem hi]
  rfl
/-- Results: a list of one's own behind a variable. -/
theorem OL.own {A G : AHeap} {k : IntKind} {v : Value} {us : List Int} {D : List Nat} {ba e : Nat} (h : OL A k v us D) (hst : ∀ j ∈ D, G.row j = A.row j) (hb : G.row ba = some ⟨e, true, true, [v]⟩) (h1 : ba ∉ D) (h2 : ba < G.next) (h3 : ∀ j ∈ D, j < G.next) : ∃ ns, Own G ⟨false, true, false⟩ (.list 1 (.num k)) ba ns [] D ∧ ns.length ≤ 1000000000 := by
  have hnd : D.Nodup := by
    obtain ⟨_, _, _, _, _, _, _, _, h⟩ := h
    rcases h with ⟨-, rfl⟩ | ⟨_, _, _, _, _, rfl, _⟩ <;> simp
  have hl : us.length ≤ 900000000 := by
    obtain ⟨_, _, _, _, _, h, h', _⟩ := h
    omega
  obtain ⟨ns, hr, hn⟩ := (h.frame hst).rd (cs := [v]) (o := 0) rfl
  exact ⟨ns, ⟨⟨_, hb, rfl, hr⟩, hnd, h1, h2, h3⟩, by omega⟩
theorem OL.one {H : AHeap} {k : IntKind} {v : Value} {us : List Int} {D : List Nat} (h : OL H k v us D) : goodCells v 1 = some [v] := by
  obtain ⟨a, len, cap, rfl, -⟩ := h
  rfl
end Go.Eng
