/- Rules for functions that see, own and look, and for the reading of the arguments. Conditions: none beyond each theorem's own. -/
import Derived.Test.YtphehedgnhmahaaGreatDoorKnA
import Derived.Deep.Slices
/- More rules: strings, the least of two; grown lists by their length. -/
namespace Go.Eng
open Go
section
variable {E : Env} {l : Kn} {H : AHeap}
theorem PV.lenS {x : Operand} {t : TypeId} {s : ByteArray} (ht : E.P.underlying t = some .string) (hx : kval E.G l x = some (.string s)) : PV E l (.call ⟨.builtin .len, #[x], #[t]⟩) (.int .i64 ((bytesL s).length : Int)) := by
  intro F N hF cc yy H
  have hx' : avals E.G F [x] = some [.string s] := by simp only [avals, kval_ok hF hx, Option.bind_some, Option.map_some]
  show callOpA E cc yy F _ H = _
  simp only [callOpA, hx', Option.bind_some, calleeA, builtinA]
  show (bif true then keepH H (lenA E.P t (.string s) H) else none) = _
  simp only [cond_true, lenA, ht, Option.bind_some, lenD, dString, vStr, Option.map_some, keepH, goI]
  rfl
theorem PV.min {x y : Operand} {ts : Array TypeId} {k : IntKind} {a b : Int} (hx : kval E.G l x = some (.int k a)) (hy : kval E.G l y = some (.int k b)) : PV E l (.call ⟨.builtin .min, #[x, y], ts⟩) (.int k (if b < a then b else a)) := by
  intro F N hF cc yy H
  have hx' : avals E.G F [x, y] = some [.int k a, .int k b] := by simp only [avals, kval_ok hF hx, kval_ok hF hy, Option.bind_some, Option.map_some]
  show callOpA E cc yy F _ H = _
  simp only [callOpA, hx', Option.bind_some, calleeA, builtinA]
  show keepH H (minI (k, a) (k, b)) = _
  simp only [minI, ikBeq_self, cond_true, keepH, Option.map_some]
theorem PV.max {x y : Operand} {ts : Array TypeId} {k : IntKind} {a b : Int} (hx : kval E.G l x = some (.int k a)) (hy : kval E.G l y = some (.int k b)) : PV E l (.call ⟨.builtin .max, #[x, y], ts⟩) (.int k (if a < b then b else a)) := by
  intro F N hF cc yy H
  have hx' : avals E.G F [x, y] = some [.int k a, .int k b] := by simp only [avals, kval_ok hF hx, kval_ok hF hy, Option.bind_some, Option.map_some]
  show callOpA E cc yy F _ H = _
  simp only [callOpA, hx', Option.bind_some, calleeA, builtinA]
  show keepH H (maxI (k, a) (k, b)) = _
  simp only [maxI, ikBeq_self, cond_true, keepH, Option.map_some]
theorem PV.sneq {t u : TypeId} {x y : Operand} {a b : ByteArray} (hx : kval E.G l x = some (.string a)) (hy : kval E.G l y = some (.string b)) : PV E l (.binOp .neq t x y u) (.bool (!(streq a b))) := by
  intro F N hF c yy H
  simp only [opA, opBin, kval_ok hF hx, kval_ok hF hy, keepH, Option.bind_some, binA, vInt, vStr, binStr, isAdd, isEql, cond_false, Option.map_some, sameB]
theorem streq_self (a : ByteArray) : streq a a = true := streq_iff.2 rfl
theorem veq_str {s : ByteArray} : veq 100 (.string s) (.string s) = true := by simp [veq, vStr, streq_self]
end
/-- A grown list is a slice of its length. -/
theorem Lst.sl {H : AHeap} {e : Nat} {v : Value} {cs : List Value} {D : List Nat} (h : Lst H e 1 v cs D) : ∃ a, v = .slice a cs.length cs.length ∧ (0 < cs.length → ∃ b, a = some ⟨b, 0, some 1⟩ ∧ H.row b = some ⟨e, false, true, cs⟩ ∧ D = [b]) := by
  rcases h with ⟨rfl, rfl, rfl⟩ | ⟨b, n, rfl, hr, hn, rfl⟩
  · exact ⟨none, rfl, fun h => absurd h (Nat.lt_irrefl _)⟩
  · rw [Nat.mul_one] at hn
    exact ⟨some ⟨b, 0, some 1⟩, by rw [hn], fun _ => ⟨b, rfl, hr, rfl⟩⟩
theorem Lst.lt {H : AHeap} {e sz : Nat} {v : Value} {cs : List Value} {D : List Nat} (_h : Lst H e sz v cs D) (n : Nat) (hn : ∀ j ∈ D, j < n) : ∀ b ∈ D, b < n := hn
end Go.Eng

/- Seeing without and with a mark; results; what was told. -/
namespace Go.Eng
open Go

theorem Eye.ofCells {tI tS : Nat} {H : AHeap} {be oe : Nat} {r : Row} {m rm : Bool} {a : Int} (hr : H.row be = some r) (hw : r.rw = true) (h0 : r.cs[oe]? = some (.slice none 0 0)) (h1 : r.cs[oe + 1]? = some (.slice none 0 0)) (h2 : r.cs[oe + 2]? = some (.bool m)) (h3 : r.cs[oe + 3]? = some (.int .i64 a)) (h4 : r.cs[oe + 4]? = some (.bool rm)) (hb : be < H.next) :
    Eye tI tS H be oe [] [] m rm a r [] [] :=
  ⟨hr, hw, ⟨_, h0, .nil⟩, ⟨_, h1, .nil⟩, h2, h3, h4, List.not_mem_nil, List.not_mem_nil, fun _ h => absurd h List.not_mem_nil, hb, fun _ h => absurd h List.not_mem_nil, fun _ h => absurd h List.not_mem_nil⟩

/-- A datum of its own. -/
structure Own (H : AHeap) (room : Md) (s : Sh) (bx : Nat) (ns : List Int) (ss : List ByteArray) (D : List Nat) : Prop where
  ex : ∃ r, H.row bx = some r ∧ r.rw = true ∧ Rd H room s r.cs 0 ns ss D
  nd : D.Nodup
  nb : bx ∉ D
  lb : bx < H.next
  lD : ∀ j ∈ D, j < H.next
theorem Own.frame {H H' : AHeap} {room : Md} {s : Sh} {bx : Nat} {ns : List Int} {ss : List ByteArray} {D : List Nat} (h : Own H room s bx ns ss D) (hn : H.next ≤ H'.next) (hr : ∀ j, j = bx ∨ j ∈ D → H'.row j = H.row j) : Own H' room s bx ns ss D := by
  obtain ⟨r, h1, h2, h3⟩ := h.ex
  exact ⟨⟨r, by rw [hr bx (.inl rfl)]; exact h1, h2, h3.frame fun j hj => hr j (.inr hj)⟩, h.nd, h.nb, Nat.lt_of_lt_of_le h.lb hn, fun j hj => Nat.lt_of_lt_of_le (h.lD j hj) hn⟩

/-- What an eye saw, as a value in cells. -/
def EyeV (tI tS : Nat) (H : AHeap) (lo hi : Nat) (cs : List Value) (o : Nat) (ns : List Int) (ss : List ByteArray) : Prop :=
  ∃ nv sv mk a rm Fn Fs, cs[o]? = some nv ∧ cs[o + 1]? = some sv ∧ cs[o + 2]? = some (.bool mk) ∧ cs[o + 3]? = some (.int .i64 a) ∧ cs[o + 4]? = some (.bool rm) ∧ Lst H tI 1 nv (ns.map (Value.int .i64)) Fn ∧ Lst H tS 1 sv (ss.map Value.string) Fs ∧ (∀ j ∈ Fn, lo ≤ j ∧ j < hi) ∧ ∀ j ∈ Fs, lo ≤ j ∧ j < hi
theorem EyeV.frame {tI tS : Nat} {H H' : AHeap} {lo hi hi' : Nat} {cs cs' : List Value} {o : Nat} {ns : List Int} {ss : List ByteArray} (h : EyeV tI tS H lo hi cs o ns ss) (hh : hi ≤ hi') (hr : ∀ j, lo ≤ j → j < hi → H'.row j = H.row j) (hc : ∀ k, k < 5 → cs'[o + k]? = cs[o + k]?) : EyeV tI tS H' lo hi' cs' o ns ss := by
  obtain ⟨nv, sv, mk, a, rm, Fn, Fs, h0, h1, h2, h3, h4, h5, h6, h7, h8⟩ := h
  exact ⟨nv, sv, mk, a, rm, Fn, Fs, (hc 0 (by omega)).trans h0, (hc 1 (by omega)).trans h1, (hc 2 (by omega)).trans h2, (hc 3 (by omega)).trans h3, (hc 4 (by omega)).trans h4, h5.frame fun j hj => hr j (h7 j hj).1 (h7 j hj).2, h6.frame fun j hj => hr j (h8 j hj).1 (h8 j hj).2, fun j hj => ⟨(h7 j hj).1, Nat.lt_of_lt_of_le (h7 j hj).2 hh⟩, fun j hj => ⟨(h8 j hj).1, Nat.lt_of_lt_of_le (h8 j hj).2 hh⟩⟩
theorem EyeV.weak {tI tS : Nat} {H : AHeap} {lo lo' hi hi' : Nat} {cs : List Value} {o : Nat} {ns : List Int} {ss : List ByteArray} (h : EyeV tI tS H lo hi cs o ns ss) (h1 : lo' ≤ lo) (h2 : hi ≤ hi') : EyeV tI tS H lo' hi' cs o ns ss := by
  obtain ⟨nv, sv, mk, a, rm, Fn, Fs, k0, k1, k2, k3, k4, k5, k6, h7, h8⟩ := h
  exact ⟨nv, sv, mk, a, rm, Fn, Fs, k0, k1, k2, k3, k4, k5, k6, fun j hj => ⟨Nat.le_trans h1 (h7 j hj).1, Nat.lt_of_lt_of_le (h7 j hj).2 h2⟩, fun j hj => ⟨Nat.le_trans h1 (h8 j hj).1, Nat.lt_of_lt_of_le (h8 j hj).2 h2⟩⟩
theorem zerosFor_get {z : List Value} : ∀ {n k c : Nat}, k < n → c < z.length → (zerosFor z n)[k * z.length + c]? = z[c]?
  | 0, k, c, h, _ => absurd h (Nat.not_lt_zero _)
  | n + 1, 0, c, _, hc => by simp only [zerosFor, Nat.zero_mul, Nat.zero_add]; rw [List.getElem?_append_left hc]
  | n + 1, k + 1, c, h, hc => by
    simp only [zerosFor]
    have e : (k + 1) * z.length + c = z.length + (k * z.length + c) := by rw [Nat.add_mul]; omega
    rw [e, List.getElem?_append_right (by omega), Nat.add_sub_cancel_left]
    exact zerosFor_get (Nat.lt_of_succ_lt_succ h) hc
theorem EyeV.take {tI tS : Nat} {H : AHeap} {lo hi : Nat} {cs : List Value} {o : Nat} {ns : List Int} {ss : List ByteArray} (h : EyeV tI tS H lo hi cs o ns ss) : ∃ nv sv mk a rm Fn Fs, takeN 5 (cs.drop o) = some [nv, sv, .bool mk, .int .i64 a, .bool rm] ∧ Lst H tI 1 nv (ns.map (Value.int .i64)) Fn ∧ Lst H tS 1 sv (ss.map Value.string) Fs ∧ (∀ j ∈ Fn, lo ≤ j ∧ j < hi) ∧ ∀ j ∈ Fs, lo ≤ j ∧ j < hi := by
  obtain ⟨nv, sv, mk, a, rm, Fn, Fs, h0, h1, h2, h3, h4, h5⟩ := h
  refine ⟨nv, sv, mk, a, rm, Fn, Fs, takeN_of ?_ rfl, h5⟩
  have hl := lt_of_get h4
  apply List.ext_getElem?
  intro i
  rw [List.getElem?_take]
  by_cases hi : i < 5
  · rw [if_pos hi, List.getElem?_drop]
    match i, hi with
    | 0, _ => exact h0
    | 1, _ => exact h1
    | 2, _ => exact h2
    | 3, _ => exact h3
    | 4, _ => exact h4
  · rw [if_neg hi]
    rw [List.getElem?_eq_none]
    simp only [List.length_cons, List.length_nil]; omega
theorem Eye.toV {tI tS : Nat} {H : AHeap} {be oe : Nat} {ns : List Int} {ss : List ByteArray} {m rm : Bool} {a : Int} {r : Row} {Fn Fs : List Nat} {lo hi : Nat} (h : Eye tI tS H be oe ns ss m rm a r Fn Fs) (h1 : ∀ j ∈ Fn, lo ≤ j) (h2 : ∀ j ∈ Fs, lo ≤ j) (hh : H.next ≤ hi) : EyeV tI tS H lo hi r.cs oe ns ss := by
  obtain ⟨nv, k1, k2⟩ := h.n
  obtain ⟨sv, k3, k4⟩ := h.s
  exact ⟨nv, sv, m, a, rm, Fn, Fs, k1, k3, h.mark, h.at_, h.room, k2, k4, fun j hj => ⟨h1 j hj, Nat.lt_of_lt_of_le (h.ltn j hj) hh⟩, fun j hj => ⟨h2 j hj, Nat.lt_of_lt_of_le (h.lts j hj) hh⟩⟩

section
variable {E : Env} {tI tS : Nat} {s : Sh} {H : AHeap} {be oe : Nat} {room : Md} {rm : Bool} {a : Int} {re : Row} {bx : Nat} {ns : List Int} {ss : List ByteArray} {D : List Nat} {f : FuncId}
/-- A fresh eye sees; all stays. -/
theorem SeeOK.read (hf : SeeOK E tI tS f s) (he : Eye tI tS H be oe [] [] false room.r a re [] []) {r : Row} (hx : H.row bx = some r) (hw : room.w = true → Wm room r) (hwm : s.bools = true → room.w = true) (hR : Rd H room s r.cs 0 ns ss D) (hb : bx < H.next) (hD : ∀ j ∈ D, j < H.next) (h1 : bx ≠ be) (h2 : be ∉ D) (l1 : ns.length ≤ 1000000000) (l2 : ss.length ≤ 1000000000) :
    WF E f [.pointer (some ⟨be, oe, none⟩), .pointer (some ⟨bx, 0, none⟩)] H fun q => ∃ a' re' Fn Fs, Eye tI tS q.2 be oe ns ss false room.r a' re' Fn Fs ∧ (∀ j ∈ Fn, H.next ≤ j) ∧ (∀ j ∈ Fs, H.next ≤ j) ∧ EyeRow oe re re' ∧ H.next ≤ q.2.next ∧ ∀ j, j < H.next → j ≠ be → q.2.row j = H.row j := by
  refine (hf H be oe [] [] false room a re [] [] bx 0 r ns ss D he hx hw (fun h => hwm (h.resolve_left (by simp))) (fun h => by cases h) hR hb hD h1 List.not_mem_nil List.not_mem_nil h2 (fun _ _ => List.not_mem_nil) (fun _ _ => List.not_mem_nil) (fun h => by cases h) (by simpa using l1) (by simpa using l2)).mono ?_
  rintro ⟨v, G⟩ ⟨⟨nA, sA, atA, reA, FnA, FsA, csA, heA, hxA, hRA, hlA, hcA, hnA, hsA, hmA, hre1, hre2, hre3, hre4, hFnA, hFsA⟩, hnxA, hkA⟩
  obtain ⟨rfl, rfl, rfl, hDs⟩ := hmA rfl
  refine ⟨atA, reA, FnA, FsA, heA, fun j hj => (hFnA j hj).resolve_left List.not_mem_nil, fun j hj => (hFsA j hj).resolve_left List.not_mem_nil, ⟨hre1, hre2, hre3, hre4⟩, hnxA, fun j j0 j1 => ?_⟩
  by_cases hjD : j ∈ D
  · exact hDs j hjD
  · by_cases hjx : j = bx
    · rw [hjx]; show G.row bx = _; rw [hxA, hx]
    · exact hkA j j0 j1 List.not_mem_nil List.not_mem_nil hjx hjD
/-- A fresh eye marks; the datum stays readable, all else stays. -/
theorem SeeOK.marks (hf : SeeOK E tI tS f s) (he : Eye tI tS H be oe [] [] true room.r a re [] []) (hrm : room.w = true) (hkm : room.k = false) (hx : Own H room s bx ns ss D) (h1 : bx ≠ be) (h2 : be ∉ D) (l1 : ns.length ≤ 1000000000) (l2 : ss.length ≤ 1000000000) :
    WF E f [.pointer (some ⟨be, oe, none⟩), .pointer (some ⟨bx, 0, none⟩)] H fun q => ∃ ns' ss', Own q.2 room s bx ns' ss' D ∧ ns'.length = ns.length ∧ ss'.length = ss.length ∧ H.next ≤ q.2.next ∧ ∀ j, j < H.next → j ≠ be → j ≠ bx → j ∉ D → q.2.row j = H.row j := by
  obtain ⟨r, hxr, hw, hR⟩ := hx.ex
  refine (hf H be oe [] [] true room a re [] [] bx 0 r ns ss D he hxr (fun _ => .inl hw) (fun _ => hrm) (fun _ => hkm) hR hx.lb hx.lD h1 List.not_mem_nil List.not_mem_nil h2 (fun _ _ => List.not_mem_nil) (fun _ _ => List.not_mem_nil) (fun _ => ⟨hx.nd, hx.nb⟩) (by simpa using l1) (by simpa using l2)).mono ?_
  rintro ⟨v, G⟩ ⟨⟨nA, sA, atA, reA, FnA, FsA, csA, heA, hxA, hRA, hlA, hcA, hnA, hsA, hmA, hre1, hre2, hre3, hre4, hFnA, hFsA⟩, hnxA, hkA⟩
  exact ⟨nA, sA, ⟨⟨_, hxA, hw, hRA⟩, hx.nd, hx.nb, Nat.lt_of_lt_of_le hx.lb hnxA, fun j hj => Nat.lt_of_lt_of_le (hx.lD j hj) hnxA⟩, hnA, hsA, hnxA, fun j j0 j1 j2 j3 => hkA j j0 j1 List.not_mem_nil List.not_mem_nil j2 j3⟩
end

theorem Lst.veqn {H : AHeap} {e sz n : Nat} {v : Value} {cs : List Value} {D : List Nat} (h : Lst H e sz v cs D) : Go.Eng.veq (n + 1) v v = true := by
  rcases h with ⟨rfl, -⟩ | ⟨b, m, rfl, -⟩ <;> simp [Go.Eng.veq, vSl, optAddrBeq, addrBeq_self]
theorem veq_eye {nv sv : Value} {mk rm : Bool} {a : Int} (h1 : veq 99 nv nv = true) (h2 : veq 99 sv sv = true) : veq 100 (.agg [nv, sv, .bool mk, .int .i64 a, .bool rm].toArray) (.agg [nv, sv, .bool mk, .int .i64 a, .bool rm].toArray) = true := by
  simp only [veq, vAgg, veq.veqs, h1, h2, vBool, vInt, ikBeq_self, beq_self_eq_true, Bool.and_self]
/-- One result: a closure over its own datum. -/
structure Res1 (E : Env) (tI tS : Nat) (H : AHeap) (v : Value) (ns : List Int) (ss : List ByteArray) (D : List Nat) : Prop where
  ex : ∃ f s ba D', v = .func (.func f) #[] #[.pointer (some ⟨ba, 0, none⟩)] ∧ E.ext f = none ∧ SeeOK E tI tS f s ∧ Own H ⟨false, true, false⟩ s ba ns ss D' ∧ D = ba :: D'
  l1 : ns.length ≤ 1000000000
  l2 : ss.length ≤ 1000000000
theorem Res1.frame {E : Env} {tI tS : Nat} {H H' : AHeap} {v : Value} {ns : List Int} {ss : List ByteArray} {D : List Nat} (h : Res1 E tI tS H v ns ss D) (hn : H.next ≤ H'.next) (hr : ∀ j ∈ D, H'.row j = H.row j) : Res1 E tI tS H' v ns ss D := by
  obtain ⟨f, s, ba, D', k1, k2, k3, k4, rfl⟩ := h.ex
  exact ⟨⟨f, s, ba, D', k1, k2, k3, k4.frame hn fun j hj => hr j (by rcases hj with rfl | hj; exact List.mem_cons_self; exact List.mem_cons_of_mem _ hj), rfl⟩, h.l1, h.l2⟩

/-- One of several results. -/
structure R1 where
  v : Value
  ns : List Int
  ss : List ByteArray
  D : List Nat
/-- Several results, each in memory of its own between two numbers. -/
structure ResAll (E : Env) (tI tS : Nat) (H : AHeap) (lo hi : Nat) (L : List R1) : Prop where
  one : ∀ r ∈ L, Res1 E tI tS H r.v r.ns r.ss r.D
  rng : ∀ r ∈ L, ∀ j ∈ r.D, lo ≤ j ∧ j < hi
  dis : ∀ (i k : Nat), i ≠ k → ∀ (r q : R1), L[i]? = some r → L[k]? = some q → ∀ j ∈ r.D, j ∉ q.D
  few : L.length ≤ 100
/-- The list of the closures. -/
def ResV (H : AHeap) (tF : Nat) (v : Value) (L : List R1) (lo hi : Nat) : Prop :=
  (v = .slice none 0 0 ∧ L = []) ∨ ∃ b, v = .slice (some ⟨b, 0, none⟩) L.length L.length ∧ H.row b = some ⟨tF, true, true, L.map (·.v)⟩ ∧ lo ≤ b ∧ b < hi ∧ ∀ r ∈ L, b ∉ r.D
theorem ResV.frame {H H' : AHeap} {tF : Nat} {v : Value} {L : List R1} {lo hi : Nat} (h : ResV H tF v L lo hi) (hr : ∀ j, lo ≤ j → j < hi → (∀ r ∈ L, j ∉ r.D) → H'.row j = H.row j) : ResV H' tF v L lo hi := by
  rcases h with h | ⟨b, h1, h2, h3, h4, h5⟩
  · exact .inl h
  · exact .inr ⟨b, h1, by rw [hr b h3 h4 h5]; exact h2, h3, h4, h5⟩
theorem ResAll.frame {E : Env} {tI tS : Nat} {H H' : AHeap} {lo hi : Nat} {L : List R1} (h : ResAll E tI tS H lo hi L) (hn : H.next ≤ H'.next) (hr : ∀ j, lo ≤ j → j < hi → H'.row j = H.row j) : ResAll E tI tS H' lo hi L :=
  ⟨fun r hR => (h.one r hR).frame hn fun j hj => hr j (h.rng r hR j hj).1 (h.rng r hR j hj).2, h.rng, h.dis, h.few⟩

/-- What was told of the results: a row of eyes. -/
structure Told (tI tS tE : Nat) (H : AHeap) (lo : Nat) (v : Value) (L : List R1) (b : Nat) : Prop where
  hv : v = .slice (some ⟨b, 0, none⟩) L.length L.length
  hlo : lo ≤ b
  hhi : b < H.next
  ex : ∃ cs, H.row b = some ⟨tE, true, true, cs⟩ ∧ ∀ i r, L[i]? = some r → EyeV tI tS H lo H.next cs (i * 5) r.ns r.ss
theorem Told.frame {tI tS tE : Nat} {H H' : AHeap} {lo : Nat} {v : Value} {L : List R1} {b : Nat} (h : Told tI tS tE H lo v L b) (hn : H.next ≤ H'.next) (hr : ∀ j, lo ≤ j → j < H.next → H'.row j = H.row j) : Told tI tS tE H' lo v L b := by
  obtain ⟨cs, h1, h2⟩ := h.ex
  exact ⟨h.hv, h.hlo, Nat.lt_of_lt_of_le h.hhi hn, cs, by rw [hr b h.hlo h.hhi]; exact h1, fun i r hi => (h2 i r hi).frame hn hr (fun _ _ => rfl)⟩
end Go.Eng

/- Copies of one's own. -/
namespace Go.Eng
open Go

theorem app_in {P : Program} {H : AHeap} {t tx e ex sz b c n : Nat} {z : List Value} {x : Value} {new : List Value} {r : Row} (ht : elemT P t = some e) (hz : elemZ P e = some (sz, z)) (hsb : smallBytes P e = true) (htx : P.underlying tx = some (.slice ex)) (hr : H.row b = some r) (hrw : r.rw = true)
    (hx : newElems sz x H = some (n, new)) (hnl : new.length = n * sz) (hn : n ≤ c) (hl : new.length ≤ r.cs.length) (hc : c ≤ 1000000000) :
    ∃ H1, appendA P [t, tx] [.slice (some ⟨b, 0, none⟩) 0 c, x] H = some (.slice (some ⟨b, 0, none⟩) n c, H1) ∧ Upd H H1 b ⟨r.elem, r.whole, true, putL r.cs 0 new⟩ := by
  have hq : newCellsA P tx (sz, z) x H = some (n, new) := by
    simp only [newCellsA, htx, Option.bind_some, dInt, dString, dSlice, isNone, Bool.not_false, Bool.false_or, cond_true, hx]
  have h1 : n ≤ 1000000000 := by omega
  have start : appendA P [t, tx] [.slice (some ⟨b, 0, none⟩) 0 c, x] H = appIn H sz ⟨some ⟨b, 0, none⟩, 0, c⟩ n new := by
    show (bif true then (elemT P t).bind fun e => (vSl _).bind fun s => appendE P e tx s x H else none) = _
    simp only [cond_true, ht, Option.bind_some, vSl, appendE, hz, hq, hsb, Nat.zero_add, ble_nat.2 h1, ble_nat.2 hn, Bool.and_self]
  rw [start]
  by_cases h0 : n = 0
  · subst h0
    have : new = [] := List.length_eq_zero_iff.1 (by rw [hnl]; simp)
    subst this
    refine ⟨H, by simp [appIn], rfl, fun j => ?_⟩
    split
    · rename_i hj; subst hj
      rw [hr]; cases r; simp_all [putL]
    · rfl
  · have hb : Nat.beq n 0 = false := by
      cases hh : Nat.beq n 0 with
      | false => rfl
      | true => exact absurd (Nat.eq_of_beq_eq_true hh) h0
    refine ⟨_, ?_, Upd.set⟩
    simp only [appIn, hb, cond_false, Nat.zero_mul, Nat.add_zero, Nat.zero_add]
    rw [writeA_row hr hrw (by omega)]; rfl
theorem PX.appendIn {E : Env} {l : Kn} {H : AHeap} {t tx e ex sz b c n : Nat} {z : List Value} {x : Value} {new : List Value} {r : Row} {p q : Operand} (ht : elemT E.P t = some e) (hz : elemZ E.P e = some (sz, z)) (hsb : smallBytes E.P e = true) (htx : E.P.underlying tx = some (.slice ex)) (ha : kval E.G l p = some (.slice (some ⟨b, 0, none⟩) 0 c)) (hb : kval E.G l q = some x) (hr : H.row b = some r) (hrw : r.rw = true)
    (hx : newElems sz x H = some (n, new)) (hnl : new.length = n * sz) (hn : n ≤ c) (hl : new.length ≤ r.cs.length) (hc : c ≤ 1000000000) :
    ∃ H1, Upd H H1 b ⟨r.elem, r.whole, true, putL r.cs 0 new⟩ ∧ PX E l H (.call ⟨.builtin .append, #[p, q], #[t, tx]⟩) (.slice (some ⟨b, 0, none⟩) n c) H1 := by
  obtain ⟨H1, h1, h2⟩ := app_in ht hz hsb htx hr hrw hx hnl hn hl hc
  refine ⟨H1, h2, ?_⟩
  intro F N hF cc yy
  have hx' : avals E.G F [p, q] = some [.slice (some ⟨b, 0, none⟩) 0 c, x] := by simp only [avals, kval_ok hF ha, kval_ok hF hb, Option.bind_some, Option.map_some]
  show callOpA E cc yy F _ H = _
  simp only [callOpA, hx', Option.bind_some, calleeA, builtinA, h1]
theorem KO.appendIn {E : Env} {N : Nat} {ops rest : List Oper} {l : Kn} {H : AHeap} {Q : Kn → AHeap → Prop} {ty : TypeId} {ps : String} {af : Array Edge} {g : Option (Nat × Bool)} {d : Nat} {t tx e ex sz b c n : Nat} {z : List Value} {x : Value} {new : List Value} {r : Row} {p q : Operand} (ht : elemT E.P t = some e) (hz : elemZ E.P e = some (sz, z)) (hsb : smallBytes E.P e = true) (htx : E.P.underlying tx = some (.slice ex)) (ha : kval E.G l p = some (.slice (some ⟨b, 0, none⟩) 0 c)) (hb : kval E.G l q = some x) (hr : H.row b = some r) (hrw : r.rw = true)
    (hx : newElems sz x H = some (n, new)) (hnl : new.length = n * sz) (hn : n ≤ c) (hl : new.length ≤ r.cs.length) (hc : c ≤ 1000000000)
    (hw : kwant ops l ⟨some d, .call ⟨.builtin .append, #[p, q], #[t, tx]⟩, ty, ps, af, g⟩ = some true) (hd : Nat.blt d N = true)
    (h : ∀ H1, Upd H H1 b ⟨r.elem, r.whole, true, putL r.cs 0 new⟩ → KO E N ops rest ((d, .slice (some ⟨b, 0, none⟩) n c) :: l) H1 Q) : KO E N ops (⟨some d, .call ⟨.builtin .append, #[p, q], #[t, tx]⟩, ty, ps, af, g⟩ :: rest) l H Q := by
  obtain ⟨H1, u1, p1⟩ := PX.appendIn (l := l) ht hz hsb htx ha hb hr hrw hx hnl hn hl hc
  exact KO.px p1 hw hd (h H1 u1)

/-! ### lists without lists in them -/
def Sh.flat : Sh → Bool
  | .num _ | .bool | .str | .nil => true
  | .list _ _ => false
  | .fld _ s r => s.flat && r.flat
theorem Rd.flatten {H : AHeap} {room : Md} : ∀ {s : Sh} {cs : List Value} {o : Nat} {ns : List Int} {ss : List ByteArray} {D : List Nat}, s.flat = true → Rd H room s cs o ns ss D → D = [] ∧ ∀ (H' : AHeap) (room' : Md) (cs' : List Value) (o' : Nat), (∀ i ∈ s.cells, cs'[o' + i]? = cs[o + i]?) → Rd H' room' s cs' o' ns ss []
  | .num k, cs, o, ns, ss, D, _, h => by
    obtain ⟨v, h1, h2, h3, h4, rfl⟩ := h
    exact ⟨rfl, fun H' r cs' o' hc => ⟨v, by have := hc 0 (by simp [Sh.cells]); rw [Nat.add_zero, Nat.add_zero] at this; rw [this]; exact h1, h2, h3, h4, rfl⟩⟩
  | .bool, cs, o, ns, ss, D, _, h => by
    obtain ⟨v, h1, h2, h3, rfl⟩ := h
    exact ⟨rfl, fun H' r cs' o' hc => ⟨v, by have := hc 0 (by simp [Sh.cells]); rw [Nat.add_zero, Nat.add_zero] at this; rw [this]; exact h1, h2, h3, rfl⟩⟩
  | .str, cs, o, ns, ss, D, _, h => by
    obtain ⟨v, h1, h2, h3, rfl⟩ := h
    exact ⟨rfl, fun H' r cs' o' hc => ⟨v, by have := hc 0 (by simp [Sh.cells]); rw [Nat.add_zero, Nat.add_zero] at this; rw [this]; exact h1, h2, h3, rfl⟩⟩
  | .nil, cs, o, ns, ss, D, _, h => by
    obtain ⟨h1, h2, rfl⟩ := h
    exact ⟨rfl, fun _ _ _ _ _ => ⟨h1, h2, rfl⟩⟩
  | .list _ _, _, _, _, _, _, hf, _ => by cases hf
  | .fld off s r, cs, o, ns, ss, D, hf, h => by
    simp only [Sh.flat, Bool.and_eq_true] at hf
    obtain ⟨n1, s1, D1, n2, s2, D2, h1, h2, rfl, rfl, rfl⟩ := h
    obtain ⟨rfl, k1⟩ := Rd.flatten hf.1 h1
    obtain ⟨rfl, k2⟩ := Rd.flatten hf.2 h2
    refine ⟨rfl, fun H' room' cs' o' hc => ⟨n1, s1, [], n2, s2, [], k1 H' room' cs' _ (fun i hi => ?_), k2 H' room' cs' o' (fun i hi => hc i (by simp only [Sh.cells, List.mem_append]; exact .inr hi)), rfl, rfl, rfl⟩⟩
    have := hc (off + i) (by simp only [Sh.cells, List.mem_append, List.mem_map]; exact .inl ⟨i, hi, rfl⟩)
    rw [Nat.add_assoc, Nat.add_assoc]; exact this
theorem Rd.cell {H : AHeap} {room : Md} : ∀ {s : Sh} {cs : List Value} {o : Nat} {ns : List Int} {ss : List ByteArray} {D : List Nat}, Rd H room s cs o ns ss D → ∀ i ∈ s.cells, ∃ v, cs[o + i]? = some v ∧ oneC v = true
  | .num k, cs, o, ns, ss, D, h, i, hi => by
    obtain ⟨v, h1, -⟩ := h
    simp only [Sh.cells, List.mem_singleton] at hi
    subst hi; exact ⟨_, h1, rfl⟩
  | .bool, cs, o, ns, ss, D, h, i, hi => by
    obtain ⟨v, h1, -⟩ := h
    simp only [Sh.cells, List.mem_singleton] at hi
    subst hi; exact ⟨_, h1, rfl⟩
  | .str, cs, o, ns, ss, D, h, i, hi => by
    obtain ⟨v, h1, -⟩ := h
    simp only [Sh.cells, List.mem_singleton] at hi
    subst hi; exact ⟨_, h1, rfl⟩
  | .list sz s, cs, o, ns, ss, D, h, i, hi => by
    obtain ⟨a, len, cap, h1, -⟩ := h
    simp only [Sh.cells, List.mem_singleton] at hi
    subst hi; exact ⟨_, h1, rfl⟩
  | .nil, _, _, _, _, _, _, i, hi => by cases hi
  | .fld off s r, cs, o, ns, ss, D, h, i, hi => by
    obtain ⟨n1, s1, D1, n2, s2, D2, h1, h2, -⟩ := h
    simp only [Sh.cells, List.mem_append, List.mem_map] at hi
    rcases hi with ⟨k, hk, rfl⟩ | hi
    · have := Rd.cell h1 k hk
      rw [Nat.add_assoc] at this; exact this
    · exact Rd.cell h2 i hi
theorem RdN.at_ {R : Rdr} {cs : List Value} {sz : Nat} : ∀ {n o : Nat} {ns : List Int} {ss : List ByteArray} {D : List Nat}, RdN R cs sz n o ns ss D → ∀ k < n, ∃ n1 s1 D1, R cs (o + k * sz) n1 s1 D1
  | 0, _, _, _, _, _, k, hk => absurd hk (Nat.not_lt_zero _)
  | n + 1, o, ns, ss, D, h, 0, _ => by
    obtain ⟨n1, s1, D1, n2, s2, D2, h1, -⟩ := h
    exact ⟨n1, s1, D1, by rw [Nat.zero_mul]; exact h1⟩
  | n + 1, o, ns, ss, D, h, k + 1, hk => by
    obtain ⟨n1, s1, D1, n2, s2, D2, -, h2, -⟩ := h
    obtain ⟨a, b, c, h3⟩ := RdN.at_ h2 k (Nat.lt_of_succ_lt_succ hk)
    exact ⟨a, b, c, by have e : o + (k + 1) * sz = o + sz + k * sz := by rw [Nat.add_mul]; omega
                       rw [e]; exact h3⟩
theorem RdN.imp2 {R R' : Rdr} {cs cs' : List Value} {sz : Nat} : ∀ {n o o' : Nat} {ns : List Int} {ss : List ByteArray} {D : List Nat},
    (∀ i < n, ∀ ns ss D', R cs (o + i * sz) ns ss D' → D' = [] ∧ R' cs' (o' + i * sz) ns ss []) → RdN R cs sz n o ns ss D → D = [] ∧ RdN R' cs' sz n o' ns ss []
  | 0, _, _, _, _, _, _, h => by obtain ⟨h1, h2, rfl⟩ := h; exact ⟨rfl, h1, h2, rfl⟩
  | n + 1, o, o', ns, ss, D, hi, h => by
    obtain ⟨n1, s1, D1, n2, s2, D2, h1, h2, rfl, rfl, rfl⟩ := h
    have a0 := hi 0 (Nat.succ_pos n) n1 s1 D1
    simp only [Nat.zero_mul, Nat.add_zero] at a0
    obtain ⟨rfl, b0⟩ := a0 h1
    obtain ⟨rfl, b1⟩ := RdN.imp2 (o' := o' + sz) (R' := R') (cs' := cs') (fun i hin ns ss D' hr => by
      have e : o + sz + i * sz = o + (i + 1) * sz := by rw [Nat.add_mul]; omega
      have e' : o' + sz + i * sz = o' + (i + 1) * sz := by rw [Nat.add_mul]; omega
      rw [e] at hr
      rw [e']
      exact hi (i + 1) (Nat.succ_lt_succ hin) ns ss D' hr) h2
    exact ⟨rfl, n1, s1, [], n2, s2, [], b0, b1, rfl, rfl, rfl⟩

/-- The cells of a list that is read whole. -/
theorem list_cells {H : AHeap} {room : Md} {s : Sh} {sz n off : Nat} {cs : List Value} {ns : List Int} {ss : List ByteArray} {D : List Nat} (hsz : 0 < sz) (hf : ∀ i, i < sz → i ∈ s.cells) (h : RdN (Rd H room s) cs sz n off ns ss D) :
    ((cs.drop off).take (n * sz)).length = n * sz ∧ ((cs.drop off).take (n * sz)).all oneC = true := by
  have hget : ∀ i, i < n * sz → ∃ v, cs[off + i]? = some v ∧ oneC v = true := by
    intro i hi
    have hk : i / sz < n := (Nat.div_lt_iff_lt_mul hsz).2 hi
    obtain ⟨_, _, _, hr⟩ := h.at_ (i / sz) hk
    obtain ⟨v, h1, h2⟩ := hr.cell (i % sz) (hf _ (Nat.mod_lt _ hsz))
    refine ⟨v, ?_, h2⟩
    have e : off + i / sz * sz + i % sz = off + i := by
      have := Nat.div_add_mod i sz
      rw [Nat.mul_comm] at this; omega
    rw [e] at h1; exact h1
  have hl : ((cs.drop off).take (n * sz)).length = n * sz := by
    rw [List.length_take, List.length_drop]
    by_cases h0 : n * sz = 0
    · omega
    · obtain ⟨v, hv, -⟩ := hget (n * sz - 1) (by omega)
      have := lt_of_get hv
      omega
  refine ⟨hl, List.all_eq_true.2 fun v hv => ?_⟩
  obtain ⟨i, hi, rfl⟩ := List.mem_iff_getElem.1 hv
  obtain ⟨w, hw, ho⟩ := hget i (by omega)
  rw [List.getElem_take, List.getElem_drop]
  have := (List.getElem?_eq_some_iff.1 hw).2
  rw [this]; exact ho

/-- A new copy lies in new memory. -/
structure Owned (H H' : AHeap) (s : Sh) (cs : List Value) (ns : List Int) (ss : List ByteArray) : Prop where
  next : H.next ≤ H'.next
  keep : ∀ j, j < H.next → H'.row j = H.row j
  ex : ∃ ns' ss' D, Rd H' ⟨true, true, false⟩ s cs 0 ns' ss' D ∧ D.Nodup ∧ (∀ j ∈ D, H.next ≤ j ∧ j < H'.next) ∧ ns'.length ≤ 21 * ns.length ∧ ss'.length ≤ ss.length + 21 * ns.length
/-- A function that copies a list. -/
def OwnL (E : Env) (f : FuncId) (sz : Nat) (s : Sh) : Prop :=
  ∀ (w : Bool × Bool) H a len cap ns ss D, Rd H ⟨false, w.1, w.2⟩ (.list sz s) [.slice a len cap] 0 ns ss D → (∀ j ∈ D, j < H.next) → ns.length ≤ 10000000 → ss.length ≤ 10000000 → len ≤ 900000000 →
    WF E f [.slice a len cap] H fun q => (∃ a' l' c', q.1 = .slice a' l' c') ∧ Owned H q.2 (.list sz s) [q.1] ns ss
/-- A function that copies a struct. -/
def OwnA (E : Env) (f : FuncId) (s : Sh) (n : Nat) : Prop :=
  ∀ (w : Bool × Bool) H cs ns ss D, cs.length = n → cs.all oneC = true → Rd H ⟨false, w.1, w.2⟩ s cs 0 ns ss D → (∀ j ∈ D, j < H.next) → ns.length ≤ 10000000 → ss.length ≤ 10000000 →
    WF E f [.agg cs.toArray] H fun q => ∃ cs' : List Value, q.1 = .agg cs'.toArray ∧ cs'.length = n ∧ cs'.all oneC = true ∧ Owned H q.2 s cs' ns ss
/-- A function that copies a list's first cells to a new place with room for two. -/
def CopOK (E : Env) (f : FuncId) (e sz : Nat) (z : List Value) : Prop :=
  ∀ H a len cap cells, newElems sz (.slice a len cap) H = some (len, cells) → cells.length = len * sz → (∀ x, a = some x → len = 0 ∨ x.block < H.next) → len ≤ 900000000 →
    WF E f [.slice a len cap] H fun q => q.1 = .slice (some ⟨H.next, 0, none⟩) len (len + 2) ∧ q.2.next = H.next + 1 ∧ q.2.row H.next = some ⟨e, true, true, cells ++ zerosFor z 2⟩ ∧ ∀ j, j < H.next → q.2.row j = H.row j
theorem newElems_frame {sz n c : Nat} {a : Option Addr} {H H' : AHeap} (h : ∀ x, a = some x → n = 0 ∨ H'.row x.block = H.row x.block) : newElems sz (.slice a n c) H' = newElems sz (.slice a n c) H := by
  cases a with
  | none => rfl
  | some x =>
    rcases h x rfl with rfl | h
    · simp [newElems, lenV, vSl, firstCellsA, firstSl, rowCells]
    · simp only [newElems, lenV, vSl, firstCellsA, firstSl, rowCells, h]
theorem zerosFor_drop {z : List Value} (m : Nat) : ∀ n, (zerosFor z (n + m)).drop (n * z.length) = zerosFor z m
  | 0 => by simp
  | n + 1 => by
    have e : n + 1 + m = (n + m) + 1 := by omega
    rw [e]
    simp only [zerosFor]
    have e2 : (n + 1) * z.length = z.length + n * z.length := by rw [Nat.add_mul]; omega
    rw [e2, ← List.drop_drop, List.drop_append_of_le_length (Nat.le_refl _), List.drop_length, List.nil_append]
    exact zerosFor_drop m n
/-- What the list's first cells are. -/
theorem list_first {w : Bool × Bool} {H : AHeap} {s : Sh} {sz len cap : Nat} {a : Option Addr} {ns : List Int} {ss : List ByteArray} {D : List Nat} (hsz : 0 < sz) (hf : ∀ i, i < sz → i ∈ s.cells)
    (hL : (cnt false len cap = 0 ∧ ns = [] ∧ ss = [] ∧ D = []) ∨ ∃ b off sp r D', a = some ⟨b, off, sp⟩ ∧ H.row b = some r ∧ (w.1 = true → Wm ⟨false, w.1, w.2⟩ r) ∧ D = b :: D' ∧ RdN (Rd H ⟨false, w.1, w.2⟩ s) r.cs sz (cnt false len cap) off ns ss D') (h0 : a = none → len = 0) :
    ∃ cells, newElems sz (.slice a len cap) H = some (len, cells) ∧ cells.length = len * sz ∧ ((len = 0 ∧ cells = [] ∧ ns = [] ∧ ss = [] ∧ D = []) ∨ ∃ b off r D', cells = (r.cs.drop off).take (len * sz) ∧ H.row b = some r ∧ D = b :: D' ∧ RdN (Rd H ⟨false, w.1, w.2⟩ s) r.cs sz len off ns ss D') := by
  have hcn : cnt false len cap = len := rfl
  rw [hcn] at hL
  rcases hL with ⟨rfl, rfl, rfl, rfl⟩ | ⟨b, off, sp, r, D', rfl, k2, k3, rfl, k5⟩
  · refine ⟨[], ?_, by simp, .inl ⟨rfl, rfl, rfl, rfl, rfl⟩⟩
    cases a with
    | none => exact newElems_nil
    | some a => simp [newElems, lenV, vSl, firstCellsA, firstSl, rowCells]
  · obtain ⟨h1, h2⟩ := list_cells hsz hf k5
    exact ⟨_, newElems_of k2 rfl h1 h2, h1, .inr ⟨b, off, r, D', rfl, k2, rfl, k5⟩⟩
/-- A list without lists in it is copied whole. -/
theorem CopOK.flat {E : Env} {f : FuncId} {e sz : Nat} {z : List Value} {s : Sh} {nz : List Int} {tz : List ByteArray} (hc : CopOK E f e sz z) (hs : s.flat = true) (hsz : 0 < sz) (hf : ∀ i, i < sz → i ∈ s.cells) (hlt : ∀ i ∈ s.cells, i < sz) (hzl : z.length = sz) (hz : ∀ H, Rd H ⟨true, true, false⟩ s z 0 nz tz []) (hn : nz.length ≤ 10) (ht : tz.length ≤ 10) : OwnL E f sz s := by
  intro w H a len cap ns ss D hR hD l1 l2 l3
  obtain ⟨a', len', cap', hcv, ⟨hlc, hcn⟩, -, ns1, rfl, hL⟩ := hR
  simp only [List.getElem?_cons_zero, Option.some.injEq, Value.slice.injEq] at hcv
  obtain ⟨rfl, rfl, rfl⟩ := hcv
  have hL' := hL
  obtain ⟨cells, h1, h2, h3⟩ := list_first (a := a) hsz hf hL (fun ha => by
    subst ha
    rcases hL' with h | ⟨_, _, _, _, _, h, -⟩
    · exact h.1
    · cases h)
  refine (hc H a len cap cells h1 h2 (fun x hx => by
    rcases hL' with h | ⟨b, off, sp, r, D', h, -, -, rfl, -⟩
    · exact .inl h.1
    · rw [h] at hx; cases hx; exact .inr (hD _ List.mem_cons_self)) l3).mono ?_
  rintro ⟨v, G⟩ ⟨rfl, hnx, hrow, hk⟩
  refine ⟨⟨_, _, _, rfl⟩, by rw [hnx]; exact Nat.le_succ _, hk, ?_⟩
  -- the two behind the last one
  have hzc : ∀ k, k < 2 → Rd G ⟨true, true, false⟩ s (cells ++ zerosFor z 2) (0 + (len + k) * sz) nz tz [] := by
    intro k hk2
    have := (hz G).flatten hs
    refine this.2 G ⟨true, true, false⟩ _ _ fun i hi => ?_
    have hi' := hlt i hi
    have e1 : 0 + (len + k) * sz + i = cells.length + (k * sz + i) := by rw [h2, Nat.add_mul]; omega
    rw [e1, List.getElem?_append_right (by omega), Nat.add_sub_cancel_left, ← hzl, zerosFor_get hk2 (by omega), Nat.zero_add]
  have hfirst : D.length = D.length ∧ ∃ ns0 ss0, ns0.length = ns1.length ∧ ss0.length = ss.length ∧ RdN (Rd G ⟨true, true, false⟩ s) (cells ++ zerosFor z 2) sz len 0 ns0 ss0 [] := by
    refine ⟨rfl, ns1, ss, rfl, rfl, ?_⟩
    rcases h3 with ⟨rfl, rfl, rfl, rfl, rfl⟩ | ⟨b, off, r, D', rfl, k2, rfl, k5⟩
    · exact ⟨rfl, rfl, rfl⟩
    · refine (RdN.imp2 (o' := 0) (R' := Rd G ⟨true, true, false⟩ s) (cs' := (r.cs.drop off).take (len * sz) ++ zerosFor z 2) (fun i hi ns ss D'' hr => ?_) k5).2
      obtain ⟨rfl, hr2⟩ := hr.flatten hs
      refine ⟨rfl, hr2 G ⟨true, true, false⟩ _ _ fun c hcc => ?_⟩
      have hc' := hlt c hcc
      have hlt2 : i * sz + c < len * sz := by
        have : (i + 1) * sz ≤ len * sz := Nat.mul_le_mul_right sz hi
        rw [Nat.add_mul] at this; omega
      rw [Nat.zero_add, List.getElem?_append_left (by rw [h2]; exact hlt2), List.getElem?_take_of_lt hlt2, List.getElem?_drop, Nat.add_assoc]
  obtain ⟨-, ns0, ss0, e1, e2, hN⟩ := hfirst
  have hN2 := (hN.snoc (by simpa using hzc 0 (by omega))).snoc (by simpa using hzc 1 (by omega))
  refine ⟨(len : Int) :: (ns0 ++ nz ++ nz), ss0 ++ tz ++ tz, [H.next], ⟨_, len, len + 2, rfl, ⟨by omega, by simp only [cnt, if_true]; omega⟩, fun _ => rfl, _, rfl, .inr ⟨H.next, 0, none, _, [], rfl, hrow, fun _ => .inl rfl, rfl, by simpa [cnt] using hN2⟩⟩, by simp, ?_, ?_, ?_⟩
  · intro j hj
    simp only [List.mem_singleton] at hj
    subst hj
    exact ⟨Nat.le_refl _, by show H.next < G.next; rw [hnx]; exact Nat.lt_succ_self _⟩
  · simp only [List.length_cons, List.length_append]; omega
  · simp only [List.length_cons, List.length_append]; omega
end Go.Eng

/- Structs copied field by field. -/
namespace Go.Eng
open Go

theorem oneC_slice {a : Option Addr} {l c : Nat} : oneC (.slice a l c) = true := rfl
theorem goodAgg {cs : List Value} {n : Nat} (h : cs.length = n) (ho : cs.all oneC = true) : goodCells (.agg cs.toArray) n = some cs := by
  have h2 : (cellsV (.agg cs.toArray)) = cs := by simp [cellsV]
  have h3 : Nat.beq cs.length n = true := by rw [h]; exact Nat.beq_refl n
  simp only [goodCells, isTup, h2, ho, h3, Bool.not_false, Bool.and_self, cond_true]
theorem boxAgg {cs : List Value} (ho : cs.all oneC = true) : (!isTup (.agg cs.toArray) && (cellsV (.agg cs.toArray)).all oneC) = true := by
  have h2 : (cellsV (.agg cs.toArray)) = cs := by simp [cellsV]
  rw [h2, ho]; rfl
/-- A part lies in new memory between two numbers. -/
def OwnedP (lo hi : Nat) (H : AHeap) (s : Sh) (cs : List Value) (o : Nat) (N S : Nat) : Prop :=
  ∃ ns ss D, Rd H ⟨true, true, false⟩ s cs o ns ss D ∧ D.Nodup ∧ (∀ j ∈ D, lo ≤ j ∧ j < hi) ∧ ns.length ≤ 21 * N ∧ ss.length ≤ S + 21 * N
theorem OwnedP.nil {lo hi : Nat} {H : AHeap} {cs : List Value} {o : Nat} : OwnedP lo hi H .nil cs o 0 0 := ⟨[], [], [], ⟨rfl, rfl, rfl⟩, .nil, fun _ h => absurd h List.not_mem_nil, Nat.le_refl _, Nat.le_refl _⟩
theorem OwnedP.flat {lo hi o : Nat} {H H0 : AHeap} {s : Sh} {cs cs' : List Value} {o' : Nat} {ns : List Int} {ss : List ByteArray} {D : List Nat} {room : Md} (hs : s.flat = true) (h : Rd H0 room s cs o ns ss D) (hc : ∀ i ∈ s.cells, cs'[o' + i]? = cs[o + i]?) : OwnedP lo hi H s cs' o' ns.length ss.length :=
  ⟨ns, ss, [], (h.flatten hs).2 H ⟨true, true, false⟩ cs' o' hc, .nil, fun _ h => absurd h List.not_mem_nil, by omega, by omega⟩
theorem OwnedP.of {H0 H1 H : AHeap} {s : Sh} {cs cs' : List Value} {o : Nat} {ns : List Int} {ss : List ByteArray} (h : Owned H0 H1 s cs ns ss) (hr : ∀ j, H0.next ≤ j → j < H1.next → H.row j = H1.row j) (hc : ∀ i ∈ s.cells, cs'[o + i]? = cs[0 + i]?) : OwnedP H0.next H1.next H s cs' o ns.length ss.length := by
  obtain ⟨ns', ss', D, h1, h2, h3, h4, h5⟩ := h.ex
  refine ⟨ns', ss', D, Rd.shift (fun j hj => hr j (h3 j hj).1 (h3 j hj).2) hc h1, h2, h3, h4, h5⟩
  where
  Rd.shift {H H' : AHeap} {room : Md} : ∀ {s : Sh} {cs cs' : List Value} {o o' : Nat} {ns : List Int} {ss : List ByteArray} {D : List Nat}, (∀ j ∈ D, H'.row j = H.row j) → (∀ i ∈ s.cells, cs'[o' + i]? = cs[o + i]?) → Rd H room s cs o ns ss D → Rd H' room s cs' o' ns ss D
  | .num k, cs, cs', o, o', ns, ss, D, _, hc, h => by
    obtain ⟨v, h1, h2⟩ := h
    exact ⟨v, by have := hc 0 (by simp [Sh.cells]); rw [Nat.add_zero, Nat.add_zero] at this; rw [this]; exact h1, h2⟩
  | .bool, cs, cs', o, o', ns, ss, D, _, hc, h => by
    obtain ⟨v, h1, h2⟩ := h
    exact ⟨v, by have := hc 0 (by simp [Sh.cells]); rw [Nat.add_zero, Nat.add_zero] at this; rw [this]; exact h1, h2⟩
  | .str, cs, cs', o, o', ns, ss, D, _, hc, h => by
    obtain ⟨v, h1, h2⟩ := h
    exact ⟨v, by have := hc 0 (by simp [Sh.cells]); rw [Nat.add_zero, Nat.add_zero] at this; rw [this]; exact h1, h2⟩
  | .list sz s, cs, cs', o, o', ns, ss, D, hr, hc, h => by
    have hf := Rd.frame (s := .list sz s) hr h
    obtain ⟨a, len, cap, h1, h2⟩ := hf
    exact ⟨a, len, cap, by have := hc 0 (by simp [Sh.cells]); rw [Nat.add_zero, Nat.add_zero] at this; rw [this]; exact h1, h2⟩
  | .nil, _, _, _, _, _, _, _, _, _, h => h
  | .fld off s r, cs, cs', o, o', ns, ss, D, hr, hc, h => by
    obtain ⟨n1, s1, D1, n2, s2, D2, h1, h2, rfl, rfl, rfl⟩ := h
    refine ⟨n1, s1, D1, n2, s2, D2, Rd.shift (fun j hj => hr j (List.mem_append_left _ hj)) (fun i hi => ?_) h1, Rd.shift (fun j hj => hr j (List.mem_append_right _ hj)) (fun i hi => ?_) h2, rfl, rfl, rfl⟩
    · have := hc (off + i) (by simp only [Sh.cells, List.mem_append, List.mem_map]; exact .inl ⟨i, hi, rfl⟩)
      rw [Nat.add_assoc, Nat.add_assoc]; exact this
    · exact hc i (by simp only [Sh.cells, List.mem_append]; exact .inr hi)
theorem Rd.shift {H H' : AHeap} {room : Md} {s : Sh} {cs cs' : List Value} {o o' : Nat} {ns : List Int} {ss : List ByteArray} {D : List Nat} (h1 : ∀ j ∈ D, H'.row j = H.row j) (h2 : ∀ i ∈ s.cells, cs'[o' + i]? = cs[o + i]?) (h : Rd H room s cs o ns ss D) : Rd H' room s cs' o' ns ss D :=
  OwnedP.of.Rd.shift h1 h2 h
theorem OwnedP.fld {lo mid hi off o N1 S1 N2 S2 : Nat} {H : AHeap} {s r : Sh} {cs : List Value} (h1 : OwnedP lo mid H s cs (o + off) N1 S1) (h2 : OwnedP mid hi H r cs o N2 S2) (a : lo ≤ mid) (b : mid ≤ hi) : OwnedP lo hi H (.fld off s r) cs o (N1 + N2) (S1 + S2) := by
  obtain ⟨n1, s1, D1, k1, k2, k3, k4, k5⟩ := h1
  obtain ⟨n2, s2, D2, m1, m2, m3, m4, m5⟩ := h2
  refine ⟨n1 ++ n2, s1 ++ s2, D1 ++ D2, ⟨n1, s1, D1, n2, s2, D2, k1, m1, rfl, rfl, rfl⟩, List.nodup_append.2 ⟨k2, m2, fun x hx y hy e => ?_⟩, fun j hj => ?_, ?_, ?_⟩
  · have := k3 x hx; have := m3 y hy; omega
  · rcases List.mem_append.1 hj with h | h
    · have := k3 j h; omega
    · have := m3 j h; omega
  · simp only [List.length_append]; omega
  · simp only [List.length_append]; omega
theorem OwnedP.wide {lo hi lo' hi' o N S : Nat} {H : AHeap} {s : Sh} {cs : List Value} (h : OwnedP lo hi H s cs o N S) (a : lo' ≤ lo) (b : hi ≤ hi') : OwnedP lo' hi' H s cs o N S := by
  obtain ⟨n1, s1, D1, k1, k2, k3, k4, k5⟩ := h
  exact ⟨n1, s1, D1, k1, k2, fun j hj => by have := k3 j hj; omega, k4, k5⟩
theorem Owned.ofP {H H' : AHeap} {s : Sh} {cs : List Value} {ns : List Int} {ss : List ByteArray} {N S : Nat} (h : OwnedP H.next H'.next H' s cs 0 N S) (hn : H.next ≤ H'.next) (hk : ∀ j, j < H.next → H'.row j = H.row j) (eN : N = ns.length) (eS : S = ss.length) : Owned H H' s cs ns ss := by
  subst eN; subst eS
  exact ⟨hn, hk, h⟩
/-- Each element shows at least one number or string. -/
def Sh.shows : Sh → Bool
  | .num _ | .bool | .str | .list _ _ => true
  | .nil => false
  | .fld _ s r => s.shows || r.shows
theorem Rd.shown {H : AHeap} {room : Md} : ∀ {s : Sh} {cs : List Value} {o : Nat} {ns : List Int} {ss : List ByteArray} {D : List Nat}, s.shows = true → Rd H room s cs o ns ss D → 1 ≤ ns.length + ss.length
  | .num k, _, _, _, _, _, _, h => by obtain ⟨_, _, _, rfl, rfl, _⟩ := h; simp
  | .bool, _, _, _, _, _, _, h => by obtain ⟨_, _, rfl, rfl, _⟩ := h; simp
  | .str, _, _, _, _, _, _, h => by obtain ⟨_, _, rfl, rfl, _⟩ := h; simp
  | .list _ _, _, _, _, _, _, _, h => by obtain ⟨_, _, _, _, _, _, _, rfl, _⟩ := h; simp only [List.length_cons]; omega
  | .nil, _, _, _, _, _, hs, _ => by cases hs
  | .fld _ s r, _, _, _, _, _, hs, h => by
    obtain ⟨n1, s1, D1, n2, s2, D2, h1, h2, rfl, rfl, rfl⟩ := h
    simp only [Sh.shows, Bool.or_eq_true] at hs
    simp only [List.length_append]
    rcases hs with hs | hs
    · have := Rd.shown hs h1; omega
    · have := Rd.shown hs h2; omega
theorem RdN.shown {H : AHeap} {room : Md} {s : Sh} {cs : List Value} {sz : Nat} (hs : s.shows = true) : ∀ {n o : Nat} {ns : List Int} {ss : List ByteArray} {D : List Nat}, RdN (Rd H room s) cs sz n o ns ss D → n ≤ ns.length + ss.length
  | 0, _, _, _, _, _ => Nat.zero_le _
  | n + 1, o, ns, ss, D, h => by
    obtain ⟨n1, s1, D1, n2, s2, D2, h1, h2, rfl, rfl, rfl⟩ := h
    have := Rd.shown hs h1
    have := RdN.shown hs h2
    simp only [List.length_append]; omega
theorem list_len {w : Bool × Bool} {H : AHeap} {s : Sh} {sz o len cap : Nat} {a : Option Addr} {cs : List Value} {ns : List Int} {ss : List ByteArray} {D : List Nat} (h : Rd H ⟨false, w.1, w.2⟩ (.list sz s) cs o ns ss D) (hc : cs[o]? = some (.slice a len cap)) (l1 : ns.length ≤ 10000000) (l2 : ss.length ≤ 10000000) (hs : s.shows = true) : len ≤ 900000000 := by
  obtain ⟨a', len', cap', hc', -, -, n1, rfl, h5⟩ := h
  rw [hc] at hc'
  cases hc'
  rcases h5 with ⟨h, -⟩ | ⟨b, off, sp, r, D', -, -, -, -, k5⟩
  · have : len = 0 := h
    omega
  · have := k5.shown hs
    have e : cnt false len cap = len := rfl
    rw [e] at this
    simp only [List.length_cons] at l1
    omega
end Go.Eng

/- Eyes in blocks of their own; what a call of a package's function must do. -/
namespace Go.Eng
open Go

/-- An eye lies in a block of its own. -/
def EyeAt (tI tS tE : Nat) (H : AHeap) (e lo hi : Nat) (ns : List Int) (ss : List ByteArray) : Prop := ∃ cs, H.row e = some ⟨tE, true, true, cs⟩ ∧ EyeV tI tS H lo hi cs 0 ns ss
theorem EyeAt.frame {tI tS tE : Nat} {H H' : AHeap} {e lo hi : Nat} {ns : List Int} {ss : List ByteArray} (h : EyeAt tI tS tE H e lo hi ns ss) (he : H'.row e = H.row e) (hr : ∀ j, lo ≤ j → j < hi → H'.row j = H.row j) : EyeAt tI tS tE H' e lo hi ns ss := by
  obtain ⟨cs, h1, h2⟩ := h
  exact ⟨cs, by rw [he]; exact h1, h2.frame (Nat.le_refl _) hr (fun _ _ => rfl)⟩
section
variable {E : Env} {tI tS tE : Nat} {s : Sh} {H : AHeap} {be : Nat} {room : Md} {a : Int} {bx : Nat} {ns : List Int} {ss : List ByteArray} {D : List Nat} {f : FuncId}
theorem SeeOK.reads (hf : SeeOK E tI tS f s) (he : H.row be = some ⟨tE, true, true, [.slice none 0 0, .slice none 0 0, .bool false, .int .i64 a, .bool room.r]⟩) (hb : be < H.next) {r : Row} (hx : H.row bx = some r) (hw : room.w = true → Wm room r) (hwm : s.bools = true → room.w = true) (hR : Rd H room s r.cs 0 ns ss D) (hbx : bx < H.next) (hD : ∀ j ∈ D, j < H.next) (h1 : bx ≠ be) (h2 : be ∉ D) (l1 : ns.length ≤ 1000000000) (l2 : ss.length ≤ 1000000000) :
    WF E f [.pointer (some ⟨be, 0, none⟩), .pointer (some ⟨bx, 0, none⟩)] H fun q => EyeAt tI tS tE q.2 be H.next q.2.next ns ss ∧ H.next ≤ q.2.next ∧ ∀ j, j < H.next → j ≠ be → q.2.row j = H.row j := by
  refine (hf.read (Eye.ofCells he rfl rfl rfl rfl rfl rfl hb) hx hw hwm hR hbx hD h1 h2 l1 l2).mono ?_
  rintro ⟨v, G⟩ ⟨a', re', Fn, Fs, he', hF1, hF2, hER, hn1, hk1⟩
  refine ⟨⟨re'.cs, ?_, he'.toV hF1 hF2 (Nat.le_refl _)⟩, hn1, hk1⟩
  have h3 := he'.row
  have h4 := he'.rw
  obtain ⟨e1, e2, -⟩ := hER
  obtain ⟨e, w, rw', c⟩ := re'
  simp_all
/-- A datum of one's own is seen. -/
theorem SeeOK.readsO (hf : SeeOK E tI tS f s) (he : H.row be = some ⟨tE, true, true, [.slice none 0 0, .slice none 0 0, .bool false, .int .i64 a, .bool room.r]⟩) (hb : be < H.next) (hrm : room.w = true) (hx : Own H room s bx ns ss D) (h1 : bx ≠ be) (h2 : be ∉ D) (l1 : ns.length ≤ 1000000000) (l2 : ss.length ≤ 1000000000) :
    WF E f [.pointer (some ⟨be, 0, none⟩), .pointer (some ⟨bx, 0, none⟩)] H fun q => EyeAt tI tS tE q.2 be H.next q.2.next ns ss ∧ H.next ≤ q.2.next ∧ ∀ j, j < H.next → j ≠ be → q.2.row j = H.row j := by
  obtain ⟨r, k1, k2, k3⟩ := hx.ex
  exact hf.reads he hb k1 (fun _ => .inl k2) (fun _ => hrm) k3 hx.lb hx.lD h1 h2 l1 l2
theorem SeeOK.marksO (hf : SeeOK E tI tS f s) (he : H.row be = some ⟨tE, true, true, [.slice none 0 0, .slice none 0 0, .bool true, .int .i64 a, .bool room.r]⟩) (hb : be < H.next) (hrm : room.w = true) (hkm : room.k = false) (hx : Own H room s bx ns ss D) (h1 : bx ≠ be) (h2 : be ∉ D) (l1 : ns.length ≤ 1000000000) (l2 : ss.length ≤ 1000000000) :
    WF E f [.pointer (some ⟨be, 0, none⟩), .pointer (some ⟨bx, 0, none⟩)] H fun q => ∃ ns' ss', Own q.2 room s bx ns' ss' D ∧ ns'.length = ns.length ∧ ss'.length = ss.length ∧ H.next ≤ q.2.next ∧ ∀ j, j < H.next → j ≠ be → j ≠ bx → j ∉ D → q.2.row j = H.row j :=
  hf.marks (Eye.ofCells he rfl rfl rfl rfl rfl rfl hb) hrm hkm hx h1 h2 l1 l2
end
/-- A call of a package's function: the arguments stay, the results lie in new memory of their own. -/
def CallOK' (E : Env) (tI tS tF : Nat) (f : FuncId) (s : Sh) : Prop :=
  ∀ H bx ns ss D, Own H ⟨true, true, false⟩ s bx ns ss D → ns.length ≤ 300000000 → ss.length ≤ 300000000 →
    WF E f [.pointer (some ⟨bx, 0, none⟩)] H fun q => ∃ L, ResV q.2 tF q.1 L H.next q.2.next ∧ ResAll E tI tS q.2 H.next q.2.next L ∧ H.next ≤ q.2.next ∧ ∀ j, j < H.next → q.2.row j = H.row j
theorem EyeAt.load {tI tS tE : Nat} {H : AHeap} {e lo hi : Nat} {ns : List Int} {ss : List ByteArray} (h : EyeAt tI tS tE H e lo hi ns ss) : ∃ cs nv sv mk a rm Fn Fs, H.row e = some ⟨tE, true, true, cs⟩ ∧ takeN 5 (cs.drop 0) = some [nv, sv, .bool mk, .int .i64 a, .bool rm] ∧ Lst H tI 1 nv (ns.map (Value.int .i64)) Fn ∧ Lst H tS 1 sv (ss.map Value.string) Fs ∧ (∀ j ∈ Fn, lo ≤ j ∧ j < hi) ∧ ∀ j ∈ Fs, lo ≤ j ∧ j < hi := by
  obtain ⟨cs, h1, h2⟩ := h
  obtain ⟨nv, sv, mk, a, rm, Fn, Fs, t1, t2⟩ := h2.take
  exact ⟨cs, nv, sv, mk, a, rm, Fn, Fs, h1, t1, t2⟩
/-- The other results stay when one is marked. -/
theorem ResAll.mark {E : Env} {tI tS : Nat} {H H' : AHeap} {lo hi k : Nat} {L : List R1} {r : R1} {ns' : List Int} {ss' : List ByteArray} (h : ResAll E tI tS H lo hi L) (hk : L[k]? = some r) (hr : Res1 E tI tS H' r.v ns' ss' r.D) (hn : H.next ≤ H'.next) (hs : ∀ j, lo ≤ j → j < hi → j ∉ r.D → H'.row j = H.row j) :
    ResAll E tI tS H' lo hi (L.set k ⟨r.v, ns', ss', r.D⟩) := by
  have hkl := (List.getElem?_eq_some_iff.1 hk).1
  have hmem : ∀ (i : Nat) (q : R1), (L.set k ⟨r.v, ns', ss', r.D⟩)[i]? = some q → (i = k ∧ q = ⟨r.v, ns', ss', r.D⟩) ∨ (i ≠ k ∧ L[i]? = some q) := by
    intro i q hq
    rw [List.getElem?_set] at hq
    by_cases hik : k = i
    · subst hik
      rw [if_pos rfl, if_pos hkl] at hq
      exact .inl ⟨rfl, (Option.some.inj hq).symm⟩
    · rw [if_neg hik] at hq
      exact .inr ⟨fun e => hik e.symm, hq⟩
  have hD : ∀ (i : Nat) (q : R1), (L.set k ⟨r.v, ns', ss', r.D⟩)[i]? = some q → ∃ p, L[i]? = some p ∧ p.D = q.D := by
    intro i q hq
    rcases hmem i q hq with ⟨rfl, rfl⟩ | ⟨-, h⟩
    · exact ⟨r, hk, rfl⟩
    · exact ⟨q, h, rfl⟩
  refine ⟨fun q hq => ?_, fun q hq j hj => ?_, fun i m him p q hp hq j hj => ?_, by rw [List.length_set]; exact h.few⟩
  · obtain ⟨i, hi⟩ := List.getElem?_of_mem hq
    rcases hmem i q hi with ⟨rfl, rfl⟩ | ⟨hik, hi'⟩
    · exact hr
    · have hqm := List.mem_of_getElem? hi'
      refine (h.one q hqm).frame hn fun j hj => hs j (h.rng q hqm j hj).1 (h.rng q hqm j hj).2 (h.dis i k hik q r hi' hk j hj)
  · obtain ⟨i, hi⟩ := List.getElem?_of_mem hq
    obtain ⟨p, hp, hpD⟩ := hD i q hi
    exact h.rng p (List.mem_of_getElem? hp) j (hpD ▸ hj)
  · obtain ⟨p', hp', e1⟩ := hD i p hp
    obtain ⟨q', hq', e2⟩ := hD m q hq
    rw [← e2]
    exact h.dis i m him p' q' hp' hq' j (by rw [e1]; exact hj)
theorem ResV.mark {H H' : AHeap} {tF : Nat} {v : Value} {L : List R1} {lo hi k : Nat} {r : R1} {ns' : List Int} {ss' : List ByteArray} (h : ResV H tF v L lo hi) (hk : L[k]? = some r) (hs : ∀ j, lo ≤ j → j < hi → j ∉ r.D → H'.row j = H.row j) : ResV H' tF v (L.set k ⟨r.v, ns', ss', r.D⟩) lo hi := by
  have hkl := (List.getElem?_eq_some_iff.1 hk).1
  have hLk : L[k] = r := by
    have := List.getElem?_eq_getElem hkl
    rw [hk] at this; exact (Option.some.inj this).symm
  rcases h with ⟨h, rfl⟩ | ⟨b, h1, h2, h3, h4, h5⟩
  · simp at hkl
  · refine .inr ⟨b, by rw [List.length_set]; exact h1, ?_, h3, h4, fun q hq hb => ?_⟩
    · rw [hs b h3 h4 (h5 r (List.mem_of_getElem? hk)), h2]
      congr 2
      apply List.ext_getElem?
      intro i
      rw [List.getElem?_map, List.getElem?_map, List.getElem?_set]
      by_cases hik : k = i
      · subst hik; rw [if_pos rfl, if_pos hkl, hk]; rfl
      · rw [if_neg hik]
    · rcases List.mem_or_eq_of_mem_set hq with hq | rfl
      · exact h5 q hq hb
      · exact h5 r (List.mem_of_getElem? hk) hb
end Go.Eng

/- What package functions leave. -/
namespace Go.Eng
open Go
/-- All that was there stays. -/
def Frh (H H' : AHeap) : Prop := H.next ≤ H'.next ∧ ∀ j, j < H.next → H'.row j = H.row j
theorem Frh.refl {H : AHeap} : Frh H H := ⟨Nat.le_refl _, fun _ _ => rfl⟩
theorem Frh.trans {A B C : AHeap} (h : Frh A B) (k : Frh B C) : Frh A C := ⟨Nat.le_trans h.1 k.1, fun j hj => (k.2 j (Nat.lt_of_lt_of_le hj h.1)).trans (h.2 j hj)⟩
theorem Frh.new {H H1 : AHeap} {r : Row} (h : New H H1 r) : Frh H H1 := ⟨by rw [h.next]; exact Nat.le_succ _, fun j hj => by rw [h.row, if_neg (by omega)]⟩
/-- A write to what is new. -/
theorem Frh.upd {H A B : AHeap} {b : Nat} {r : Row} (h : Frh H A) (u : Upd A B b r) (hb : H.next ≤ b) : Frh H B := ⟨by rw [u.next]; exact h.1, fun j hj => by rw [u.row, if_neg (by omega)]; exact h.2 j hj⟩
/-- An append to what is new. -/
theorem Frh.app {H A B : AHeap} {D : List Nat} (h : Frh H A) (h1 : A.next ≤ B.next) (h2 : ∀ j, j ∉ D → j < A.next → B.row j = A.row j) (hD : ∀ j ∈ D, H.next ≤ j) : Frh H B :=
  ⟨Nat.le_trans h.1 h1, fun j hj => (h2 j (fun x => by have := hD j x; omega) (by have := h.1; omega)).trans (h.2 j hj)⟩
theorem fdiv_nat (a b : Nat) : Int.fdiv (a : Int) (b : Int) = ((a / b : Nat) : Int) := by
  cases a with
  | zero => simp
  | succ n => rfl
/-- What grew is one's own. -/
theorem Lst.owned {H : AHeap} {e sz : Nat} {v : Value} {cs : List Value} {D : List Nat} {s : Sh} {ns : List Int} {ss : List ByteArray} (h : Lst H e sz v cs D) (hlen : cs.length ≤ 900000000) (hsz : 0 < sz) (hR : ∀ n, cs.length = n * sz → RdN (Rd H ⟨false, true, false⟩ s) cs sz n 0 ns ss []) :
    ∃ ns', Rd H ⟨false, true, false⟩ (.list sz s) [v] 0 ns' ss D ∧ D.Nodup ∧ ns'.length = ns.length + 1 := by
  rcases h with ⟨rfl, rfl, rfl⟩ | ⟨b, n, rfl, hr, hn, rfl⟩
  · obtain ⟨rfl, rfl, -⟩ := hR 0 (by simp)
    exact ⟨[0], ⟨none, 0, 0, rfl, ⟨Nat.le_refl _, by decide⟩, (fun h => by cases h), [], rfl, .inl ⟨rfl, rfl, rfl, rfl⟩⟩, .nil, rfl⟩
  · have hle : n ≤ n * sz := Nat.le_mul_of_pos_right n hsz
    exact ⟨(n : Int) :: ns, ⟨_, n, n, rfl, ⟨Nat.le_refl _, by show n ≤ _; omega⟩, (fun h => by cases h), ns, rfl, .inr ⟨b, 0, some sz, _, [], rfl, hr, fun _ => .inl rfl, rfl, hR n hn⟩⟩, by simp, rfl⟩
theorem RdN.nums {H : AHeap} {room : Md} {k : IntKind} : ∀ {us : List Int} {pre : List Value}, (∀ u ∈ us, k.wrap u = u) → RdN (Rd H room (.num k)) (pre ++ us.map (Value.int k)) 1 us.length pre.length (us.map IntKind.i64.wrap) [] []
  | [], _, _ => ⟨rfl, rfl, rfl⟩
  | u :: r, pre, h => by
    refine ⟨[IntKind.i64.wrap u], [], [], r.map IntKind.i64.wrap, [], [], ⟨u, ?_, h u List.mem_cons_self, rfl, rfl, rfl⟩, ?_, rfl, rfl, rfl⟩
    · rw [List.getElem?_append_right (Nat.le_refl _), Nat.sub_self]; rfl
    · have := RdN.nums (H := H) (room := room) (k := k) (us := r) (pre := pre ++ [.int k u]) (fun x hx => h x (List.mem_cons_of_mem _ hx))
      simpa using this
theorem KO.bits {E : Env} {N : Nat} {ops rest : List Oper} {l : Kn} {H : AHeap} {Q : Kn → AHeap → Prop} {ty : TypeId} {ps : String} {af : Array Edge} {g : Option (Nat × Bool)} {d : Nat} {op : BinOp} {t u : TypeId} {x y : Operand} {k : IntKind} {a b : Int}
    (hop : op = .and ∨ op = .or ∨ op = .xor) (hx : kval E.G l x = some (.int k a)) (hy : kval E.G l y = some (.int k b)) (hw : kwant ops l ⟨some d, .binOp op t x y u, ty, ps, af, g⟩ = some true) (hd : Nat.blt d N = true)
    (h : ∀ n, k.wrap n = n → KO E N ops rest ((d, .int k n) :: l) H Q) : KO E N ops (⟨some d, .binOp op t x y u, ty, ps, af, g⟩ :: rest) l H Q := by
  obtain ⟨n, hn, hp⟩ := PV.bits (t := t) (u := u) hx hy hop
  exact KO.pv hp hw hd (h n hn)
theorem take2 {cs : List Value} {o : Nat} {x y : Value} (h0 : cs[o]? = some x) (h1 : cs[o + 1]? = some y) : takeN 2 (cs.drop o) = some [x, y] := by
  refine takeN_of ?_ rfl
  have hl := lt_of_get h1
  apply List.ext_getElem?
  intro i
  rw [List.getElem?_take]
  match i with
  | 0 => rw [if_pos (by omega), List.getElem?_drop]; exact h0
  | 1 => rw [if_pos (by omega), List.getElem?_drop]; exact h1
  | i + 2 => rw [if_neg (by omega)]; rfl
/-- The elements of a grown list, to be appended. -/
theorem Lst.new {H : AHeap} {e sz : Nat} {v : Value} {cs : List Value} {D : List Nat} (h : Lst H e sz v cs D) (hc : cs.all oneC = true) (n : Nat) (hn : cs.length = n * sz) (hsz : 0 < sz) : newElems sz v H = some (n, cs) := by
  rcases h with ⟨rfl, rfl, rfl⟩ | ⟨b, m, rfl, hr, hm, rfl⟩
  · have : n = 0 := by
      rcases Nat.eq_zero_or_pos n with h | h
      · exact h
      · have := Nat.mul_pos h hsz; simp at hn; omega
    subst this; exact newElems_nil
  · have : m = n := Nat.eq_of_mul_eq_mul_right hsz (hm.symm.trans hn)
    subst this
    exact newElems_of hr (by show (cs.drop 0).take _ = cs; rw [List.drop_zero, ← hm, List.take_length]) hm hc
end Go.Eng

/- Lists of numbers that grew in new memory; parts of slices. -/
namespace Go.Eng
open Go
structure NL (H0 A : AHeap) (e sz : Nat) (k : IntKind) (v : Value) (us : List Int) (D : List Nat) : Prop where
  l : Lst A e sz v (us.map (Value.int k)) D
  w : ∀ u ∈ us, k.wrap u = u
  f : Frh H0 A
  d : ∀ j ∈ D, H0.next ≤ j ∧ j < A.next
theorem NL.frame {H0 A B : AHeap} {e sz : Nat} {k : IntKind} {v : Value} {us : List Int} {D : List Nat} (h : NL H0 A e sz k v us D) (q : Frh A B) : NL H0 B e sz k v us D :=
  ⟨h.l.frame fun j hj => q.2 j (h.d j hj).2, h.w, h.f.trans q, fun j hj => ⟨(h.d j hj).1, Nat.lt_of_lt_of_le (h.d j hj).2 q.1⟩⟩
theorem NL.nil {H0 A : AHeap} {e sz : Nat} {k : IntKind} (h : Frh H0 A) : NL H0 A e sz k (.slice none 0 0) [] [] := ⟨.nil, fun _ h => absurd h List.not_mem_nil, h, fun _ h => absurd h List.not_mem_nil⟩
/-- Behind an append. -/
theorem NL.app {H0 A B : AHeap} {e sz : Nat} {k : IntKind} {v v' : Value} {us new : List Int} {D D' : List Nat} (h : NL H0 A e sz k v us D) (k1 : Lst B e sz v' (us.map (Value.int k) ++ new.map (Value.int k)) D') (k2 : A.next ≤ B.next) (k3 : ∀ j, j ∉ D → j < A.next → B.row j = A.row j) (k4 : ∀ j ∈ D', j ∈ D ∨ (A.next ≤ j ∧ j < B.next)) (hw : ∀ u ∈ new, k.wrap u = u) : NL H0 B e sz k v' (us ++ new) D' := by
  refine ⟨by rw [List.map_append]; exact k1, fun u hu => ?_, h.f.app k2 k3 fun j hj => (h.d j hj).1, fun j hj => ?_⟩
  · rcases List.mem_append.1 hu with g | g
    · exact h.w u g
    · exact hw u g
  · rcases k4 j hj with g | g
    · have := h.d j g; omega
    · have := h.f.1; omega
theorem ints_all {k : IntKind} (us : List Int) : (us.map (Value.int k)).all oneC = true := by simp [List.all_map, oneC]
theorem boundV_nat {m n : Nat} {k : IntKind} (h : n ≤ m) : boundV m (.int k (n : Int)) = some n := by simp [boundV, vNat, vInt, iNat, ble_nat.2 h]
/-- The rest of a list from a place on. -/
theorem slice_from {P : Program} {t e sz : Nat} {a : Option Addr} {len cap n : Nat} (hT : P.underlying t = some (.slice e)) (hs : sizeT P e = some sz) (ha : exactBase a = true) (hn : n ≤ len) (hc : len ≤ cap) :
    ∃ a', sliceA P t (.slice a len cap) (some (.int .i64 (n : Int))) none none = some (.slice a' (len - n) (cap - n)) ∧ exactBase a' = true ∧ (a = none → a' = none) ∧ ∀ b o, a = some ⟨b, o, none⟩ → len - n ≠ 0 → a' = some ⟨b, o + n * sz, none⟩ := by
  have hb := boundV_nat (k := .i64) hn
  simp only [sliceA, hT, Option.bind_some, sliceD, dString, cond_false, dSlice, hs, vSl, subSlice, bounds3, isNone, Bool.true_and, Bool.not_true, boundA, hb, Option.map_some]
  cases a with
  | none => exact ⟨none, rfl, rfl, fun _ => rfl, fun b o h => by cases h⟩
  | some x =>
    obtain ⟨b, o, sp⟩ := x
    cases sp with
    | some y => cases ha
    | none =>
      simp only [spotIs, cond_true, subBase, isNone, Option.map_some]
      refine ⟨_, rfl, rfl, (fun h => by cases h), fun b' o' h hne => ?_⟩
      cases h
      have : Nat.beq cap n = false := by
        cases hq : Nat.beq cap n with
        | false => rfl
        | true => have := Nat.eq_of_beq_eq_true hq; omega
      rw [this, cond_false]
/-- A list, as a package's function meets it. -/
theorem list_view {H : AHeap} {room : Md} {sz : Nat} {s : Sh} {cs : List Value} {o : Nat} {ns : List Int} {ss : List ByteArray} {D : List Nat} (h : Rd H room (.list sz s) cs o ns ss D) :
    ∃ a len cap, cs[o]? = some (.slice a len cap) ∧ len ≤ cap ∧ (room.r = true → exactBase a = true) ∧ len ≤ 1000000000 ∧ (len = 0 ∨ ∃ b off sp r, a = some ⟨b, off, sp⟩ ∧ b ∈ D ∧ H.row b = some r ∧ ∀ i, i < len → ∃ n1 s1 D1, Rd H room s r.cs (off + i * sz) n1 s1 D1) := by
  obtain ⟨a, len, cap, h1, ⟨h2, h2'⟩, h3, n1, rfl, h5⟩ := h
  have hle : len ≤ cnt room.r len cap := by unfold cnt; split <;> omega
  refine ⟨a, len, cap, h1, h2, h3, by omega, ?_⟩
  rcases h5 with ⟨h, -⟩ | ⟨b, off, sp, r, D', k1, k2, k3, rfl, k5⟩
  · exact .inl (by omega)
  · exact .inr ⟨b, off, sp, r, k1, List.mem_cons_self, k2, fun i hi => k5.at_ i (by omega)⟩
theorem Rd.numAt {H : AHeap} {room : Md} {k : IntKind} {cs : List Value} {o : Nat} {ns : List Int} {ss : List ByteArray} {D : List Nat} (h : Rd H room (.num k) cs o ns ss D) : ∃ v, cs[o]? = some (.int k v) ∧ k.wrap v = v := by
  obtain ⟨v, h1, h2, -⟩ := h
  exact ⟨v, h1, h2⟩
theorem no_res {E : Env} {tI tS tF : Nat} {H E1 : AHeap} (hk : Frh H E1) : ∃ L, ResV E1 tF (.slice none 0 0) L H.next E1.next ∧ ResAll E tI tS E1 H.next E1.next L ∧ H.next ≤ E1.next ∧ ∀ j, j < H.next → E1.row j = H.row j :=
  ⟨[], .inl ⟨rfl, rfl⟩, ⟨fun _ h => absurd h List.not_mem_nil, fun _ h => absurd h List.not_mem_nil, fun i k _ r q h => by simp at h, by simp⟩, hk.1, hk.2⟩
theorem one_res {E : Env} {tI tS tF : Nat} {H E1 : AHeap} {f : FuncId} {s : Sh} {ba bl : Nat} {ns : List Int} {ss : List ByteArray} {D : List Nat} (hx : E.ext f = none) (hs : SeeOK E tI tS f s) (ho : Own E1 ⟨false, true, false⟩ s ba ns ss D) (hb : H.next ≤ ba) (hD : ∀ j ∈ D, H.next ≤ j)
    (hl : E1.row bl = some ⟨tF, true, true, [.func (.func f) #[] #[.pointer (some ⟨ba, 0, none⟩)]]⟩) (h1 : H.next ≤ bl) (h2 : bl < E1.next) (h3 : bl ≠ ba) (h4 : bl ∉ D) (l1 : ns.length ≤ 1000000000) (l2 : ss.length ≤ 1000000000) (hk : Frh H E1) :
    ∃ L, ResV E1 tF (.slice (some ⟨bl, 0, none⟩) 1 1) L H.next E1.next ∧ ResAll E tI tS E1 H.next E1.next L ∧ H.next ≤ E1.next ∧ ∀ j, j < H.next → E1.row j = H.row j := by
  refine ⟨[⟨_, ns, ss, ba :: D⟩], .inr ⟨bl, rfl, hl, h1, h2, fun r hr => ?_⟩, ⟨fun r hr => ?_, fun r hr j hj => ?_, fun i k hik r q hi hq => ?_, by simp⟩, hk.1, hk.2⟩
  · simp only [List.mem_singleton] at hr
    subst hr
    intro h
    rcases List.mem_cons.1 h with h | h
    · exact h3 h
    · exact h4 h
  · simp only [List.mem_singleton] at hr
    subst hr
    exact ⟨⟨f, s, ba, D, rfl, hx, hs, ho, rfl⟩, l1, l2⟩
  · simp only [List.mem_singleton] at hr
    subst hr
    rcases List.mem_cons.1 hj with rfl | h
    · exact ⟨hb, ho.lb⟩
    · exact ⟨hD j h, ho.lD j h⟩
  · have e1 := (List.getElem?_eq_some_iff.1 hi).1
    have e2 := (List.getElem?_eq_some_iff.1 hq).1
    simp only [List.length_singleton] at e1 e2
    omega
theorem RdN.pairs {H : AHeap} {room : Md} {k : IntKind} : ∀ {n : Nat} {us : List Int} {pre : List Value}, us.length = n * 2 → (∀ u ∈ us, k.wrap u = u) → RdN (Rd H room (.fld 0 (.num k) (.fld 1 (.num k) .nil))) (pre ++ us.map (Value.int k)) 2 n pre.length (us.map IntKind.i64.wrap) [] []
  | 0, us, pre, hl, _ => by
    have : us = [] := List.length_eq_zero_iff.1 (by omega)
    subst this; exact ⟨rfl, rfl, rfl⟩
  | n + 1, us, pre, hl, h => by
    match us, hl with
    | x :: y :: r, hl =>
      simp only [List.length_cons] at hl
      refine ⟨[IntKind.i64.wrap x, IntKind.i64.wrap y], [], [], r.map IntKind.i64.wrap, [], [], ⟨[_], [], [], [_], [], [], ⟨x, ?_, h x (by simp), rfl, rfl, rfl⟩, ⟨[_], [], [], [], [], [], ⟨y, ?_, h y (by simp), rfl, rfl, rfl⟩, ⟨rfl, rfl, rfl⟩, rfl, rfl, rfl⟩, rfl, rfl, rfl⟩, ?_, rfl, rfl, rfl⟩
      · rw [List.getElem?_append_right (by omega)]; simp
      · rw [List.getElem?_append_right (by omega)]; simp
      · have := RdN.pairs (H := H) (room := room) (k := k) (n := n) (us := r) (pre := pre ++ [.int k x, .int k y]) (by omega) (fun u hu => h u (by simp [hu]))
        simpa using this
    | [x], hl => simp only [List.length_cons, List.length_nil] at hl; omega
    | [], hl => simp at hl
theorem KD.alloc {E : Env} {R : DR} {N : Nat} {ord : List Nat} {l : Kn} {H : AHeap} {past : List AHeap} {done : Nat} {hs : List Nat} {Q : Kn → AHeap → Nat → List Nat → Prop} {i : Nat} {ty : TypeId} {ps : String} {af : Array Edge} {g : Option (Nat × Bool)} {d e : Nat} {z : List Value} (done' : Nat) (hz : zeroT E.P e = some z)
    (ho : R.ops[i]? = some ⟨some d, .alloc e, ty, ps, af, g⟩) (hk : stepOk R i ⟨some d, .alloc e, ty, ps, af, g⟩ done hs = true) (hw : kwant R.ops l ⟨some d, .alloc e, ty, ps, af, g⟩ = some true) (hd : Nat.blt d N = true) (hdone : Nat.lor done (2 ^ i) = done')
    (h : ∀ H1, Upd H H1 (R.base + i) ⟨e, true, true, z⟩ → KD E R N ord ((d, .pointer (some ⟨R.base + i, 0, none⟩)) :: l) H1 past done' hs Q) : KD E R N (i :: ord) l H past done hs Q := by
  obtain ⟨H1, u1, p1⟩ := PX.alloc (l := l) (H := ⟨R.base + i, H.objs⟩) hz
  exact KD.new done' u1 p1 ho rfl rfl hk hw hd hdone h
theorem KD.makeSlice {E : Env} {R : DR} {N : Nat} {ord : List Nat} {l : Kn} {H : AHeap} {past : List AHeap} {done : Nat} {hs : List Nat} {Q : Kn → AHeap → Nat → List Nat → Prop} {i : Nat} {ty : TypeId} {ps : String} {af : Array Edge} {g : Option (Nat × Bool)} {d t e sz n c : Nat} {z : List Value} {a b : Operand} {k k' : IntKind} (done' : Nat) (ht : elemT E.P t = some e) (hz : elemZ E.P e = some (sz, z)) (hs1 : smallBytes E.P e = true) (ha : kval E.G l a = some (.int k (n : Nat))) (hb : kval E.G l b = some (.int k' (c : Nat))) (hn : n ≤ c) (hc : c ≤ 1000000000)
    (ho : R.ops[i]? = some ⟨some d, .makeSlice t a b, ty, ps, af, g⟩) (hk : stepOk R i ⟨some d, .makeSlice t a b, ty, ps, af, g⟩ done hs = true) (hw : kwant R.ops l ⟨some d, .makeSlice t a b, ty, ps, af, g⟩ = some true) (hd : Nat.blt d N = true) (hdone : Nat.lor done (2 ^ i) = done')
    (h : ∀ H1, Upd H H1 (R.base + i) ⟨e, true, true, zerosFor z c⟩ → KD E R N ord ((d, .slice (some ⟨R.base + i, 0, none⟩) n c) :: l) H1 past done' hs Q) : KD E R N (i :: ord) l H past done hs Q := by
  obtain ⟨H1, u1, p1⟩ := PX.makeSlice (l := l) (H := ⟨R.base + i, H.objs⟩) ht hz ha hb hn hs1 hc
  exact KD.new done' u1 p1 ho rfl rfl hk hw hd hdone h
end Go.Eng

/- From the reading of an argument to the abstract memory. -/
namespace Go.Eng
open Go

/-- A shape tells a type. -/
def Fits (P : Program) : Sh → TypeId → Prop
  | .num k, t => P.underlying t = some (.int k)
  | .bool, t => P.underlying t = some .bool
  | .str, t => P.underlying t = some .string
  | .list sz s, t => ∃ e, P.underlying t = some (.slice e) ∧ P.cellsOf e = sz ∧ 0 < sz ∧ (∀ i, i < sz → i ∈ s.cells) ∧ (∀ i ∈ s.cells, i < sz) ∧ (Fits P s e ∨ ∃ gs : Array Field, P.underlying e = some (.struct gs) ∧ go s gs.toList 0 (P.cellsOf e))
  | .nil, _ => False
  | .fld _ _ _, _ => False
  where
  /-- A row of fields from a place on, without gaps. -/
  go : Sh → List Field → Nat → Nat → Prop
  | .nil, fs, o, n => fs = [] ∧ o = n
  | .fld off s r, fs, o, n => ∃ f fs', fs = f :: fs' ∧ f.offset = o ∧ off = o ∧ go r fs' (o + P.cellsOf f.type) n ∧ (Fits P s f.type ∨ ∃ gs : Array Field, P.underlying f.type = some (.struct gs) ∧ go s gs.toList 0 (P.cellsOf f.type))
  | _, _, _, _ => False
/-- A type of a shape: plain, or a struct. -/
def FitsT (P : Program) (s : Sh) (t : TypeId) : Prop := Fits P s t ∨ ∃ gs : Array Field, P.underlying t = some (.struct gs) ∧ Fits.go P s gs.toList 0 (P.cellsOf t)

/-- What is asked of a measure of data. -/
structure Msr {H : Type} (B : DataW H → Nat) : Prop where
  one : ∀ d, 1 ≤ B d
  sl : ∀ e s, 1 + (e.map B).sum ≤ B (.slice e s)
  agg : ∀ p, (p.map B).sum ≤ B (.agg p)

/-- Views alone: nothing is owned. -/
def Vws (H : AHeap) : Prop := ∀ i o, H.get i = some o → owned o = false
theorem view_row {G : Nat} {φ : Emb} {H : AHeap} {w : World} (h : HRel G φ H w) (hv : Vws H) {b shift : Nat} {C : Array Value} {e : TypeId} {fr : Nat × Nat} {cs : List Value} (hb : w.heap[b]? = some (.cells C e fr)) (hl : shift + cs.length ≤ C.size) (hz : ∀ k, k < cs.length → ¬ (fr.1 ≤ shift + k ∧ shift + k < fr.2)) (hc : LRel φ cs ((C.toList.drop shift).take cs.length)) :
    ∃ φ' H', HRel G φ' H' w ∧ Vws H' ∧ φ.le φ' ∧ H'.next = H.next + 1 ∧ H'.row H.next = some ⟨e, true, false, cs⟩ ∧ (∀ j, j < H.next → H'.row j = H.row j) ∧ φ' H.next = ⟨b, shift, C.size⟩ ∧ φ'.dom H.next := by
  have hle : φ.le (extEmb φ H.next ⟨b, shift, C.size⟩) := extEmb_le h.notNext
  have hsame : ∀ i p, H.get i = some p → extEmb φ H.next ⟨b, shift, C.size⟩ i = φ i := fun i p hi => hle.loc i (h.obj i p hi).1
  refine ⟨extEmb φ H.next ⟨b, shift, C.size⟩, H.new (.cells e true false cs), ⟨fun g hg => ?_, ?_, ?_, ?_⟩, ?_, hle, rfl, ?_, ?_, extEmb_self, extEmb_dom⟩
  · obtain ⟨h1, h2⟩ := h.glob g hg
    rw [hle.loc g h1]; exact ⟨.inl h1, h2⟩
  · intro i hi
    simp only [AHeap.next_new]
    rcases hi with hi | rfl
    · have := h.lt i hi; omega
    · omega
  · intro i p hi
    rw [AHeap.get_new] at hi
    split at hi
    · rename_i e1
      subst e1
      obtain rfl : AObj.cells e true false cs = p := by simpa using hi
      refine ⟨extEmb_dom, _, by rw [extEmb_self]; exact hb, ?_⟩
      rw [extEmb_self]
      exact .cells rfl hl (hc.mono hle) (fun x => by cases x) (fun _ => hz)
    · rw [hsame i p hi]
      obtain ⟨hd, ob, hob, hr⟩ := h.obj i p hi
      exact ⟨.inl hd, ob, hob, hr.mono hle⟩
  · intro i j p q hi hj hij hp
    exfalso
    rw [AHeap.get_new] at hi
    split at hi
    · obtain rfl : AObj.cells e true false cs = p := by simpa using hi
      cases hp
    · rw [hv i p hi] at hp; cases hp
  · intro i o hi
    rw [AHeap.get_new] at hi
    split at hi
    · obtain rfl : AObj.cells e true false cs = o := by simpa using hi
      rfl
    · exact hv i o hi
  · rw [row_new, if_pos rfl]; rfl
  · intro j hj
    rw [row_new, if_neg (by omega)]
/-- Nothing that was there has changed, when only views were known. -/
theorem views_below {φ φ' : Emb} {H H' : AHeap} {w w' : World} (hv : Vws H) (h : Later φ H w φ' H' w') : RowKit.Below w.heap.size w w' :=
  ⟨h.os, h.tape, h.output, h.size, fun k hk => h.same k hk (by rintro ⟨i, o, hi, ho, _⟩; rw [hv i o hi] at ho; cases ho)⟩

section
variable {K : Type} {enc : TypeId × Value → K} {P : Program} {w : World} {base : Nat} {spare : Nat → Bool} {held : Bool} {B : DataW K → Nat}
theorem int_wrap_wf {k : IntKind} {n : Int} (h : (Lit.int k n).wf = true) : k.wrap n = n := by
  cases k <;> simp [Lit.wf, IntKind.min, IntKind.max, IntKind.bits, IntKind.signed, IntKind.wrap] at h ⊢ <;> omega
theorem sum_map_cons {α : Type} {f : α → Nat} {x : α} {l : List α} : ((x :: l).map f).sum = f x + (l.map f).sum := by simp
/-- What a flat datum reads as. -/
theorem flat_rd (hB : Msr B) : ∀ {s : Sh}, s.flat = true →
    (∀ {t : TypeId}, Fits P s t → ∀ {fuel : Nat} {cs : List Value} {x : DataW K × List MemPlace}, DataW.trod enc P w base spare held fuel t cs = some x → ∃ ns ss, (∀ H m, Rd H m s cs 0 ns ss []) ∧ ns.length + ss.length ≤ B x.1) ∧
    (∀ {fs : List Field} {o n : Nat}, Fits.go P s fs o n → ∀ {fuel : Nat} {cs : List Value} {xs : List (DataW K × List MemPlace)}, xs.length = fs.length → (∀ (i : Nat) (f : Field), fs[i]? = some f → DataW.trod enc P w base spare held fuel f.type ((cs.drop f.offset).take (P.cellsOf f.type)) = xs[i]?) →
      ∃ ns ss, (∀ H m, Rd H m s cs 0 ns ss []) ∧ ns.length + ss.length ≤ (xs.map fun x => B x.1).sum)
  | .num k, _ => ⟨fun ht => fun h => by
      obtain ⟨n, rfl, rfl, hw⟩ := DataW.trod_int ht h
      exact ⟨_, _, fun H m => ⟨n, rfl, int_wrap_wf hw, rfl, rfl, rfl⟩, hB.one _⟩, fun h => by cases h⟩
  | .bool, _ => ⟨fun ht => fun h => by
      obtain ⟨b, rfl, rfl⟩ := DataW.trod_bool ht h
      exact ⟨_, _, fun H m => ⟨b, rfl, rfl, rfl, rfl⟩, hB.one _⟩, fun h => by cases h⟩
  | .str, _ => ⟨fun ht => fun h => by
      obtain ⟨b, rfl, rfl, -⟩ := DataW.trod_string ht h
      exact ⟨_, _, fun H m => ⟨b, rfl, rfl, rfl, rfl⟩, hB.one _⟩, fun h => by cases h⟩
  | .list _ _, hs => by cases hs
  | .nil, _ => ⟨(fun h => by cases h), fun {fs o n} h => fun {fuel cs xs} hl _ => ⟨[], [], fun H m => ⟨rfl, rfl, rfl⟩, by simp⟩⟩
  | .fld off s r, hs => by
    simp only [Sh.flat, Bool.and_eq_true] at hs
    obtain ⟨i1, i2⟩ := flat_rd hB hs.1
    obtain ⟨-, j2⟩ := flat_rd hB hs.2
    refine ⟨(fun h => by cases h), fun {fs o n} h => fun {fuel cs xs} hl hx => ?_⟩
    obtain ⟨f, fs', rfl, hfo, rfl, hr, hf⟩ := h
    match xs, hl with
    | x :: xs', hl =>
      have h0 : DataW.trod enc P w base spare held fuel f.type ((cs.drop f.offset).take (P.cellsOf f.type)) = some x := hx 0 f rfl
      have h1 : ∃ ns ss, (∀ H m, Rd H m s ((cs.drop f.offset).take (P.cellsOf f.type)) 0 ns ss []) ∧ ns.length + ss.length ≤ B x.1 := by
        rcases hf with hf | ⟨gs, hu, hg⟩
        · exact i1 hf h0
        · obtain ⟨ys, m, rfl, rfl, hlen, hyl, hy⟩ := DataW.trod_struct hu h0
          obtain ⟨ns, ss, k1, k2⟩ := i2 hg (by simpa using hyl) (fun i f hf => hy i f (by simpa using hf))
          refine ⟨ns, ss, k1, Nat.le_trans k2 ?_⟩
          have := hB.agg (ys.map (·.1))
          rw [List.map_map] at this
          exact this
      obtain ⟨n1, s1, k1, k2⟩ := h1
      obtain ⟨n2, s2, k3, k4⟩ := j2 hr (xs := xs') (by simpa using hl) (fun i f hf => hx (i + 1) f hf)
      refine ⟨n1 ++ n2, s1 ++ s2, fun H m => ⟨n1, s1, [], n2, s2, [], ?_, k3 H m, rfl, rfl, rfl⟩, ?_⟩
      · refine ((k1 H m).flatten hs.1).2 H m cs (0 + off) fun i hi => ?_
        obtain ⟨v, hv, -⟩ := (k1 H m).cell i hi
        rw [hv]
        rw [Nat.zero_add] at hv
        rw [List.getElem?_take] at hv
        split at hv
        · rw [List.getElem?_drop, hfo] at hv
          rw [Nat.zero_add]; exact hv
        · cases hv
      · simp only [List.length_append, List.map_cons, List.sum_cons]; omega
/-- A flat datum of any type. -/
theorem flat_rdT (hB : Msr B) {s : Sh} (hs : s.flat = true) {t : TypeId} (ht : Fits P s t ∨ ∃ gs : Array Field, P.underlying t = some (.struct gs) ∧ Fits.go P s gs.toList 0 (P.cellsOf t)) {fuel : Nat} {cs : List Value} {x : DataW K × List MemPlace} (h : DataW.trod enc P w base spare held fuel t cs = some x) : ∃ ns ss, (∀ H m, Rd H m s cs 0 ns ss []) ∧ ns.length + ss.length ≤ B x.1 := by
  rcases ht with hf | ⟨gs, hu, hg⟩
  · exact (flat_rd hB hs).1 hf h
  · obtain ⟨ys, m, rfl, rfl, hlen, hyl, hy⟩ := DataW.trod_struct hu h
    obtain ⟨ns, ss, k1, k2⟩ := (flat_rd hB hs).2 hg (by simpa using hyl) (fun i f hf => hy i f (by simpa using hf))
    refine ⟨ns, ss, k1, Nat.le_trans k2 ?_⟩
    have := hB.agg (ys.map (·.1))
    rw [List.map_map] at this
    exact this
/-- The cells of a flat datum hold no address. -/
theorem Rd.plainAt {H : AHeap} {m : Md} : ∀ {s : Sh} {cs : List Value} {o : Nat} {ns : List Int} {ss : List ByteArray} {D : List Nat}, s.flat = true → Rd H m s cs o ns ss D → ∀ i ∈ s.cells, ∃ v, cs[o + i]? = some v ∧ plain v = true
  | .num k, cs, o, ns, ss, D, _, h, i, hi => by
    obtain ⟨v, h1, -⟩ := h
    simp only [Sh.cells, List.mem_singleton] at hi
    subst hi; exact ⟨_, h1, rfl⟩
  | .bool, cs, o, ns, ss, D, _, h, i, hi => by
    obtain ⟨v, h1, -⟩ := h
    simp only [Sh.cells, List.mem_singleton] at hi
    subst hi; exact ⟨_, h1, rfl⟩
  | .str, cs, o, ns, ss, D, _, h, i, hi => by
    obtain ⟨v, h1, -⟩ := h
    simp only [Sh.cells, List.mem_singleton] at hi
    subst hi; exact ⟨_, h1, rfl⟩
  | .list _ _, _, _, _, _, _, hf, _, _, _ => by cases hf
  | .nil, _, _, _, _, _, _, _, i, hi => by cases hi
  | .fld off s r, cs, o, ns, ss, D, hf, h, i, hi => by
    simp only [Sh.flat, Bool.and_eq_true] at hf
    obtain ⟨n1, s1, D1, n2, s2, D2, h1, h2, -⟩ := h
    simp only [Sh.cells, List.mem_append, List.mem_map] at hi
    rcases hi with ⟨k, hk, rfl⟩ | hi
    · have := Rd.plainAt hf.1 h1 k hk
      rw [Nat.add_assoc] at this; exact this
    · exact Rd.plainAt hf.2 h2 i hi
theorem RdN.range {R : Rdr} {cs : List Value} {sz o : Nat} {f : Nat → Nat} : ∀ {n : Nat}, (∀ i, i < n → ∃ ns ss, R cs (o + i * sz) ns ss [] ∧ ns.length + ss.length ≤ f i) → ∃ ns ss, RdN R cs sz n o ns ss [] ∧ ns.length + ss.length ≤ ((List.range n).map f).sum
  | 0, _ => ⟨[], [], ⟨rfl, rfl, rfl⟩, by simp⟩
  | n + 1, h => by
    obtain ⟨n1, s1, k1, k2⟩ := RdN.range (n := n) fun i hi => h i (Nat.lt_succ_of_lt hi)
    obtain ⟨n2, s2, k3, k4⟩ := h n (Nat.lt_succ_self n)
    refine ⟨n1 ++ n2, s1 ++ s2, k1.snoc k3, ?_⟩
    rw [List.range_succ, List.map_append, List.sum_append]
    simp only [List.length_append, List.map_cons, List.map_nil, List.sum_cons, List.sum_nil]; omega
theorem lrel_plain {φ : Emb} : ∀ {cs : List Value}, cs.all plain = true → LRel φ cs cs
  | [], _ => .nil
  | v :: r, h => by
    simp only [List.all_cons, Bool.and_eq_true] at h
    exact .cons (.base h.1) (lrel_plain h.2)
theorem view_id {G : Nat} {φ : Emb} {H : AHeap} (h : HRel G φ H w) (L : Loc) : HRel G (extEmb φ H.next L) ⟨H.next + 1, H.objs⟩ w := by
  have hle : φ.le (extEmb φ H.next L) := extEmb_le h.notNext
  have hsame : ∀ i p, H.get i = some p → extEmb φ H.next L i = φ i := fun i p hi => hle.loc i (h.obj i p hi).1
  refine ⟨fun g hg => ?_, fun i hi => ?_, fun i p hi => ?_, fun i j p q hi hj hij hp => ?_⟩
  · obtain ⟨h1, h2⟩ := h.glob g hg
    rw [hle.loc g h1]; exact ⟨.inl h1, h2⟩
  · rcases hi with hi | rfl
    · have := h.lt i hi; exact Nat.lt_succ_of_lt this
    · exact Nat.lt_succ_self _
  · rw [hsame i p hi]
    obtain ⟨hd, ob, hob, hr⟩ := h.obj i p hi
    exact ⟨.inl hd, ob, hob, hr.mono hle⟩
  · rw [hsame i p hi, hsame j q hj]
    exact h.inj i j p q hi hj hij hp
/-- What is found for a part of an argument. -/
def VR (_B : DataW K → Nat) (G : Nat) (w : World) (s : Sh) (cs : List Value) (bd : Nat) : Prop :=
  ∀ φ H, HRel G φ H w → Vws H → ∃ φ' H' acs ns ss D, HRel G φ' H' w ∧ Vws H' ∧ φ.le φ' ∧ H.next ≤ H'.next ∧ (∀ j, j < H.next → H'.row j = H.row j) ∧ LRel φ' acs cs ∧ acs.all oneC = true ∧ Rd H' ⟨false, true, true⟩ s acs 0 ns ss D ∧ (∀ j ∈ D, j < H'.next) ∧ ns.length + ss.length ≤ bd
theorem LRel.len {φ : Emb} : ∀ {a b : List Value}, LRel φ a b → a.length = b.length
  | _, _, .nil => rfl
  | _, _, .cons _ h => by simp only [List.length_cons, LRel.len h]
theorem LRel.app {φ : Emb} : ∀ {a b c d : List Value}, LRel φ a b → LRel φ c d → LRel φ (a ++ c) (b ++ d)
  | _, _, _, _, .nil, h => h
  | _, _, _, _, .cons k l, h => .cons k (LRel.app l h)
/-- Lists of flat data. -/
theorem list_vr (hB : Msr B) {G : Nat} {sz : Nat} {s : Sh} (hs : s.flat = true) {t : TypeId} (ht : Fits P (.list sz s) t) {fuel : Nat} {cs : List Value} {x : DataW K × List MemPlace} (h : DataW.trod enc P w base spare held fuel t cs = some x) (hsp : ∀ a l c, cs = [.slice (some a) l c] → a.spot = none) (hz : w.noneFrozen x.2) (hbd : B x.1 ≤ 1000000000) : VR B G w (.list sz s) cs (B x.1) := by
  intro φ H hH hV
  obtain ⟨e, he, hsz, hsz0, hfull, hin, hfe⟩ := ht
  rcases Deep.open_slice he h with ⟨rfl, rfl⟩ | ⟨a, len, cap, m, n, D, Pl, rfl, hb, hlc, hmx, hm, rfl, hel⟩
  · exact ⟨φ, H, _, [0], [], [], hH, hV, φ.le_refl, Nat.le_refl _, fun _ _ => rfl, .cons (.base rfl) .nil, rfl, ⟨none, 0, 0, rfl, ⟨Nat.le_refl _, by decide⟩, (fun h => by cases h), [], rfl, .inl ⟨rfl, rfl, rfl, rfl⟩⟩, fun _ h => absurd h List.not_mem_nil, by simpa using hB.one DataW.nil⟩
  · have hspot := hsp a len cap rfl
    dsimp only at hbd
    obtain ⟨ab, ao, asp⟩ := a
    simp only at hspot
    subst hspot
    have hml : len ≤ m := by rw [hm]; split <;> omega
    have hbs := hB.sl ((List.range len).map D) ((List.range (m - len)).map fun j => D (len + j))
    have hlen1 : len ≤ 1000000000 := by
      have : len ≤ (((List.range len).map D).map B).sum := by
        have : ∀ l : List (DataW K), l.length ≤ (l.map B).sum := by
          intro l
          induction l with
          | nil => simp
          | cons y r ih => have := hB.one y; simp only [List.length_cons, List.map_cons, List.sum_cons]; omega
        simpa using this ((List.range len).map D)
      omega
    by_cases h0 : len = 0
    · subst h0
      refine ⟨_, _, [.slice (some ⟨H.next, ao, none⟩) 0 cap], [0], [], [], view_id hH ⟨ab, 0, 0⟩, hV, extEmb_le hH.notNext, Nat.le_succ _, fun _ _ => rfl, .cons ?_ .nil, rfl, ⟨_, 0, cap, rfl, ⟨Nat.zero_le _, show 0 ≤ 1000000000 from Nat.zero_le _⟩, (fun h => by cases h), [], rfl, .inl ⟨rfl, rfl, rfl, rfl⟩⟩, fun _ h => absurd h List.not_mem_nil, by simpa using hB.one _⟩
      have := VRel.sl (φ := extEmb φ H.next ⟨ab, 0, 0⟩) (i := H.next) (o := ao) (l := 0) (c := cap) extEmb_dom
      rw [extEmb_self] at this
      simpa using this
    · -- the row of the block
      have hcell : ∀ i, i < len → ∀ j, j < sz → w.cell? ⟨ab, ao + i * sz + j, none⟩ ≠ none := by
        intro i hi j hj hn
        obtain ⟨cs', h1, h2⟩ := hel i (by omega)
        obtain ⟨-, hl', hc'⟩ := World.cells?_some h1
        rw [hsz] at hl' hc'
        have := hc' j hj
        have e : ((Addr.add ⟨ab, ao, none⟩ (i * sz)).add j) = ⟨ab, ao + i * sz + j, none⟩ := by
          unfold Addr.add
          by_cases q1 : i * sz = 0 <;> by_cases q2 : j = 0 <;> simp [q1, q2]
        rw [e, hn, List.getElem?_eq_getElem (by omega)] at this
        cases this
      obtain ⟨C, ce, fr, hC⟩ : ∃ C ce fr, w.heap[ab]? = some (.cells C ce fr) := by
        have := hcell 0 (by omega) 0 hsz0
        unfold World.cell? at this
        simp only at this
        split at this
        · rename_i C ce fr hq; exact ⟨C, ce, fr, hq⟩
        · exact absurd rfl this
      have hget : ∀ off, w.cell? ⟨ab, off, none⟩ = C[off]? := fun off => by simp [World.cell?, hC]
      have hbig : ao + len * sz ≤ C.size := by
        have := hcell (len - 1) (by omega) (sz - 1) (by omega)
        rw [hget] at this
        have hlt : ao + (len - 1) * sz + (sz - 1) < C.size := by
          by_cases hq : ao + (len - 1) * sz + (sz - 1) < C.size
          · exact hq
          · exact absurd (Array.getElem?_eq_none (by omega)) this
        have e : (len - 1) * sz + sz = len * sz := by
          obtain ⟨q, rfl⟩ : ∃ q, len = q + 1 := ⟨len - 1, by omega⟩
          simp [Nat.add_mul]
        omega
      -- the elements
      have hes : ∀ i, i < len → ∃ ns ss, (∀ H m, Rd H m s ((C.toList.drop ao).take (len * sz)) (0 + i * sz) ns ss []) ∧ ns.length + ss.length ≤ B (D i) := by
        intro i hi
        obtain ⟨cs', h1, h2⟩ := hel i (by omega)
        obtain ⟨-, hl', hc'⟩ := World.cells?_some h1
        rw [hsz] at hl' hc'
        obtain ⟨ns, ss, k1, k2⟩ := flat_rdT hB hs hfe h2
        refine ⟨ns, ss, fun H m => ((k1 H m).flatten hs).2 H m _ _ fun j hj => ?_, k2⟩
        have hj' := hin j hj
        have := hc' j hj'
        have e : ((Addr.add ⟨ab, ao, none⟩ (i * sz)).add j) = ⟨ab, ao + i * sz + j, none⟩ := by
          unfold Addr.add
          by_cases q1 : i * sz = 0 <;> by_cases q2 : j = 0 <;> simp [q1, q2]
        rw [e, hget] at this
        have hlt2 : i * sz + j < len * sz := by
          have : (i + 1) * sz ≤ len * sz := Nat.mul_le_mul_right sz hi
          rw [Nat.add_mul] at this; omega
        rw [Nat.zero_add, Nat.zero_add, List.getElem?_take_of_lt hlt2, List.getElem?_drop, ← this, Array.getElem?_toList, Nat.add_assoc]
      have hacl : ((C.toList.drop ao).take (len * sz)).length = len * sz := by rw [List.length_take, List.length_drop, Array.length_toList]; omega
      have hpl : ((C.toList.drop ao).take (len * sz)).all plain = true := by
        refine List.all_eq_true.2 fun v hv => ?_
        obtain ⟨i, hi, rfl⟩ := List.mem_iff_getElem.1 hv
        rw [hacl] at hi
        have hk : i / sz < len := (Nat.div_lt_iff_lt_mul hsz0).2 hi
        obtain ⟨ns, ss, k1, -⟩ := hes (i / sz) hk
        obtain ⟨v, h1, h2⟩ := Rd.plainAt hs (k1 H ⟨false, false, false⟩) (i % sz) (hfull _ (Nat.mod_lt _ hsz0))
        have e : 0 + i / sz * sz + i % sz = i := by
          have := Nat.div_add_mod i sz
          rw [Nat.mul_comm] at this; omega
        rw [e] at h1
        have := (List.getElem?_eq_some_iff.1 h1).2
        rw [this]; exact h2
      have hunf : ∀ k, k < ((C.toList.drop ao).take (len * sz)).length → ¬ (fr.1 ≤ ao + k ∧ ao + k < fr.2) := by
        intro k hk
        rw [hacl] at hk
        have hmk : len * sz ≤ m * sz := Nat.mul_le_mul_right sz hml
        have := hz ab (ao + k) (List.mem_append_left _ (MemPlace.mem_row.2 ⟨k, by rw [hsz]; omega, rfl⟩))
        obtain ⟨lo, hi⟩ := fr
        simp only [World.frozen?, hC, Bool.and_eq_false_iff, decide_eq_false_iff_not] at this
        simp only; omega
      obtain ⟨φ', H', r1, r2, r3, r4, r5, r6, r7, r8⟩ := view_row hH hV (b := ab) (shift := ao) (cs := (C.toList.drop ao).take (len * sz)) hC (by rw [hacl]; exact hbig) hunf (by rw [hacl]; exact lrel_plain hpl)
      obtain ⟨ns1, ss1, k3, k4⟩ := RdN.range (R := Rd H' ⟨false, true, true⟩ s) (cs := (C.toList.drop ao).take (len * sz)) (sz := sz) (o := 0) (f := fun i => B (D i)) (n := len) (fun i hi => by
        obtain ⟨ns, ss, q1, q2⟩ := hes i hi
        exact ⟨ns, ss, q1 H' _, q2⟩)
      refine ⟨φ', H', [.slice (some ⟨H.next, 0, none⟩) len cap], (len : Int) :: ns1, ss1, [H.next], r1, r2, r3, by omega, r6, .cons ?_ .nil, rfl, ⟨_, len, cap, rfl, ⟨hlc, hlen1⟩, (fun h => by cases h), ns1, rfl, .inr ⟨H.next, 0, none, _, [], rfl, r5, (fun _ => .inr ⟨rfl, rfl⟩), rfl, k3⟩⟩, fun j hj => ?_, ?_⟩
      · have := VRel.sl (φ := φ') (i := H.next) (o := 0) (l := len) (c := cap) r8
        rw [r7] at this
        simpa using this
      · simp only [List.mem_singleton] at hj; omega
      · rw [List.map_map] at hbs
        simp only [List.length_cons]
        have e : ((List.range len).map (B ∘ D)).sum = ((List.range len).map fun i => B (D i)).sum := rfl
        rw [e] at hbs
        omega
end
end Go.Eng

/- A whole argument. -/
namespace Go.Eng
open Go
/-- Lists hold flat data alone. -/
def Sh.lev : Sh → Bool
  | .num _ | .bool | .str | .nil => true
  | .list _ s => s.flat
  | .fld _ s r => s.lev && r.lev
section
variable {K : Type} {enc : TypeId × Value → K} {P : Program} {w : World} {base : Nat} {spare : Nat → Bool} {held : Bool} {B : DataW K → Nat}
theorem go_le : ∀ {s : Sh} {fs : List Field} {o n : Nat}, Fits.go P s fs o n → o ≤ n
  | .nil, _, _, _, h => by obtain ⟨-, rfl⟩ := h; exact Nat.le_refl _
  | .fld _ _ r, _, o, n, h => by
    obtain ⟨f, fs', -, -, -, hr, -⟩ := h
    have := go_le hr
    omega
  | .num _, _, _, _, h => by cases h
  | .bool, _, _, _, h => by cases h
  | .str, _, _, _, h => by cases h
  | .list _ _, _, _, _, h => by cases h
/-- Slices lead to plain places. -/
def Spots (cs : List Value) : Prop := ∀ a l c, Value.slice (some a) l c ∈ cs → a.spot = none
theorem any_vr (hB : Msr B) {G : Nat} : ∀ {s : Sh}, s.lev = true →
    (∀ {t : TypeId}, Fits P s t → ∀ {fuel : Nat} {cs : List Value} {x : DataW K × List MemPlace}, DataW.trod enc P w base spare held fuel t cs = some x → Spots cs → w.noneFrozen x.2 → B x.1 ≤ 1000000000 → VR B G w s cs (B x.1)) ∧
    (∀ {fs : List Field} {o n : Nat}, Fits.go P s fs o n → ∀ {fuel : Nat} {cs : List Value} {xs : List (DataW K × List MemPlace)}, cs.length = n → xs.length = fs.length → (∀ (i : Nat) (f : Field), fs[i]? = some f → DataW.trod enc P w base spare held fuel f.type ((cs.drop f.offset).take (P.cellsOf f.type)) = xs[i]?) → Spots cs →
      (∀ y ∈ xs, w.noneFrozen y.2) → (xs.map fun x => B x.1).sum ≤ 1000000000 → ∀ φ H, HRel G φ H w → Vws H → ∃ φ' H' acs ns ss D, HRel G φ' H' w ∧ Vws H' ∧ φ.le φ' ∧ H.next ≤ H'.next ∧ (∀ j, j < H.next → H'.row j = H.row j) ∧ LRel φ' acs (cs.drop o) ∧ acs.all oneC = true ∧
        (∀ pre : List Value, pre.length = o → Rd H' ⟨false, true, true⟩ s (pre ++ acs) 0 ns ss D) ∧ (∀ j ∈ D, j < H'.next) ∧ ns.length + ss.length ≤ (xs.map fun x => B x.1).sum)
  | .num k, _ => ⟨fun ht => fun h _ _ _ => by
      obtain ⟨n, rfl, rfl, hw⟩ := DataW.trod_int ht h
      exact fun φ H hH hV => ⟨φ, H, _, _, _, [], hH, hV, φ.le_refl, Nat.le_refl _, fun _ _ => rfl, .cons (.base rfl) .nil, rfl, ⟨n, rfl, int_wrap_wf hw, rfl, rfl, rfl⟩, fun _ h => absurd h List.not_mem_nil, hB.one _⟩, fun h => by cases h⟩
  | .bool, _ => ⟨fun ht => fun h _ _ _ => by
      obtain ⟨b, rfl, rfl⟩ := DataW.trod_bool ht h
      exact fun φ H hH hV => ⟨φ, H, _, _, _, [], hH, hV, φ.le_refl, Nat.le_refl _, fun _ _ => rfl, .cons (.base rfl) .nil, rfl, ⟨b, rfl, rfl, rfl, rfl⟩, fun _ h => absurd h List.not_mem_nil, hB.one _⟩, fun h => by cases h⟩
  | .str, _ => ⟨fun ht => fun h _ _ _ => by
      obtain ⟨b, rfl, rfl, -⟩ := DataW.trod_string ht h
      exact fun φ H hH hV => ⟨φ, H, _, _, _, [], hH, hV, φ.le_refl, Nat.le_refl _, fun _ _ => rfl, .cons (.base rfl) .nil, rfl, ⟨b, rfl, rfl, rfl, rfl⟩, fun _ h => absurd h List.not_mem_nil, hB.one _⟩, fun h => by cases h⟩
  | .list sz s, hs => ⟨fun ht => fun h hsp hz hbd => list_vr hB hs ht h (fun a l c e => hsp a l c (by rw [e]; exact List.mem_singleton_self _)) hz hbd, fun h => by cases h⟩
  | .nil, _ => ⟨(fun h => by cases h), fun {fs o n} h => fun {fuel cs xs} hcl hl _ _ _ _ φ H hH hV => by
      obtain ⟨rfl, rfl⟩ := h
      refine ⟨φ, H, [], [], [], [], hH, hV, φ.le_refl, Nat.le_refl _, fun _ _ => rfl, ?_, rfl, fun _ _ => ⟨rfl, rfl, rfl⟩, fun _ h => absurd h List.not_mem_nil, by simp⟩
      rw [← hcl, List.drop_length]; exact .nil⟩
  | .fld off s r, hs => by
    simp only [Sh.lev, Bool.and_eq_true] at hs
    obtain ⟨i1, i2⟩ := any_vr hB (G := G) hs.1
    obtain ⟨-, j2⟩ := any_vr hB (G := G) hs.2
    refine ⟨(fun h => by cases h), fun {fs o n} h => fun {fuel cs xs} hcl hl hx hsp hz hbd φ H hH hV => ?_⟩
    obtain ⟨f, fs', rfl, hfo, rfl, hr, hf⟩ := h
    have hle := go_le hr
    match xs, hl with
    | x :: xs', hl =>
      simp only [List.map_cons, List.sum_cons] at hbd ⊢
      have h0 : DataW.trod enc P w base spare held fuel f.type ((cs.drop f.offset).take (P.cellsOf f.type)) = some x := hx 0 f rfl
      rw [hfo] at h0
      have hsp1 : Spots ((cs.drop off).take (P.cellsOf f.type)) := fun a l c hm => hsp a l c (List.mem_of_mem_drop (List.mem_of_mem_take hm))
      have h1 : VR B G w s ((cs.drop off).take (P.cellsOf f.type)) (B x.1) := by
        rcases hf with hf | ⟨gs, hu, hg⟩
        · exact i1 hf h0 hsp1 (hz x List.mem_cons_self) (by omega)
        · obtain ⟨ys, m, rfl, rfl, hlen, hyl, hy⟩ := DataW.trod_struct hu h0
          have hag := hB.agg (ys.map (·.1))
          rw [List.map_map] at hag
          have hag' : (ys.map fun x => B x.1).sum ≤ B (DataW.agg (ys.map (·.1))) := hag
          dsimp only at hbd
          intro φ H hH hV
          obtain ⟨φ', H', acs, ns, ss, D, k1, k2, k3, k4, k5, k6, k7, k8, k9, k10⟩ := i2 hg hlen (by simpa using hyl) (fun i f hf => hy i f (by simpa using hf)) hsp1 (fun y hy b off hm => hz _ List.mem_cons_self b off (List.mem_flatMap.2 ⟨y, hy, hm⟩)) (by omega) φ H hH hV
          exact ⟨φ', H', acs, ns, ss, D, k1, k2, k3, k4, k5, by simpa using k6, k7, by simpa using k8 [] rfl, k9, by dsimp only; omega⟩
      obtain ⟨φ1, H1, a1, n1, s1, D1, p1, p2, p3, p4, p5, p6, p7, p8, p9, p10⟩ := h1 φ H hH hV
      obtain ⟨φ2, H2, a2, n2, s2, D2, q1, q2, q3, q4, q5, q6, q7, q8, q9, q10⟩ := j2 hr hcl (xs := xs') (by simpa using hl) (fun i f hf => hx (i + 1) f hf) hsp (fun y hy => hz y (List.mem_cons_of_mem _ hy)) (by omega) φ1 H1 p1 p2
      have ha1 : a1.length = P.cellsOf f.type := by rw [LRel.len p6, List.length_take, List.length_drop]; omega
      refine ⟨φ2, H2, a1 ++ a2, n1 ++ n2, s1 ++ s2, D1 ++ D2, q1, q2, p3.trans q3, Nat.le_trans p4 q4, fun j hj => (q5 j (by omega)).trans (p5 j hj), ?_, by rw [List.all_append, p7, q7]; rfl, fun pre hpre => ?_, fun j hj => ?_, by simp only [List.length_append]; omega⟩
      · have := (p6.mono q3).app q6
        rw [← List.drop_drop, List.take_append_drop] at this
        exact this
      · refine ⟨n1, s1, D1, n2, s2, D2, ?_, ?_, rfl, rfl, rfl⟩
        · refine Rd.shift (fun j hj => q5 j (p9 j hj)) (fun i hi => ?_) p8
          obtain ⟨v, hv, -⟩ := p8.cell i hi
          have hlt := lt_of_get hv
          rw [List.getElem?_append_right (by omega), List.getElem?_append_left (by omega)]
          congr 1; omega
        · have := q8 (pre ++ a1) (by rw [List.length_append, hpre, ha1])
          rw [List.append_assoc] at this; exact this
      · rcases List.mem_append.1 hj with h | h
        · have := p9 j h; omega
        · exact q9 j h
/-- A struct as an argument. -/
theorem arg_vr (hB : Msr B) {G : Nat} {s : Sh} (hs : s.lev = true) {t : TypeId} {gs : Array Field} (hu : P.underlying t = some (.struct gs)) (hg : Fits.go P s gs.toList 0 (P.cellsOf t)) {fuel : Nat} {cs : List Value} {x : DataW K × List MemPlace} (h : DataW.trod enc P w base spare held fuel t cs = some x) (hsp : Spots cs) (hz : w.noneFrozen x.2) (hbd : B x.1 ≤ 1000000000) : VR B G w s cs (B x.1) := by
  obtain ⟨ys, m, rfl, rfl, hlen, hyl, hy⟩ := DataW.trod_struct hu h
  have hag := hB.agg (ys.map (·.1))
  rw [List.map_map] at hag
  have hag' : (ys.map fun x => B x.1).sum ≤ B (DataW.agg (ys.map (·.1))) := hag
  dsimp only at hbd
  intro φ H hH hV
  obtain ⟨φ', H', acs, ns, ss, D, k1, k2, k3, k4, k5, k6, k7, k8, k9, k10⟩ := (any_vr hB hs).2 hg hlen (by simpa using hyl) (fun i f hf => hy i f (by simpa using hf)) hsp (fun y hy b off hm => hz b off (List.mem_flatMap.2 ⟨y, hy, hm⟩)) (by omega) φ H hH hV
  exact ⟨φ', H', acs, ns, ss, D, k1, k2, k3, k4, k5, by simpa using k6, k7, by simpa using k8 [] rfl, k9, by dsimp only; omega⟩
end
end Go.Eng
