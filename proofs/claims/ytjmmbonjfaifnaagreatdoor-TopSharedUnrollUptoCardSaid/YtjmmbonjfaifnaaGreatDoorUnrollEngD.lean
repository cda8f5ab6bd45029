/- The interpreter over abstract memory, how it is tied to the machine, and rules for its runs. Conditions: none beyond each theorem's own. -/
import Derived.Test.YtjmmbonjfaifnaaGreatDoorUnrollEngC
import Derived.Shelf.Slices.CompactI
import Derived.Shelf.Slices.Delete
import Derived.Lib.RowBridge
set_option linter.all false
/- Lists of one's own, as they are answered; arguments, as they are met; the ends of calls. -/
namespace Go.Eng
open Go

/-- A list of one's own. -/
def OwnV {α : Type} (C : Enc α) (H : AHeap) (a : Option Addr) (n c : Nat) (xs : List α) (D : List Nat) : Prop :=
  n ≤ c ∧ n ≤ 330000000 ∧ xs.length = n ∧ (∀ x ∈ xs, C.wf x) ∧ (∀ x, a = some x → spotIs C.sz x = true) ∧
    ((n = 0 ∧ D = []) ∨ ∃ b off sp e w cs, a = some ⟨b, off, sp⟩ ∧ D = [b] ∧ H.get b = some (.cells e w true cs) ∧ ∀ i, i < n * C.sz → cs[off + i]? = (cells C xs)[i]?)
def R.own {α : Type} (C : Enc α) (a : Option Addr) (n c : Nat) (xs : List α) (D : List Nat) : Res := ⟨D, fun H => OwnV C H a n c xs D, fun h k => by
  obtain ⟨h1, h2, h3, h4, h5, h6⟩ := k
  refine ⟨h1, h2, h3, h4, h5, ?_⟩
  rcases h6 with h6 | ⟨b, off, sp, e, w, cs, h6, rfl, h7, h8⟩
  · exact .inl h6
  · exact .inr ⟨b, off, sp, e, w, cs, h6, rfl, (h b List.mem_cons_self).trans h7, h8⟩⟩
section
variable {α : Type} {C : Enc α} {M : List Nat} {B H : AHeap} {L : List Res} {i : Nat} {a : Option Addr} {n c : Nat} {xs : List α} {D : List Nat}
theorem Mem.vown (m : Mem M B H L) (hi : L[i]? = some (R.own C a n c xs D)) : V C H a n c xs := by
  obtain ⟨h1, h2, h3, h4, h5, h6⟩ := m.res hi
  refine ⟨h1, by omega, h3, h4, h5, ?_⟩
  rcases h6 with ⟨h, -⟩ | ⟨b, off, sp, e, w, cs, rfl, rfl, h7, h8⟩
  · exact .inl h
  · exact .inr ⟨b, off, sp, _, rfl, m.lt hi b List.mem_cons_self, row_cells h7, h8⟩
theorem Mem.ownLen (m : Mem M B H L) (hi : L[i]? = some (R.own C a n c xs D)) : xs.length = n ∧ n ≤ c ∧ n ≤ 330000000 ∧ ∀ x ∈ xs, C.wf x := by
  obtain ⟨h1, h2, h3, h4, -⟩ := m.res hi
  exact ⟨h3, h1, h2, h4⟩
theorem Mem.ownLst {e : Nat} (m : Mem M B H L) (hi : L[i]? = some (R.lst e C.sz a n (cells C xs) D)) (hwf : ∀ x ∈ xs, C.wf x) (h9 : n ≤ 330000000) : Mem M B H (L.set i (R.own C a n n xs D)) :=
  m.as hi (R.own C a n n xs D) rfl fun h => by
    obtain ⟨h1, h2⟩ := h
    have hl : xs.length = n := by
      rw [cells_length] at h1
      exact Nat.eq_of_mul_eq_mul_right C.pos h1
    refine ⟨Nat.le_refl _, h9, hl, hwf, fun x hx => ?_, ?_⟩
    · subst hx
      rcases h2 with ⟨-, -, h⟩ | ⟨b, h, -⟩
      · exact exact_spot h x rfl
      · cases h; exact spot_self
    · rcases h2 with ⟨h, h', -⟩ | ⟨b, rfl, rfl, h⟩
      · exact .inl ⟨h, h'⟩
      · exact .inr ⟨b, 0, _, e, false, _, rfl, rfl, h, fun j _ => by rw [Nat.zero_add]⟩
theorem Mem.ownNil (m : Mem M B H L) : Mem M B H (R.own C Option.none 0 0 [] [] :: L) :=
  m.nil (r := R.own C Option.none 0 0 [] []) ⟨Nat.le_refl _, by decide, rfl, all_nil, (fun x hx => by cases hx), .inl ⟨rfl, rfl⟩⟩ rfl

/-! ### elements as data -/
/-- What reads as an element. -/
structure EncRd (C : Enc α) (s : Sh) : Prop where
  get : ∀ {H : AHeap} {md : Md} {cs : List Value} {o : Nat} {ns : List Int} {ss : List ByteArray} {D : List Nat}, Rd H md s cs o ns ss D → ∃ x, C.wf x ∧ (∀ k, k < C.sz → cs[o + k]? = (C.f x)[k]?) ∧ 1 ≤ ns.length
  put : ∀ {H : AHeap} {md : Md} {cs : List Value} {o : Nat} {x : α}, C.wf x → (∀ k, k < C.sz → cs[o + k]? = (C.f x)[k]?) → ∃ ns, Rd H md s cs o ns [] [] ∧ ns.length ≤ 3
theorem rdI (k : IntKind) : EncRd (EI k) (.num k) := by
  refine ⟨fun h => ?_, fun hw h => ?_⟩
  · obtain ⟨v, h1, h2, rfl, -⟩ := h
    exact ⟨v, h2, fun j hj => by have : j = 0 := by have : j < 1 := hj; omega
                                 subst this; exact h1, by simp⟩
  · exact ⟨_, ⟨_, h 0 Nat.zero_lt_one, hw, rfl, rfl, rfl⟩, by simp⟩
theorem rdB : EncRd EB .bool := by
  refine ⟨fun h => ?_, fun hw h => ?_⟩
  · obtain ⟨v, h1, rfl, -⟩ := h
    exact ⟨v, trivial, fun j hj => by have : j = 0 := by have : j < 1 := hj; omega
                                      subst this; exact h1, by simp⟩
  · exact ⟨_, ⟨_, h 0 (by decide), rfl, rfl, rfl⟩, by simp⟩
abbrev ShP : Sh := .fld 0 (.num .i64) (.fld 1 (.num .i64) .nil)
theorem rdP : EncRd EP ShP := by
  refine ⟨fun h => ?_, fun {H md cs o x} hw h => ?_⟩
  · obtain ⟨_, _, _, _, _, _, ⟨u, u1, u2, rfl, -⟩, ⟨_, _, _, _, _, _, ⟨v, v1, v2, rfl, -⟩, -, rfl, -⟩, rfl, -⟩ := h
    refine ⟨(u, v), ⟨u2, v2⟩, fun j hj => ?_, by simp⟩
    have hj : j < 2 := hj
    match j, hj with
    | 0, _ => exact u1
    | 1, _ => exact v1
  · exact ⟨_, ⟨_, _, _, _, _, _, ⟨x.1, h 0 (by decide), hw.1, rfl, rfl, rfl⟩, ⟨_, _, _, _, _, _, ⟨x.2, h 1 (by decide), hw.2, rfl, rfl, rfl⟩, ⟨rfl, rfl, rfl⟩, rfl, rfl, rfl⟩, rfl, rfl, rfl⟩, by simp⟩
/-- The elements of a list that is read. -/
theorem rd_elems {s : Sh} (hC : EncRd C s) {md : Md} {cs : List Value} : ∀ {n o : Nat} {ns : List Int} {ss : List ByteArray} {D : List Nat}, RdN (Rd H md s) cs C.sz n o ns ss D → ∃ xs : List α, xs.length = n ∧ (∀ x ∈ xs, C.wf x) ∧ (∀ i, i < n * C.sz → cs[o + i]? = (cells C xs)[i]?) ∧ n ≤ ns.length
  | 0, o, ns, ss, D, h => ⟨[], rfl, all_nil, fun i hi => by omega, Nat.zero_le _⟩
  | n + 1, o, ns, ss, D, h => by
    obtain ⟨n1, s1, D1, n2, s2, D2, h1, h2, rfl, rfl, rfl⟩ := h
    obtain ⟨x, hw, hx, hl⟩ := hC.get h1
    obtain ⟨xs, e1, e2, e3, e4⟩ := rd_elems hC h2
    refine ⟨x :: xs, by simp [e1], fun y hy => ?_, fun i hi => ?_, by rw [List.length_append]; omega⟩
    · rcases List.mem_cons.1 hy with rfl | hy
      · exact hw
      · exact e2 y hy
    · rw [cells_cons]
      by_cases h : i < C.sz
      · rw [List.getElem?_append_left (by rw [C.len]; exact h)]; exact hx i h
      · rw [List.getElem?_append_right (by rw [C.len]; omega), C.len, ← e3 (i - C.sz) (by rw [Nat.add_mul] at hi; omega)]
        congr 1; omega
/-- A list of an argument. -/
theorem rd_list {s : Sh} (hC : EncRd C s) {cs : List Value} {o : Nat} {ns : List Int} {ss : List ByteArray} (h : Rd H ⟨true, true, false⟩ (.list C.sz s) cs o ns ss D) (hD : ∀ j ∈ D, j < H.next) :
    ∃ a n c xs, cs[o]? = some (.slice a n c) ∧ V C H a n c xs ∧ exactBase a = true ∧ n ≤ ns.length := by
  obtain ⟨a, n, c, h1, ⟨h2, h2'⟩, h3, n1, rfl, h5⟩ := h
  have hcc : cnt true n c = c := rfl
  rw [show (⟨true, true, false⟩ : Md).r = true from rfl, hcc] at h2' h5
  rcases h5 with ⟨h, -⟩ | ⟨b, off, sp, r, D', rfl, k2, k3, rfl, k5⟩
  · have : n = 0 := by omega
    subst this
    exact ⟨a, 0, c, [], h1, V.nil (fun x hx => exact_spot (h3 rfl) x hx), h3 rfl, Nat.zero_le _⟩
  · obtain ⟨xs, e1, e2, e3, e4⟩ := rd_elems hC k5
    have hV : V C H (some ⟨b, off, sp⟩) c c xs := ⟨Nat.le_refl _, by omega, e1, e2, fun x hx => exact_spot (h3 rfl) x hx, .inr ⟨b, off, sp, r, rfl, hD b List.mem_cons_self, k2, e3⟩⟩
    exact ⟨_, n, c, _, h1, hV.take h2 h2, h3 rfl, by simp only [List.length_cons]; omega⟩
/-- The elements of a list of one's own, as data. -/
theorem put_elems {s : Sh} (hC : EncRd C s) {md : Md} {cs : List Value} : ∀ {xs : List α} {o : Nat}, (∀ x ∈ xs, C.wf x) → (∀ i, i < xs.length * C.sz → cs[o + i]? = (cells C xs)[i]?) → ∃ ns, RdN (Rd H md s) cs C.sz xs.length o ns [] [] ∧ ns.length ≤ 3 * xs.length
  | [], o, _, _ => ⟨[], ⟨rfl, rfl, rfl⟩, by simp⟩
  | x :: xs, o, hw, h => by
    obtain ⟨n1, k1, k2⟩ := hC.put (H := H) (md := md) (cs := cs) (o := o) (x := x) (hw x List.mem_cons_self) (fun k hk => by
      rw [h k (by simp only [List.length_cons, Nat.add_mul]; omega), cells_cons, List.getElem?_append_left (by rw [C.len]; exact hk)])
    obtain ⟨n2, k3, k4⟩ := put_elems hC (md := md) (cs := cs) (xs := xs) (o := o + C.sz) (fun y hy => hw y (List.mem_cons_of_mem _ hy)) (fun i hi => by
      rw [Nat.add_assoc, h (C.sz + i) (by simp only [List.length_cons, Nat.add_mul]; omega), cells_cons, List.getElem?_append_right (by rw [C.len]; omega), C.len]
      congr 1; omega)
    exact ⟨n1 ++ n2, ⟨n1, [], [], n2, [], [], k1, k3, rfl, rfl, rfl⟩, by simp only [List.length_append, List.length_cons]; omega⟩
theorem OwnV.rd {s : Sh} (hC : EncRd C s) (h : OwnV C H a n c xs D) {cs : List Value} {o : Nat} (hc : cs[o]? = some (.slice a n c)) : ∃ ns, Rd H ⟨false, true, false⟩ (.list C.sz s) cs o ns [] D ∧ ns.length ≤ 1 + 3 * n ∧ n ≤ 330000000 := by
  obtain ⟨h1, h2, h3, h4, h5, h6⟩ := h
  rcases h6 with ⟨rfl, rfl⟩ | ⟨b, off, sp, e, w, cs', rfl, rfl, h7, h8⟩
  · exact ⟨[((0 : Nat) : Int)], ⟨a, 0, c, hc, ⟨h1, by show 0 ≤ 1000000000; decide⟩, (fun h => by cases h), [], rfl, .inl ⟨rfl, rfl, rfl, rfl⟩⟩, by simp, h2⟩
  · subst h3
    obtain ⟨ns, k1, k2⟩ := put_elems hC (H := H) (md := ⟨false, true, false⟩) h4 h8
    exact ⟨(xs.length : Int) :: ns, ⟨_, _, c, hc, ⟨h1, by show xs.length ≤ 1000000000; omega⟩, (fun h => by cases h), ns, rfl, .inr ⟨b, off, sp, _, [], rfl, row_cells h7, fun _ => .inl rfl, rfl, k1⟩⟩, by simp only [List.length_cons]; omega, h2⟩
end

/-! ### the ends of calls -/
theorem Mem.flat {M : List Nat} {B H : AHeap} : ∀ {L : List Res}, Mem M B H L → (L.flatMap Res.D).Nodup ∧ ∀ j ∈ L.flatMap Res.D, (j ∈ M ∨ B.next ≤ j) ∧ j < H.next
  | [], _ => ⟨by simp, fun j hj => by simp at hj⟩
  | r :: L, m => by
    have m' : Mem M B H L := ⟨m.next, m.keep, fun q hq => m.ok q (List.mem_cons_of_mem _ hq), fun q hq => m.nd q (List.mem_cons_of_mem _ hq), fun q hq => m.lo q (List.mem_cons_of_mem _ hq), fun i k hik q s hi hk => m.dis (i + 1) (k + 1) (by omega) q s hi hk⟩
    obtain ⟨h1, h2⟩ := m'.flat
    rw [List.flatMap_cons]
    refine ⟨List.nodup_append.2 ⟨m.nd r List.mem_cons_self, h1, fun x hx y hy e => ?_⟩, fun j hj => ?_⟩
    · subst e
      obtain ⟨q, hq, hxq⟩ := List.mem_flatMap.1 hy
      obtain ⟨k, hk⟩ := List.mem_iff_getElem?.1 hq
      exact m.dis 0 (k + 1) (by omega) r q rfl hk x hx hxq
    · rcases List.mem_append.1 hj with h | h
      · exact m.lo r List.mem_cons_self j h
      · exact h2 j h
theorem call_one {E : Env} {tI tS tF : Nat} {H E1 : AHeap} {f : FuncId} {s : Sh} {ba bl e : Nat} {cs : List Value} {ns : List Int} {ss : List ByteArray} {Ls : List Res} {D : List Nat} (m : Mem [] H E1 (R.row bl tF true [.func (.func f) #[] #[.pointer (some ⟨ba, 0, none⟩)]] :: R.row ba e true cs :: Ls)) (hx : E.ext f = none) (hs : SeeOK E tI tS f s)
    (hR : Rd E1 ⟨false, true, false⟩ s cs 0 ns ss D) (hD : Ls.flatMap Res.D = D) (l1 : ns.length ≤ 1000000000) (l2 : ss.length ≤ 1000000000) :
    ∃ L, ResV E1 tF (.slice (some ⟨bl, 0, none⟩) 1 1) L H.next E1.next ∧ ResAll E tI tS E1 H.next E1.next L ∧ H.next ≤ E1.next ∧ ∀ j, j < H.next → E1.row j = H.row j := by
  subst hD
  obtain ⟨h1, h2⟩ := m.flat
  have hge : ∀ j ∈ bl :: ba :: Ls.flatMap Res.D, H.next ≤ j ∧ j < E1.next := fun j hj => ⟨((h2 j (by simpa [R.row] using hj)).1).resolve_left List.not_mem_nil, (h2 j (by simpa [R.row] using hj)).2⟩
  have hnd : (bl :: ba :: Ls.flatMap Res.D).Nodup := by simpa [R.row] using h1
  rw [List.nodup_cons, List.nodup_cons] at hnd
  have hb := hge bl (by simp)
  have hba := hge ba (by simp)
  refine one_res hx hs ⟨⟨_, m.row (i := 1) rfl, rfl, hR⟩, hnd.2.2, hnd.2.1, hba.2, fun j hj => (hge j (by simp [hj])).2⟩ hba.1 (fun j hj => (hge j (by simp [hj])).1) (m.row (i := 0) rfl) hb.1 hb.2 (fun h => hnd.1 (by simp [h])) (fun h => hnd.1 (by simp [h])) l1 l2 m.frh
theorem takeN_nil {cs : List Value} : takeN 0 cs = some [] := rfl
theorem takeN_cons {cs p : List Value} {o n : Nat} {v : Value} (h : cs[o]? = some v) (k : takeN n (cs.drop (o + 1)) = some p) : takeN (n + 1) (cs.drop o) = some (v :: p) := by
  simp only [takeN, bif_some, Option.some.injEq] at k ⊢
  obtain ⟨k1, rfl⟩ := k
  obtain ⟨hi, rfl⟩ := List.getElem?_eq_some_iff.1 h
  rw [List.drop_eq_getElem_cons hi, List.take_succ_cons]
  exact ⟨k1, rfl⟩
end Go.Eng

/- Parts of rows of one's own; copies; truth values held against each other. -/
namespace Go.Eng
open Go

/-- A list with another one written into it. -/
def splice {α : Type} (xs : List α) (l : Nat) (ys : List α) : List α := xs.take l ++ (ys ++ xs.drop (l + ys.length))
section
variable {P : Program} {t e sz b o n c l h m : Nat} {lo hi mx : Option Value}
end
section
variable {α : Type} {C : Enc α} {H : AHeap}
variable {E : Env} {N : Nat} {ops rest : List Oper} {l : Kn} {B : AHeap} {M : List Nat} {L : List Res} {Q : Kn → AHeap → Prop} {ty : TypeId} {ps : String} {af : Array Edge} {g : Option (Nat × Bool)} {d : Nat}
end
section
variable {E : Env} {l : Kn} {t u : TypeId} {x y : Operand} {a b r : Bool}
theorem PV.beqB (ht : E.P.underlying t = some TypeDesc.bool) (hx : kval E.G l x = some (.bool a)) (hy : kval E.G l y = some (.bool b)) (hn : (a == b) = r) : PV E l (.binOp .eql t x y u) (.bool r) := by
  subst hn
  intro F N hF c yy H
  simp only [opA, opBin, kval_ok hF hx, kval_ok hF hy, keepH, Option.bind_some, binA, vInt, vStr, eqA, isEql, isNilIface, Bool.false_and, cond_false, ht, eqD, dPtr, dStruct, dSlice, dMap, dFunc, dIface, dBool, cond_true, vBool, Option.map_some, sameB]
end
theorem optAddrBeqSelf {a : Option Addr} : optAddrBeq a a = true := by cases a <;> simp [optAddrBeq, addrBeq_self]
theorem veqI {n : Nat} {k : IntKind} {a : Int} : veq (n + 1) (.int k a) (.int k a) = true := by simp [veq, vInt, ikBeq_self]
theorem veqS {n : Nat} {a : Option Addr} {l c : Nat} : veq (n + 1) (.slice a l c) (.slice a l c) = true := by simp [veq, vSl, optAddrBeqSelf]
theorem veqNil {n : Nat} : veq.veqs n [] [] = true := rfl
theorem veqCons {n : Nat} {x : Value} {l : List Value} (h : veq n x x = true) (k : veq.veqs n l l = true) : veq.veqs n (x :: l) (x :: l) = true := by
  show (veq n x x && veq.veqs n l l) = true
  rw [h, k]; rfl
theorem veq_agg {cs : List Value} (h : veq.veqs 99 cs cs = true) : veq 100 (.agg cs.toArray) (.agg cs.toArray) = true := by
  simpa [veq, vAgg] using h
section
variable {E : Env} {N : Nat} {ops rest : List Oper} {l : Kn} {H B : AHeap} {M : List Nat} {L : List Res} {Q : Kn → AHeap → Prop} {ty : TypeId} {ps : String} {af : Array Edge} {g : Option (Nat × Bool)} {d : Nat}
variable {α : Type} {C : Enc α}
/-- Append a list of elements to a list that grew. -/
theorem KO.appendC {t tx e ex i : Nat} {z : List Value} {p q : Operand} {a : Option Addr} {n k : Nat} {x : Value} {xs ys : List α} {D : List Nat} (m : Mem M B H L) (hi : L[i]? = some (R.lst e C.sz a n (cells C xs) D)) (ht : elemT E.P t = some e) (hz : elemZ E.P e = some (C.sz, z)) (hsb : smallBytes E.P e = true) (htx : E.P.underlying tx = some (.slice ex)) (hp : kval E.G l p = some (.slice a n n)) (hb : kval E.G l q = some x) (hx : newElems C.sz x H = some (k, cells C ys)) (hyl : ys.length = k) (h9 : n + k ≤ 1000000000)
    (hw : kwant ops l ⟨some d, .call ⟨.builtin .append, #[p, q], #[t, tx]⟩, ty, ps, af, g⟩ = some true) (hd : Nat.blt d N = true)
    (h : ∀ a' D' H1, Mem M B H1 (L.set i (R.lst e C.sz a' (n + k) (cells C (xs ++ ys)) D')) → KO E N ops rest ((d, .slice a' (n + k) (n + k)) :: l) H1 Q) :
    KO E N ops (⟨some d, .call ⟨.builtin .append, #[p, q], #[t, tx]⟩, ty, ps, af, g⟩ :: rest) l H Q :=
  KO.appendM m hi ht hz hsb htx hp hb hx (by rw [cells_length, hyl]) (cells_all _) h9 hw hd fun a' D' H1 m1 => h a' D' H1 (by rw [cells_append]; exact m1)
/-- Append a list of elements to a list that is read. -/
theorem KO.appendWC {t tx e ex : Nat} {z : List Value} {p q : Operand} {a : Option Addr} {n k : Nat} {x : Value} {xs ys : List α} (m : Mem M B H L) (hV : V C H a n n xs) (hex : exactBase a = true) (ht : elemT E.P t = some e) (hz : elemZ E.P e = some (C.sz, z)) (hsb : smallBytes E.P e = true) (htx : E.P.underlying tx = some (.slice ex)) (hp : kval E.G l p = some (.slice a n n)) (hb : kval E.G l q = some x) (hx : newElems C.sz x H = some (k, cells C ys)) (hyl : ys.length = k) (hk0 : 0 < k) (h9 : n + k ≤ 1000000000)
    (hw : kwant ops l ⟨some d, .call ⟨.builtin .append, #[p, q], #[t, tx]⟩, ty, ps, af, g⟩ = some true) (hd : Nat.blt d N = true)
    (h : ∀ H1, Mem M B H1 (R.lst e C.sz (some ⟨H.next, 0, some C.sz⟩) (n + k) (cells C (xs ++ ys)) [H.next] :: L) → KO E N ops rest ((d, .slice (some ⟨H.next, 0, some C.sz⟩) (n + k) (n + k)) :: l) H1 Q) :
    KO E N ops (⟨some d, .call ⟨.builtin .append, #[p, q], #[t, tx]⟩, ty, ps, af, g⟩ :: rest) l H Q :=
  KO.appendW m hV hex ht hz hsb htx hp hb hx (by rw [cells_length, hyl]) hk0 h9 hw hd fun H1 m1 => h H1 (by rw [cells_append]; exact m1)
theorem newElems_row1 {b c : Nat} {e : TypeId} {w : Bool} {cs : List Value} {y : α} (hr : H.row b = some ⟨e, w, true, cs⟩) (hc : cs = C.f y) : newElems C.sz (.slice (some ⟨b, 0, none⟩) 1 c) H = some (1, cells C [y]) := by
  rw [show cells C [y] = C.f y from List.append_nil _]
  exact newElems_row (n := 1) hr hc rfl C.pos
end
section
variable {E : Env} {RG : DR} {N : Nat} {ord : List Nat} {l : Kn} {H B : AHeap} {M : List Nat} {L : List Res} {past : List AHeap} {done : Nat} {hs : List Nat} {Q : Kn → AHeap → Nat → List Nat → Prop} {i : Nat} {ty : TypeId} {ps : String} {af : Array Edge} {g : Option (Nat × Bool)} {d : Nat}
variable {α : Type} {C : Enc α}
theorem KD.appendC {t tx e ex j : Nat} {z : List Value} {p q : Operand} {a : Option Addr} {n k : Nat} {x : Value} {xs ys : List α} {D : List Nat} (done' : Nat) (m : Mem M B H L) (hi : L[j]? = some (R.lst e C.sz a n (cells C xs) D)) (ht : elemT E.P t = some e) (hz : elemZ E.P e = some (C.sz, z)) (hsb : smallBytes E.P e = true) (htx : E.P.underlying tx = some (.slice ex)) (hp : kval E.G l p = some (.slice a n n)) (hb : kval E.G l q = some x) (hx : newElems C.sz x H = some (k, cells C ys)) (hyl : ys.length = k) (h9 : n + k ≤ 1000000000)
    (ho : RG.ops[i]? = some ⟨some d, .call ⟨.builtin .append, #[p, q], #[t, tx]⟩, ty, ps, af, g⟩) (hk : stepOk RG i ⟨some d, .call ⟨.builtin .append, #[p, q], #[t, tx]⟩, ty, ps, af, g⟩ done hs = true) (hw : kwant RG.ops l ⟨some d, .call ⟨.builtin .append, #[p, q], #[t, tx]⟩, ty, ps, af, g⟩ = some true) (hd : Nat.blt d N = true) (hdone : Nat.lor done (2 ^ i) = done')
    (h : ∀ a' D' H1, Mem M B H1 (L.set j (R.lst e C.sz a' (n + k) (cells C (xs ++ ys)) D')) → KD E RG N ord ((d, .slice a' (n + k) (n + k)) :: l) H1 (H1 :: past) done' hs.tail Q) : KD E RG N (i :: ord) l H past done hs Q :=
  KD.appendM done' m hi ht hz hsb htx hp hb hx (by rw [cells_length, hyl]) (cells_all _) h9 ho hk hw hd hdone fun a' D' H1 m1 => h a' D' H1 (by rw [cells_append]; exact m1)
end
end Go.Eng

/- More about lists that are read. -/
namespace Go.Eng
open Go
section
variable {α : Type} {C : Enc α} {H : AHeap} {a : Option Addr} {n c : Nat} {xs : List α}
/-- A nil list is empty. -/
theorem V.nil0 (h : V C H a n c xs) (hn : isNone a = true) : n = 0 := by
  rcases h.2.2.2.2.2 with h | ⟨b, off, sp, r, rfl, -⟩
  · exact h
  · cases hn
end
/-- Which halves of the numbers ahead of a place are marked; no half comes twice. -/
structure Marked (T : List Int) (i : Int) (has : List Bool) : Prop where
  m : ∀ (j : Nat) (u : Int), (j : Int) < i → T[j]? = some u → has[(u / 2).toNat]? = some true
  d : ∀ (a b : Nat) (x y : Int), a < b → (b : Int) < i → T[a]? = some x → T[b]? = some y → x / 2 ≠ y / 2
/-- The first numbers of a list grow, from some number on. -/
structure Incr (b : Int) (c : List Int) (i : Int) : Prop where
  m : ∀ (j : Nat) (x y : Int), (j : Int) + 1 < i → c[j]? = some x → c[j + 1]? = some y → x < y
  lo : 0 < i → ∃ u, c[(i - 1).toNat]? = some u ∧ i - 1 + b ≤ u
theorem Incr.zero {b : Int} {c : List Int} : Incr b c 0 := ⟨fun j x y h => by omega, fun h => by omega⟩
theorem Incr.step {b : Int} {c : List Int} {i x : Int} (h : Incr b c i) (h0 : 0 ≤ i) (hx : c[i.toNat]? = some x) (hlo : b ≤ x) (hp : 0 < i → ∃ y, c[(i - 1).toNat]? = some y ∧ y < x) : Incr b c (i + 1) := by
  refine ⟨fun j p q hj hp' hq => ?_, fun _ => ⟨x, by rw [Int.add_sub_cancel]; exact hx, ?_⟩⟩
  · by_cases e : (j : Int) + 1 = i
    · obtain ⟨y, hy, hlt⟩ := hp (by omega)
      have e1 : (i - 1).toNat = j := by omega
      have e2 : i.toNat = j + 1 := by omega
      rw [e1, hp'] at hy; rw [e2, hq] at hx
      cases hy; cases hx; exact hlt
    · exact h.m j p q (by omega) hp' hq
  · by_cases e : i = 0
    · omega
    · obtain ⟨u, hu, hl⟩ := h.lo (by omega)
      obtain ⟨y, hy, hlt⟩ := hp (by omega)
      rw [hu] at hy; cases hy; omega
theorem Incr.bound {b : Int} {c : List Int} {i v : Int} {n : Nat} (h : Incr b c i) (hn : c.length = n) (hi : (n : Int) = i) (ha : ∀ u ∈ c, u < v) (h0 : b ≤ v) : (c.length : Int) + b ≤ v := by
  rw [hn]
  by_cases e : i = 0
  · omega
  · obtain ⟨u, hu, hl⟩ := h.lo (by omega)
    have := ha u (List.mem_of_getElem? hu)
    omega
theorem Mem.lnilC {α : Type} {M : List Nat} {B H : AHeap} {L : List Res} {e : Nat} (C : Enc α) (a : Option Addr) (m : Mem M B H L) (h : exactBase a = true) : Mem M B H (R.lst e C.sz a 0 (cells C []) [] :: L) := m.lnil (e := e) (sz := C.sz) a h
section
variable {E : Env} {N : Nat} {ops rest : List Oper} {l : Kn} {H B : AHeap} {M : List Nat} {L : List Res} {Q : Kn → AHeap → Prop} {ty : TypeId} {ps : String} {af : Array Edge} {g : Option (Nat × Bool)} {d : Nat}
variable {α : Type} {C : Enc α}
theorem KO.appendC0 {t tx e ex i : Nat} {z : List Value} {p q : Operand} {a : Option Addr} {k : Nat} {x : Value} {ys : List α} {D : List Nat} (m : Mem M B H L) (hi : L[i]? = some (R.lst e C.sz a 0 (cells C []) D)) (ht : elemT E.P t = some e) (hz : elemZ E.P e = some (C.sz, z)) (hsb : smallBytes E.P e = true) (htx : E.P.underlying tx = some (.slice ex)) (hp : kval E.G l p = some (.slice a 0 0)) (hb : kval E.G l q = some x) (hx : newElems C.sz x H = some (k, cells C ys)) (hyl : ys.length = k) (h9 : k ≤ 1000000000)
    (hw : kwant ops l ⟨some d, .call ⟨.builtin .append, #[p, q], #[t, tx]⟩, ty, ps, af, g⟩ = some true) (hd : Nat.blt d N = true)
    (h : ∀ a' D' H1, Mem M B H1 (L.set i (R.lst e C.sz a' k (cells C ys) D')) → KO E N ops rest ((d, .slice a' k k) :: l) H1 Q) :
    KO E N ops (⟨some d, .call ⟨.builtin .append, #[p, q], #[t, tx]⟩, ty, ps, af, g⟩ :: rest) l H Q := by
  refine KO.appendC m hi ht hz hsb htx hp hb hx hyl (by omega) hw hd fun a' D' H1 m1 => ?_
  rw [Nat.zero_add] at m1 ⊢
  exact h a' D' H1 m1
end
section
variable {E : Env} {RG : DR} {N : Nat} {ord : List Nat} {l : Kn} {H B : AHeap} {M : List Nat} {L : List Res} {past : List AHeap} {done : Nat} {hs : List Nat} {Q : Kn → AHeap → Nat → List Nat → Prop} {i : Nat} {ty : TypeId} {ps : String} {af : Array Edge} {g : Option (Nat × Bool)} {d : Nat}
variable {α : Type} {C : Enc α}
end
theorem PV.eqNilB {E : Env} {l : Kn} {t e u : TypeId} {x : Operand} {a : Option Addr} {n c : Nat} {b : Bool} (ht : E.P.underlying t = some (.slice e)) (hx : kval E.G l x = some (.slice a n c)) (hb : isNone a = b) : PV E l (.binOp .eql t x (.const (.slice none 0 0)) u) (.bool b) := hb ▸ PV.eqNil ht hx
end Go.Eng

/- Lists of lists: arguments and results. -/
namespace Go.Eng
open Go
section
variable {α : Type} {C : Enc α} {H : AHeap}
/-- The elements of a list of lists that is read. -/
theorem rd_elems2 {s : Sh} (hC : EncRd C s) {cs : List Value} : ∀ {n o : Nat} {ns : List Int} {ss : List ByteArray} {D : List Nat}, RdN (Rd H ⟨true, true, false⟩ (.list C.sz s)) cs 1 n o ns ss D → (∀ j ∈ D, j < H.next) →
    ∃ (vs : List (Option Addr × Nat × Nat)) (xss : List (List α)), vs.length = n ∧ (∀ i, i < n → cs[o + i]? = (cells ES vs)[i]?) ∧ VV C H vs xss ∧ (∀ xs ∈ xss, xs.length ≤ ns.length) ∧ n ≤ ns.length
  | 0, o, ns, ss, D, h, _ => ⟨[], [], rfl, fun i hi => by omega, .nil, all_nil, Nat.zero_le _⟩
  | n + 1, o, ns, ss, D, h, hD => by
    obtain ⟨n1, s1, D1, n2, s2, D2, h1, h2, rfl, rfl, rfl⟩ := h
    obtain ⟨a, k, c, xs, e1, e2, e3, e4⟩ := rd_list hC h1 (fun j hj => hD j (List.mem_append_left _ hj))
    obtain ⟨vs, xss, f1, f2, f3, f4, f5⟩ := rd_elems2 hC h2 (fun j hj => hD j (List.mem_append_right _ hj))
    have hn1 : 1 ≤ n1.length := by obtain ⟨_, _, _, _, _, _, n0, rfl, _⟩ := h1; simp
    refine ⟨(a, k, c) :: vs, xs :: xss, by simp [f1], fun i hi => ?_, .cons e2 f3, fun ys hy => ?_, by rw [List.length_append]; omega⟩
    · cases i with
      | zero => rw [Nat.add_zero, e1]; rfl
      | succ i =>
        have := f2 i (by omega)
        rw [show o + (i + 1) = o + 1 + i by omega, this, cells_cons]
        rfl
    · rw [List.length_append]
      rcases List.mem_cons.1 hy with rfl | hy
      · have := e2.len.1; omega
      · have := f4 ys hy; omega
theorem rd_lists {s : Sh} (hC : EncRd C s) {cs : List Value} {o : Nat} {ns : List Int} {ss : List ByteArray} {D : List Nat} (h : Rd H ⟨true, true, false⟩ (.list 1 (.list C.sz s)) cs o ns ss D) (hD : ∀ j ∈ D, j < H.next) :
    ∃ a n c vs xss, cs[o]? = some (.slice a n c) ∧ V ES H a n c vs ∧ exactBase a = true ∧ n ≤ ns.length ∧ VV C H vs xss ∧ ∀ xs ∈ xss, xs.length ≤ ns.length := by
  obtain ⟨a, n, c, h1, ⟨h2, h2'⟩, h3, n1, rfl, h5⟩ := h
  have hcc : cnt true n c = c := rfl
  rw [show (⟨true, true, false⟩ : Md).r = true from rfl, hcc] at h2' h5
  rcases h5 with ⟨h, -⟩ | ⟨b, off, sp, r, D', rfl, k2, k3, rfl, k5⟩
  · have : n = 0 := by omega
    subst this
    exact ⟨a, 0, c, [], [], h1, V.nil (fun x hx => exact_spot (h3 rfl) x hx), h3 rfl, Nat.zero_le _, .nil, all_nil⟩
  · obtain ⟨vs, xss, e1, e2, e3, e4, e5⟩ := rd_elems2 hC k5 (fun j hj => hD j (List.mem_cons_of_mem _ hj))
    have hV : V ES H (some ⟨b, off, sp⟩) c c vs := ⟨Nat.le_refl _, by omega, e1, fun _ _ => trivial, fun x hx => exact_spot (h3 rfl) x hx, .inr ⟨b, off, sp, r, rfl, hD b List.mem_cons_self, k2, fun i hi => e2 i (by rw [show ES.sz = 1 from rfl] at hi; omega)⟩⟩
    refine ⟨_, n, c, vs.take n, xss.take n, h1, hV.take h2 h2, h3 rfl, by simp only [List.length_cons]; omega, ?_, fun xs hx => ?_⟩
    · refine ⟨by rw [List.length_take, List.length_take, e3.1], fun i v xs hv hx => ?_⟩
      have hi : i < n := by have := (List.getElem?_eq_some_iff.1 hv).1; rw [List.length_take] at this; omega
      rw [List.getElem?_take_of_lt hi] at hv hx
      exact e3.2 i v xs hv hx
    · have := e4 xs (List.mem_of_mem_take hx)
      simp only [List.length_cons]; omega
end
end Go.Eng

/- slices.Sort of numbers as an effect on the abstract memory. -/
namespace Go.Eng
open Go Go.Proofs Go.Sort Go.Shelf

/-- What an interpreter answers, with any fuel. -/
noncomputable def evalA (E : Env) (f : FuncId) (args : List Value) (H : AHeap) : Option (Value × AHeap) :=
  open Classical in if h : ∃ n, (callA E n f args H).isSome = true then callA E (Classical.choose h) f args H else none
theorem evalA_some {E : Env} {f : FuncId} {args : List Value} {H : AHeap} {r : Value × AHeap} (h : evalA E f args H = some r) : ∃ n, callA E n f args H = some r := by
  unfold evalA at h
  split at h
  · exact ⟨_, h⟩
  · cases h
theorem evalA_of {E : Env} {f : FuncId} {args : List Value} {H : AHeap} {Q : Value × AHeap → Prop} (h : WF E f args H Q) : ∃ r, evalA E f args H = some r ∧ Q r := by
  obtain ⟨n, r, h1, h2⟩ := h
  have hx : ∃ n, (callA E n f args H).isSome = true := ⟨n, by rw [h1]; rfl⟩
  refine ⟨r, ?_, h2⟩
  unfold evalA
  rw [dif_pos hx]
  have hc := Classical.choose_spec hx
  obtain ⟨r', hr'⟩ := Option.isSome_iff_exists.1 hc
  rw [hr']
  rcases Nat.le_total n (Classical.choose hx) with hl | hl
  · have := callA_le E hl _ _ _ _ h1
    rw [hr'] at this; exact this
  · have := callA_le E hl _ _ _ _ hr'
    rw [h1] at this; exact this.symm
/-- A list of numbers is changed in place. -/
noncomputable def sortS (EB : Env) (f : FuncId) (g : List Int → List Int) (args : List Value) (H : AHeap) : Option (Value × AHeap) :=
  match args with
  | [.slice a n _] => if n = 0 then evalA EB f args H else
      match a with
      | none => none
      | some a => (H.row a.block).bind fun r => bif r.rw && Nat.ble n 1000000000 then (takeN n (r.cs.drop a.off)).bind fun vs => (intsOf vs).bind fun zs =>
          bif Nat.beq (g zs).length n then (writeA H a.block a.off ((g zs).map (Value.int .i64))).map fun H' => (.tuple #[], H') else none else none
  | _ => none
def mergeI (zs : List Int) : List Int := zs.mergeSort fun x y => decide (x ≤ y)
theorem sort_ok {P : Program} {ρ : Ren} (Ly : Lays.n189 P ρ) {EB : Env} {G : Nat} (hB : Okay EB G) (hP : EB.P = P) (hf : ∃ fn, P.funcs[ρ.f 189]? = some fn ∧ fn.body.isSome = true) :
    CallOK P G (fun g args H => bif Nat.beq g (ρ.f 189) then sortS EB (ρ.f 189) mergeI args H else none) := by
  intro f args H r e
  simp only [bif_some, beq_nat] at e
  obtain ⟨rfl, e⟩ := e
  refine ⟨hf, ?_⟩
  unfold sortS at e
  split at e
  · rename_i a n c
    by_cases hn : n = 0
    · rw [if_pos hn] at e
      obtain ⟨k, hk⟩ := evalA_some e
      have := (callA_ok hB k _ _ _ _ hk).2
      rw [hP] at this
      exact this
    · rw [if_neg hn] at e
      cases a with
      | none => cases e
      | some a =>
        simp only [Option.bind_eq_some_iff, bif_some, Bool.and_eq_true, ble_nat, beq_nat, Option.map_eq_some_iff] at e
        obtain ⟨row, hr, ⟨hrw, h9⟩, vs, ht, zs, hz, hl, H', hw, rfl⟩ := e
        obtain rfl := intsOf_some hz
        intro φ w args' hargs hH cs
        obtain ⟨x', hx', hxr⟩ := hargs.get (j := 0) (v := .slice (some a) n c) rfl
        have hsz := hargs.length
        obtain rfl : args' = #[x'] := by
          apply Array.ext'
          simp only [List.length_cons, List.length_nil] at hsz
          match hq : args'.toList, hsz with
          | [y], _ => rw [hq] at hx'; simp at hx'; simp [hx']
        rcases hxr.sl_inv with ⟨h1, _⟩ | ⟨i, o, sp, c', h1, hlt, rfl, hc⟩ | ⟨a', _, h0, _, _⟩
        · cases h1
        · cases h1
          obtain ⟨hbl, hH2, hzl, hfin⟩ := put_world P hH hr hrw ht hl hw
          obtain ⟨e, w', fr, ⟨rfl, k, os, rfl⟩, hst, hfn, hlv⟩ := Any.slices_Sort_int Ly (φ i).block ((φ i).shift + o) c' zs w hH2 hbl (by rw [hzl]; omega) cs
          rw [hzl] at hst
          obtain ⟨q1, q2⟩ := hfin k os
          exact ⟨fr, .tuple #[], _, φ, hst, hfn, hlv, q1, q2, .tuple rfl (fun i h => by simp at h)⟩
        · exact absurd h0 hn
  · cases e
theorem mergeI_length (zs : List Int) : (mergeI zs).length = zs.length := List.length_mergeSort ..
theorem mergeI_mem (zs : List Int) (u : Int) : u ∈ mergeI zs ↔ u ∈ zs := List.mem_mergeSort
theorem mergeI_sorted (zs : List Int) : (mergeI zs).Pairwise (· ≤ ·) := by
  have := List.pairwise_mergeSort (le := fun x y : Int => decide (x ≤ y)) (fun a b c h1 h2 => by simp only [decide_eq_true_eq] at *; omega) (fun a b => by simp only [Bool.or_eq_true, decide_eq_true_eq]; omega) zs
  exact this.imp (by simp)
theorem cells_ints (xs : List Int) : cells (EI .i64) xs = xs.map (Value.int .i64) := by
  induction xs with
  | nil => rfl
  | cons x r ih => rw [cells_cons, ih]; rfl
/-- The call, where there are elements. -/
theorem WF.sorts {E EB : Env} {f : FuncId} {g : List Int → List Int} {H : AHeap} {e : TypeId} {a : Option Addr} {n : Nat} {xs : List Int} {D : List Nat} (hs : E.sum f = some (sortS EB f g)) (hg : ∀ zs, (g zs).length = zs.length) (h : (R.lst e 1 a n (cells (EI .i64) xs) D).ok H) (hlt : ∀ j ∈ D, j < H.next) (h0 : 0 < n) (h9 : n ≤ 1000000000) :
    WF E f [.slice a n n] H fun q => q.1 = .tuple #[] ∧ Mem D H q.2 [R.lst e 1 a n (cells (EI .i64) (g xs)) D] := by
  have hnd := Gr.nd h
  have m := Mem.startR (r := R.lst e 1 a n (cells (EI .i64) xs) D) h hnd hlt
  have hxl : xs.length = n := m.lstLen (E := EI .i64) (i := 0) rfl
  obtain ⟨b, rfl, rfl, m1⟩ := m.lstRow (i := 0) rfl h0
  have hrow := m1.row (i := 0) rfl
  have hget : H.get b = some (.cells e false true (cells (EI .i64) xs)) := m1.res (i := 0) rfl
  have hroom : 0 + ((g xs).map (Value.int .i64)).length ≤ (cells (EI .i64) xs).length := by rw [cells_ints, List.length_map, List.length_map, hg]; omega
  have hput : putL (cells (EI .i64) xs) 0 ((g xs).map (Value.int .i64)) = cells (EI .i64) (g xs) := by
    rw [cells_ints, cells_ints, putL, List.length_map, hg, List.take_zero, List.nil_append, Nat.zero_add, List.drop_eq_nil_of_le (by rw [List.length_map]; exact Nat.le_refl _), List.append_nil]
  have hwr := writeA_get hget hroom
  rw [hput] at hwr
  refine WF.told (r := (.tuple #[], H.set b (.cells e false true (cells (EI .i64) (g xs))))) hs ?_ ⟨rfl, ?_⟩
  · have ht : takeN n ((cells (EI .i64) xs).drop 0) = some (xs.map (Value.int .i64)) := by
      rw [cells_ints]
      exact takeN_of (by rw [List.drop_zero, ← hxl, ← List.length_map (f := Value.int .i64), List.take_length]) (by rw [List.length_map, hxl])
    simp only [sortS, if_neg (show ¬ n = 0 by omega), hrow, Option.bind_some, ble_nat.2 h9, Bool.and_self, cond_true, ht, intsOf_map, hg, hxl, Nat.beq_refl, hwr, Option.map_some]
  · have u : UpdG H (H.set b (.cells e false true (cells (EI .i64) (g xs)))) b (.cells e false true (cells (EI .i64) (g xs))) := UpdG.set
    have m2 := m1.upd (i := 0) rfl rfl u
    have m3 := m2.rowLst (i := 0) (sz := 1) (n := n) rfl (by rw [cells_length, hg, hxl]; rfl)
    exact m3
end Go.Eng

/- slices.Compact and slices.Delete of numbers as effects on the abstract memory. -/
namespace Go.Eng
open Go Go.Proofs Go.Sort Go.Shelf

/-- A list of numbers is changed in place and cut. -/
noncomputable def editS (EB : Env) (f : FuncId) (g : List Int → List Value → Option (List Int × Nat)) (args : List Value) (H : AHeap) : Option (Value × AHeap) :=
  match args with
  | .slice a n c :: rest => if n = 0 then evalA EB f args H else
      match a with
      | none => none
      | some a => (H.row a.block).bind fun r => bif r.rw && (Nat.ble n c && Nat.ble c 1000000000) then (takeN n (r.cs.drop a.off)).bind fun vs => (intsOf vs).bind fun zs => (g zs rest).bind fun p =>
          bif Nat.beq p.1.length n then (writeA H a.block a.off (p.1.map (Value.int .i64))).map fun H' => (.slice (some a) p.2 c, H') else none else none
  | _ => none
def compactE (zs : List Int) : List Value → Option (List Int × Nat)
  | [] => some (Lib.compact zs ++ List.replicate (zs.length - (Lib.compact zs).length) 0, (Lib.compact zs).length)
  | _ => none
def deleteE (zs : List Int) : List Value → Option (List Int × Nat)
  | [.int .i64 (.ofNat i), .int .i64 (.ofNat j)] => bif Nat.ble i j && Nat.ble j zs.length then some (zs.take i ++ zs.drop j ++ List.replicate (j - i) 0, zs.length - (j - i)) else none
  | _ => none
theorem grow_none (w : World) : grow w #[] = w := by simp [grow]
theorem edit_ok {P : Program} {F : FuncId} {g : List Int → List Value → Option (List Int × Nat)} {EB : Env} {G : Nat} (hB : Okay EB G) (hP : EB.P = P) (hf : ∃ fn, P.funcs[F]? = some fn ∧ fn.body.isSome = true)
    (hg : ∀ zs rest p, g zs rest = some p → ∀ v ∈ rest, plain v = true ∧ ∃ k z, v = .int k z)
    (hx : ∀ zs rest p blk off cap w, g zs rest = some p → Holds (Value.int .i64) w blk off zs.toArray → zs.length ≤ 1000000000 → zs.length ≤ cap → cap ≤ 9223372036854775807 →
      Calls P F (Value.slice (some ⟨blk, off, none⟩) zs.length cap :: rest).toArray w fun e w' => e = .returned (.slice (some ⟨blk, off, none⟩) p.2 cap) ∧ ∃ q, w' = putRow (Value.int .i64) (Sort.ahead w q) blk off p.1.toArray) :
    CallOK P G (fun g' args H => bif Nat.beq g' F then editS EB F g args H else none) := by
  intro f args H r e
  simp only [bif_some, beq_nat] at e
  obtain ⟨rfl, e⟩ := e
  refine ⟨hf, ?_⟩
  unfold editS at e
  split at e
  · rename_i a n c rest
    by_cases hn : n = 0
    · rw [if_pos hn] at e
      obtain ⟨k, hk⟩ := evalA_some e
      have := (callA_ok hB k _ _ _ _ hk).2
      rw [hP] at this
      exact this
    · rw [if_neg hn] at e
      cases a with
      | none => cases e
      | some a =>
        simp only [Option.bind_eq_some_iff, bif_some, Bool.and_eq_true, ble_nat, beq_nat, Option.map_eq_some_iff] at e
        obtain ⟨row, hr, ⟨hrw, hnc, hc9⟩, vs, ht, zs, hz, p, hp, hl, H', hw, rfl⟩ := e
        obtain rfl := intsOf_some hz
        intro φ w args' hargs hH cs
        have hrest : ∀ {l l' : List Value}, LRel φ l l' → (∀ v ∈ l, ∃ k z, v = Value.int k z) → l' = l := by
          intro l l' h
          induction h with
          | nil => intro _; rfl
          | cons h1 h2 ih =>
            intro hh
            obtain ⟨k, z, rfl⟩ := hh _ List.mem_cons_self
            rw [h1.int_inv, ih fun v hv => hh v (List.mem_cons_of_mem _ hv)]
        obtain ⟨x', hxr, rfl⟩ : ∃ x', VRel φ (.slice (some a) n c) x' ∧ args' = (x' :: rest).toArray := by
          generalize hq : args'.toList = l at hargs
          cases hargs with
          | cons h1 h2 =>
            refine ⟨_, h1, ?_⟩
            apply Array.ext'
            rw [hq, hrest h2 fun v hv => (hg _ _ _ hp v hv).2]
        rcases hxr.sl_inv with ⟨h1, _⟩ | ⟨i, o, sp, c', h1, hlt, rfl, hc⟩ | ⟨a', _, h0, _, _⟩
        · cases h1
        · cases h1
          obtain ⟨hbl, hH2, hzl, hfin⟩ := put_world P hH hr hrw ht hl hw
          have hcc : n ≤ c' ∧ c' ≤ 9223372036854775807 ∧ VRel φ (.slice (some ⟨i, o, sp⟩) p.2 c) (.slice (some ⟨(φ i).block, (φ i).shift + o, none⟩) p.2 c') := by
            rcases hc with ⟨rfl, rfl⟩ | ⟨e, rfl, hc1, hc2⟩
            · exact ⟨hnc, by omega, .sl hlt⟩
            · exact ⟨by omega, by omega, .isl hlt hc1 hc2⟩
          obtain ⟨e, w', fr, ⟨rfl, k, rfl⟩, hst, hfn, hlv⟩ := hx zs rest p (φ i).block ((φ i).shift + o) c' w hp hH2 (by omega) (by omega) hcc.2.1 cs
          rw [hzl] at hst
          obtain ⟨q1, q2⟩ := hfin k #[]
          rw [grow_none] at q1 q2
          exact ⟨fr, _, _, φ, hst, hfn, hlv, q1, q2, hcc.2.2⟩
        · exact absurd h0 hn
  · cases e
theorem compact_ok {P : Program} {ρ : Ren} (Ly : Lays2.n20 P ρ) {EB : Env} {G : Nat} (hB : Okay EB G) (hP : EB.P = P) (hf : ∃ fn, P.funcs[ρ.f 20]? = some fn ∧ fn.body.isSome = true) :
    CallOK P G (fun g args H => bif Nat.beq g (ρ.f 20) then editS EB (ρ.f 20) compactE args H else none) := by
  refine edit_ok hB hP hf (fun zs rest p h => ?_) (fun zs rest p blk off cap w h hH h9 hc hm => ?_)
  · unfold compactE at h
    split at h
    · intro v hv; cases hv
    · cases h
  · unfold compactE at h
    split at h
    · cases h
      exact Any.slices_Compact_int Ly blk off cap zs w hH (by omega) hc
    · cases h
theorem delete_ok {P : Program} {ρ : Ren} (Ly : Lays2.n23 P ρ) {EB : Env} {G : Nat} (hB : Okay EB G) (hP : EB.P = P) (hf : ∃ fn, P.funcs[ρ.f 23]? = some fn ∧ fn.body.isSome = true) :
    CallOK P G (fun g args H => bif Nat.beq g (ρ.f 23) then editS EB (ρ.f 23) deleteE args H else none) := by
  refine edit_ok hB hP hf (fun zs rest p h => ?_) (fun zs rest p blk off cap w h hH h9 hc hm => ?_)
  · unfold deleteE at h
    split at h
    · intro v hv
      simp only [List.mem_cons, List.not_mem_nil, or_false] at hv
      rcases hv with rfl | rfl <;> exact ⟨rfl, _, _, rfl⟩
    · cases h
  · unfold deleteE at h
    split at h
    · simp only [bif_some, Bool.and_eq_true, ble_nat, Option.some.injEq] at h
      obtain ⟨⟨h1, h2⟩, rfl⟩ := h
      exact Any.slices_Delete_int Ly blk off cap _ _ zs w hH hc hm h1 h2
    · cases h
/-! ### the calls -/
theorem compactE_len {zs : List Int} : (Lib.compact zs ++ List.replicate (zs.length - (Lib.compact zs).length) 0).length = zs.length := by
  have := Lib.compact_length_le zs
  simp; omega
theorem compact_mem {zs : List Int} : ∀ u ∈ Lib.compact zs, u ∈ zs := by
  intro u hu
  simp only [Lib.compact, Lib.compactUpTo, List.mem_map, List.mem_filter, List.mem_range] at hu
  obtain ⟨j, ⟨hj, -⟩, rfl⟩ := hu
  have : zs.toArray[j]! = zs[j] := by simp [hj]
  rw [this]
  exact List.getElem_mem hj
/-- A list of one's own that was changed in place and cut. -/
theorem WF.edits {E EB : Env} {f : FuncId} {g : List Int → List Value → Option (List Int × Nat)} {H : AHeap} {e : TypeId} {a : Option Addr} {n : Nat} {xs ys : List Int} {D : List Nat} {rest : List Value} {k : Nat} (hs : E.sum f = some (editS EB f g)) (hg : g xs rest = some (ys, k)) (hyl : ys.length = n) (hkn : k ≤ n) (hwf : ∀ u ∈ ys, (EI .i64).wf u) (h : (R.lst e 1 a n (cells (EI .i64) xs) D).ok H) (hlt : ∀ j ∈ D, j < H.next) (h0 : 0 < n) (h9 : n ≤ 330000000) :
    WF E f (.slice a n n :: rest) H fun q => q.1 = .slice a k n ∧ Mem D H q.2 [R.own (EI .i64) a k n (ys.take k) D] := by
  have hnd := Gr.nd h
  have m := Mem.startR (r := R.lst e 1 a n (cells (EI .i64) xs) D) h hnd hlt
  have hxl : xs.length = n := m.lstLen (E := EI .i64) (i := 0) rfl
  obtain ⟨b, rfl, rfl, m1⟩ := m.lstRow (i := 0) rfl h0
  have hrow := m1.row (i := 0) rfl
  have hget : H.get b = some (.cells e false true (cells (EI .i64) xs)) := m1.res (i := 0) rfl
  have hroom : 0 + (ys.map (Value.int .i64)).length ≤ (cells (EI .i64) xs).length := by rw [cells_ints, List.length_map, List.length_map]; omega
  have hput : putL (cells (EI .i64) xs) 0 (ys.map (Value.int .i64)) = cells (EI .i64) ys := by
    rw [cells_ints, cells_ints, putL, List.length_map, List.take_zero, List.nil_append, Nat.zero_add, List.drop_eq_nil_of_le (by rw [List.length_map]; omega), List.append_nil]
  have hwr := writeA_get hget hroom
  rw [hput] at hwr
  refine WF.told (r := (.slice (some ⟨b, 0, some 1⟩) k n, H.set b (.cells e false true (cells (EI .i64) ys)))) hs ?_ ⟨rfl, ?_⟩
  · have ht : takeN n ((cells (EI .i64) xs).drop 0) = some (xs.map (Value.int .i64)) := by
      rw [cells_ints]
      exact takeN_of (by rw [List.drop_zero, ← hxl, ← List.length_map (f := Value.int .i64), List.take_length]) (by rw [List.length_map, hxl])
    simp only [editS, if_neg (show ¬ n = 0 by omega), hrow, Option.bind_some, ble_nat.2 (Nat.le_refl n), ble_nat.2 (show n ≤ 1000000000 by omega), Bool.and_self, cond_true, ht, intsOf_map, hg, hyl, Nat.beq_refl, hwr, Option.map_some]
  · have u : UpdG H (H.set b (.cells e false true (cells (EI .i64) ys))) b (.cells e false true (cells (EI .i64) ys)) := UpdG.set
    have m2 := m1.upd (i := 0) rfl rfl u
    refine m2.as (i := 0) rfl (R.own (EI .i64) (some ⟨b, 0, some 1⟩) k n (ys.take k) [b]) rfl fun hk => ⟨hkn, by omega, by rw [List.length_take]; omega, fun x hx => hwf x (List.mem_of_mem_take hx), fun x hx => by cases hx; rfl, .inr ⟨b, 0, some 1, e, false, _, rfl, rfl, hk, fun j hj => ?_⟩⟩
    rw [Nat.zero_add]
    have hj1 : j < k := by rw [show (EI .i64).sz = 1 from rfl] at hj; omega
    rw [cells_ints, cells_ints, List.map_take, List.getElem?_take_of_lt hj1]
end Go.Eng

/- A part of a row of one's own is cleared; parts of rows as lists. -/
namespace Go.Eng
open Go
section
variable {E : Env} {l : Kn} {H : AHeap}
end
section
variable {M : List Nat} {B H : AHeap} {L : List Res} {α : Type} {C : Enc α}
end
section
variable {P : Program} {t e sz b o n c l z : Nat} {lo hi mx : Option Value}
end
section
variable {α : Type} {C : Enc α} {E : Env} {N : Nat} {ops rest : List Oper} {l : Kn} {H B : AHeap} {M : List Nat} {L : List Res} {Q : Kn → AHeap → Prop} {ty : TypeId} {ps : String} {af : Array Edge} {g : Option (Nat × Bool)} {d : Nat}
end
end Go.Eng

/- Lists of lists of one's own: the inner lists as one resource. -/
namespace Go.Eng
open Go
section
variable {α : Type} {C : Enc α} {H H' : AHeap}
/-- The lists that these slices tell are one's own; D: their blocks. -/
def InnOK (C : Enc α) (H : AHeap) : List (Option Addr × Nat × Nat) → List (List α) → List Nat → Prop
  | [], [], D => D = []
  | v :: vs, xs :: xss, D => ∃ D1 D2, OwnV C H v.1 v.2.1 v.2.2 xs D1 ∧ InnOK C H vs xss D2 ∧ D = D1 ++ D2
  | _, _, _ => False
theorem OwnV.same {a : Option Addr} {n c : Nat} {xs : List α} {D : List Nat} (k : OwnV C H a n c xs D) (h : ∀ j ∈ D, H'.get j = H.get j) : OwnV C H' a n c xs D := (R.own C a n c xs D).fr h k
theorem InnOK.same : ∀ {vs : List (Option Addr × Nat × Nat)} {xss : List (List α)} {D : List Nat}, (∀ j ∈ D, H'.get j = H.get j) → InnOK C H vs xss D → InnOK C H' vs xss D
  | [], [], _, _, k => k
  | v :: vs, xs :: xss, D, h, ⟨D1, D2, k1, k2, k3⟩ => by
    subst k3
    exact ⟨D1, D2, k1.same fun j hj => h j (List.mem_append_left _ hj), InnOK.same (fun j hj => h j (List.mem_append_right _ hj)) k2, rfl⟩
  | [], _ :: _, _, _, k => k.elim
  | _ :: _, [], _, _, k => k.elim
def R.inn (C : Enc α) (vs : List (Option Addr × Nat × Nat)) (xss : List (List α)) (D : List Nat) : Res := ⟨D, fun H => InnOK C H vs xss D, fun h k => k.same h⟩
theorem InnOK.snoc : ∀ {vs : List (Option Addr × Nat × Nat)} {xss : List (List α)} {D : List Nat} {a : Option Addr} {n c : Nat} {xs : List α} {D' : List Nat}, InnOK C H vs xss D → OwnV C H a n c xs D' → InnOK C H (vs ++ [(a, n, c)]) (xss ++ [xs]) (D ++ D')
  | [], [], D, a, n, c, xs, D', h, k => by obtain rfl : D = [] := h; exact ⟨D', [], k, rfl, by simp⟩
  | v :: vs, ys :: xss, D, a, n, c, xs, D', ⟨D1, D2, h1, h2, h3⟩, k => by
    subst h3
    exact ⟨D1, D2 ++ D', h1, InnOK.snoc h2 k, by rw [List.append_assoc]⟩
  | [], _ :: _, _, _, _, _, _, _, h, _ => h.elim
  | _ :: _, [], _, _, _, _, _, _, h, _ => h.elim
theorem InnOK.len : ∀ {vs : List (Option Addr × Nat × Nat)} {xss : List (List α)} {D : List Nat}, InnOK C H vs xss D → vs.length = xss.length
  | [], [], _, _ => rfl
  | v :: vs, xs :: xss, D, ⟨_, _, _, h, _⟩ => by simp [h.len]
  | [], _ :: _, _, h => h.elim
  | _ :: _, [], _, h => h.elim
theorem OwnV.v {a : Option Addr} {n c : Nat} {xs : List α} {D : List Nat} (h : OwnV C H a n c xs D) (hD : ∀ j ∈ D, j < H.next) : V C H a n c xs := by
  obtain ⟨h1, h2, h3, h4, h5, h6⟩ := h
  refine ⟨h1, by omega, h3, h4, h5, ?_⟩
  rcases h6 with ⟨h, -⟩ | ⟨b, off, sp, e, w, cs, rfl, rfl, h7, h8⟩
  · exact .inl h
  · exact .inr ⟨b, off, sp, _, rfl, hD b List.mem_cons_self, row_cells h7, h8⟩
theorem InnOK.vv : ∀ {vs : List (Option Addr × Nat × Nat)} {xss : List (List α)} {D : List Nat}, InnOK C H vs xss D → (∀ j ∈ D, j < H.next) → VV C H vs xss
  | [], [], _, _, _ => .nil
  | v :: vs, xs :: xss, D, ⟨D1, D2, h1, h2, h3⟩, hD => by
    subst h3
    exact .cons (h1.v fun j hj => hD j (List.mem_append_left _ hj)) (h2.vv fun j hj => hD j (List.mem_append_right _ hj))
  | [], _ :: _, _, h, _ => h.elim
  | _ :: _, [], _, h, _ => h.elim
theorem VV.atv {vs : List (Option Addr × Nat × Nat)} {xss : List (List α)} (h : VV C H vs xss) {i : Nat} {v : Option Addr × Nat × Nat} {xs : List α} (hv : vs[i]? = some v) (hx : xss[i]? = some xs) : V C H v.1 v.2.1 v.2.2 xs := h.2 i v xs hv hx
variable {M : List Nat} {B : AHeap} {L : List Res}
theorem Mem.join2 {r q s : Res} (m : Mem M B H (r :: q :: L)) (hD : s.D = r.D ++ q.D) (h : r.ok H → q.ok H → s.ok H) : Mem M B H (s :: L) := by
  have e : ∀ (i : Nat) {x : Res}, L[i]? = some x → (r :: q :: L)[i + 2]? = some x := fun i x hx => hx
  refine ⟨m.next, m.keep, ?_, ?_, ?_, ?_⟩
  · intro x hx
    rcases List.mem_cons.1 hx with rfl | hx
    · exact h (m.ok r (by simp)) (m.ok q (by simp))
    · exact m.ok x (by simp [hx])
  · intro x hx
    rcases List.mem_cons.1 hx with rfl | hx
    · rw [hD]
      refine List.nodup_append.2 ⟨m.nd r (by simp), m.nd q (by simp), fun a ha b hb hab => ?_⟩
      subst hab
      exact m.dis 0 1 (by decide) r q rfl rfl a ha hb
    · exact m.nd x (by simp [hx])
  · intro x hx j hj
    rcases List.mem_cons.1 hx with rfl | hx
    · rw [hD] at hj
      rcases List.mem_append.1 hj with hj | hj
      · exact m.lo r (by simp) j hj
      · exact m.lo q (by simp) j hj
    · exact m.lo x (by simp [hx]) j hj
  · intro i k hik x y hi hk j hj hj'
    match i, k with
    | 0, 0 => exact hik rfl
    | 0, k + 1 =>
      cases hi
      have hk' := e k hk
      rw [hD] at hj
      rcases List.mem_append.1 hj with hj | hj
      · exact m.dis 0 (k + 2) (by omega) r y rfl hk' j hj hj'
      · exact m.dis 1 (k + 2) (by omega) q y rfl hk' j hj hj'
    | i + 1, 0 =>
      cases hk
      have hi' := e i hi
      rw [hD] at hj'
      rcases List.mem_append.1 hj' with hj' | hj'
      · exact m.dis (i + 2) 0 (by omega) x r hi' rfl j hj hj'
      · exact m.dis (i + 2) 1 (by omega) x q hi' rfl j hj hj'
    | i + 1, k + 1 => exact m.dis (i + 2) (k + 2) (by omega) x y (e i hi) (e k hk) j hj hj'
theorem Mem.innNil (m : Mem M B H L) : Mem M B H (R.inn C [] [] [] :: L) := m.nil (r := R.inn C [] [] []) rfl rfl
/-- A list more. -/
theorem Mem.push {vs : List (Option Addr × Nat × Nat)} {xss : List (List α)} {D D' : List Nat} {a : Option Addr} {n c : Nat} {xs : List α} (m : Mem M B H (R.inn C vs xss D :: R.own C a n c xs D' :: L)) : Mem M B H (R.inn C (vs ++ [(a, n, c)]) (xss ++ [xs]) (D ++ D') :: L) :=
  m.join2 (s := R.inn C (vs ++ [(a, n, c)]) (xss ++ [xs]) (D ++ D')) rfl fun h k => InnOK.snoc h k
theorem Mem.vinn {i : Nat} {vs : List (Option Addr × Nat × Nat)} {xss : List (List α)} {D : List Nat} (m : Mem M B H L) (hi : L[i]? = some (R.inn C vs xss D)) : VV C H vs xss := InnOK.vv (m.res hi) (m.lt hi)
theorem Mem.innLen {i : Nat} {vs : List (Option Addr × Nat × Nat)} {xss : List (List α)} {D : List Nat} (m : Mem M B H L) (hi : L[i]? = some (R.inn C vs xss D)) : vs.length = xss.length := InnOK.len (m.res hi)
/-- Numbers that are -1 or more, with a bit turned. -/
theorem xorB (a b : Int) (h0 : -2 ≤ a) (h1 : a < 9223372036854775808) (b0 : 0 ≤ b) (b1 : b ≤ 1) : ∃ x : Int, (-2 ≤ x ∧ x ≤ a + 1) ∧ (0 ≤ a → 0 ≤ x ∧ x / 2 = a / 2) ∧ (a < 0 → x < 0) ∧ IntKind.i64.wrap ((BitVec.ofInt 64 a ^^^ BitVec.ofInt 64 b).toNat) = x := by
  have hb : b = 0 ∨ b = 1 := by omega
  by_cases ha : a = -1
  · subst ha
    rcases hb with rfl | rfl
    · exact ⟨-1, by decide, by decide, by decide, by decide⟩
    · exact ⟨-2, by decide, by decide, by decide, by decide⟩
  by_cases ha2 : a = -2
  · subst ha2
    rcases hb with rfl | rfl
    · exact ⟨-2, by decide, by decide, by decide, by decide⟩
    · exact ⟨-1, by decide, by decide, by decide, by decide⟩
  · rcases hb with rfl | rfl
    · obtain ⟨m, rfl⟩ := Int.eq_ofNat_of_zero_le (show 0 ≤ a by omega)
      exact ⟨m, by omega, fun _ => ⟨by omega, rfl⟩, fun h => by omega, by rw [show (0 : Int) = ((0 : Nat) : Int) from rfl, bitsXor (by omega) (by decide), Nat.xor_zero]⟩
    · obtain ⟨x, k1, k2, k3, k4⟩ := xor1 a (by omega) h1
      exact ⟨x, by omega, fun _ => ⟨k3.1, k1⟩, fun h => by omega, k4⟩
/-! ### lists that lie beside what is changed -/
theorem V.sepM {a : Option Addr} {n c i : Nat} {xs : List α} {r : Res} (m : Mem M B H L) (h : V C B a n c xs) (hM : 0 < n → ∀ x, a = some x → x.block ∉ M) (hi : L[i]? = some r) : 0 < n → ∀ x, a = some x → x.block ∉ r.D := by
  intro h0 x hx hd
  have hq := hM h0 x hx
  rcases h.2.2.2.2.2 with h | ⟨b, off, sp, w, rfl, e2, -⟩
  · omega
  · cases hx
    rcases (m.lo r (List.mem_of_getElem? hi) _ hd).1 with h | h
    · exact hq h
    · exact absurd e2 (Nat.not_lt.2 h)
theorem V.sep {a : Option Addr} {n c i : Nat} {xs : List α} {r : Res} (m : Mem [] B H L) (h : V C B a n c xs) (hi : L[i]? = some r) : 0 < n → ∀ x, a = some x → x.block ∉ r.D := h.sepM m (fun _ _ _ => List.not_mem_nil) hi
theorem Mem.sepLst {a : Option Addr} {e sz n k i : Nat} {cs : List Value} {D : List Nat} {r : Res} (m : Mem M B H L) (hk : L[k]? = some (R.lst e sz a n cs D)) (hi : L[i]? = some r) (h : k ≠ i) : 0 < n → ∀ x, a = some x → x.block ∉ r.D := by
  intro h0 x hx
  rcases (m.res hk).2 with ⟨h, -⟩ | ⟨b, rfl, rfl, -⟩
  · omega
  · cases hx; exact m.dis k i h _ _ hk hi b List.mem_cons_self
theorem Mem.sepRow {b o e n k i : Nat} {sp : Option Nat} {w : Bool} {cs : List Value} {r : Res} (m : Mem M B H L) (hk : L[k]? = some (R.row b e w cs)) (hi : L[i]? = some r) (h : k ≠ i) : 0 < n → ∀ x, some (⟨b, o, sp⟩ : Addr) = some x → x.block ∉ r.D := by
  intro _ x hx
  cases hx; exact m.dis k i h _ _ hk hi b List.mem_cons_self
theorem sepApp {a : Option Addr} {n : Nat} {D E : List Nat} (h : 0 < n → ∀ x, a = some x → x.block ∉ D) (k : 0 < n → ∀ x, a = some x → x.block ∉ E) : 0 < n → ∀ x, a = some x → x.block ∉ D ++ E :=
  fun h0 x hx hm => (List.mem_append.1 hm).elim (h h0 x hx) (k h0 x hx)
/-! ### as data -/
def total (xss : List (List α)) : Nat := (xss.map fun xs => 1 + 3 * xs.length).sum
theorem total_le {xss : List (List α)} {k : Nat} (h : ∀ xs ∈ xss, xs.length ≤ k) : total xss ≤ xss.length * (1 + 3 * k) := by
  induction xss with
  | nil => simp [total]
  | cons xs r ih =>
    have h1 := ih fun ys hy => h ys (List.mem_cons_of_mem _ hy)
    have h2 := h xs List.mem_cons_self
    simp only [total, List.map_cons, List.sum_cons, List.length_cons, Nat.add_mul, Nat.one_mul] at h1 ⊢
    omega
theorem InnOK.rdN {s : Sh} (hC : EncRd C s) {cs : List Value} : ∀ {vs : List (Option Addr × Nat × Nat)} {xss : List (List α)} {D : List Nat} {o : Nat}, InnOK C H vs xss D → (∀ i, i < vs.length → cs[o + i]? = (cells ES vs)[i]?) → ∃ ns, RdN (Rd H ⟨false, true, false⟩ (.list C.sz s)) cs 1 vs.length o ns [] D ∧ ns.length ≤ total xss
  | [], [], D, o, h, _ => by obtain rfl : D = [] := h; exact ⟨[], ⟨rfl, rfl, rfl⟩, Nat.zero_le _⟩
  | (a, n, c) :: vs, xs :: xss, D, o, ⟨D1, D2, h1, h2, h3⟩, hc => by
    subst h3
    obtain ⟨n1, k1, k2, k3⟩ := h1.rd hC (cs := cs) (o := o) (by rw [← Nat.add_zero o, hc 0 (by simp)]; rfl)
    obtain ⟨n2, k4, k5⟩ := h2.rdN hC (cs := cs) (o := o + 1) (fun i hi => by
      rw [Nat.add_assoc, Nat.add_comm 1 i, hc (i + 1) (by simp only [List.length_cons]; omega), cells_cons]; rfl)
    have hl : xs.length = n := h1.2.2.1
    have k2' : n1.length ≤ 1 + 3 * n := k2
    exact ⟨n1 ++ n2, ⟨n1, [], D1, n2, [], D2, k1, k4, rfl, rfl, rfl⟩, by simp only [total, List.map_cons, List.sum_cons, List.length_append, hl] at k5 ⊢; omega⟩
  | [], _ :: _, _, _, h, _ => h.elim
  | _ :: _, [], _, _, h, _ => h.elim
theorem InnOK.rd {s : Sh} (hC : EncRd C s) {a : Option Addr} {n c : Nat} {vs : List (Option Addr × Nat × Nat)} {xss : List (List α)} {D0 D : List Nat} (h0 : OwnV ES H a n c vs D0) (h : InnOK C H vs xss D) {cs : List Value} {o : Nat} (hc : cs[o]? = some (.slice a n c)) :
    ∃ ns, Rd H ⟨false, true, false⟩ (.list 1 (.list C.sz s)) cs o ns [] (D0 ++ D) ∧ ns.length ≤ 1 + total xss := by
  obtain ⟨h1, h2, h3, h4, h5, h6⟩ := h0
  rcases h6 with ⟨rfl, rfl⟩ | ⟨b, off, sp, e, w, cs', rfl, rfl, h7, h8⟩
  · obtain rfl := List.length_eq_zero_iff.1 h3
    obtain rfl : xss = [] := List.length_eq_zero_iff.1 h.len.symm
    obtain rfl : D = [] := h
    exact ⟨[((0 : Nat) : Int)], ⟨a, 0, c, hc, ⟨h1, by show 0 ≤ 1000000000; decide⟩, (fun h => by cases h), [], rfl, .inl ⟨rfl, rfl, rfl, rfl⟩⟩, by simp⟩
  · subst h3
    obtain ⟨ns, k1, k2⟩ := h.rdN hC (cs := cs') (o := off) (fun i hi => h8 i (by rw [show ES.sz = 1 from rfl]; omega))
    exact ⟨(vs.length : Int) :: ns, ⟨_, _, c, hc, ⟨h1, by show vs.length ≤ 1000000000; omega⟩, (fun h => by cases h), ns, rfl, .inr ⟨b, off, sp, _, D, rfl, row_cells h7, fun _ => .inl rfl, rfl, k1⟩⟩, by simp only [List.length_cons]; omega⟩
end
section
variable {E : Env} {l : Kn} {t u : TypeId} {x y : Operand} {a b n : Int}
theorem PV.xorB (hx : kval E.G l x = some (.int .i64 a)) (hy : kval E.G l y = some (.int .i64 b)) (h : IntKind.i64.wrap ((BitVec.ofInt 64 a ^^^ BitVec.ofInt 64 b).toNat) = n) : PV E l (.binOp .xor t x y u) (.int .i64 n) := by
  refine PV.bin hx hy ?_
  show some (Value.int .i64 (IntKind.i64.wrap _)) = _
  exact congrArg (fun z => some (Value.int .i64 z)) h
end
end Go.Eng

/- Calls that change more than one resource. -/
namespace Go.Eng
open Go
section
variable {M : List Nat} {B H H1 : AHeap} {L Rs : List Res}
theorem Mem.left (m : Mem M B H (Rs ++ L)) : Mem M B H Rs :=
  ⟨m.next, m.keep, fun r hr => m.ok r (List.mem_append_left _ hr), fun r hr => m.nd r (List.mem_append_left _ hr), fun r hr => m.lo r (List.mem_append_left _ hr), fun i k hik r q hi hk =>
    m.dis i k hik r q (by rw [List.getElem?_append_left (List.getElem?_eq_some_iff.1 hi).1]; exact hi) (by rw [List.getElem?_append_left (List.getElem?_eq_some_iff.1 hk).1]; exact hk)⟩
/-- What a call may change. -/
theorem Mem.ownK (m : Mem M B H (Rs ++ L)) : Mem (Rs.flatMap Res.D) H H Rs :=
  ⟨Nat.le_refl _, fun _ _ _ => rfl, m.left.ok, m.left.nd, fun r hr j hj => ⟨.inl (List.mem_flatMap.2 ⟨r, hr, hj⟩), (m.left.lo r hr j hj).2⟩, m.left.dis⟩
def R.all (Rs : List Res) : Res := ⟨Rs.flatMap Res.D, fun H => ∀ r ∈ Rs, r.ok H, fun h k r hr => r.fr (fun j hj => h j (List.mem_flatMap.2 ⟨r, hr, hj⟩)) (k r hr)⟩
theorem Mem.joinK (m : Mem M B H (Rs ++ L)) : Mem M B H (R.all Rs :: L) := by
  have hL : ∀ (i : Nat) (r : Res), L[i]? = some r → (Rs ++ L)[Rs.length + i]? = some r := fun i r hr => by
    rw [List.getElem?_append_right (by omega)]; simpa using hr
  have hR : ∀ (r : Res), r ∈ Rs → ∃ k, k < Rs.length ∧ (Rs ++ L)[k]? = some r := fun r hr => by
    obtain ⟨k, hk⟩ := List.mem_iff_getElem?.1 hr
    have := (List.getElem?_eq_some_iff.1 hk).1
    exact ⟨k, this, by rw [List.getElem?_append_left this]; exact hk⟩
  refine ⟨m.next, m.keep, ?_, ?_, ?_, ?_⟩
  · intro x hx
    rcases List.mem_cons.1 hx with rfl | hx
    · exact fun r hr => m.ok r (List.mem_append_left _ hr)
    · exact m.ok x (List.mem_append_right _ hx)
  · intro x hx
    rcases List.mem_cons.1 hx with rfl | hx
    · exact m.left.flat.1
    · exact m.nd x (List.mem_append_right _ hx)
  · intro x hx j hj
    rcases List.mem_cons.1 hx with rfl | hx
    · exact m.left.flat.2 j hj
    · exact m.lo x (List.mem_append_right _ hx) j hj
  · intro i k hik x y hi hk j hj hj'
    match i, k with
    | 0, 0 => exact hik rfl
    | 0, k + 1 =>
      cases hi
      obtain ⟨r, hr, hjr⟩ := List.mem_flatMap.1 hj
      obtain ⟨a, ha, hra⟩ := hR r hr
      exact m.dis a (Rs.length + k) (by omega) r y hra (hL k y hk) j hjr hj'
    | i + 1, 0 =>
      cases hk
      obtain ⟨r, hr, hjr⟩ := List.mem_flatMap.1 hj'
      obtain ⟨a, ha, hra⟩ := hR r hr
      exact m.dis (Rs.length + i) a (by omega) x r (hL i x hi) hra j hj hjr
    | i + 1, k + 1 => exact m.dis (Rs.length + i) (Rs.length + k) (by omega) x y (hL i x hi) (hL k y hk) j hj hj'
theorem Mem.seqK {L1 : List Res} (m : Mem M B H (Rs ++ L)) (m1 : Mem (Rs.flatMap Res.D) H H1 L1) : Mem M B H1 (L1 ++ L) := m.joinK.seqR (i := 0) rfl m1
/-- Beside all of several. -/
theorem sepCons {a : Option Addr} {n : Nat} {r : Res} {D : List Nat} (h : 0 < n → ∀ x, a = some x → x.block ∉ r.D) (k : 0 < n → ∀ x, a = some x → x.block ∉ D) : 0 < n → ∀ x, a = some x → x.block ∉ r.D ++ D := sepApp h k
theorem sepEnd {a : Option Addr} {n : Nat} : 0 < n → ∀ x, a = some x → x.block ∉ ([] : List Nat) := fun _ _ _ => List.not_mem_nil
end
end Go.Eng

/- Lists of one's own that begin as exact rows and then grow. -/
namespace Go.Eng
open Go
def Gx (H : AHeap) (e sz : Nat) (a : Option Addr) (n : Nat) (cs : List Value) (D : List Nat) : Prop :=
  Gr H e sz a n cs D ∨ (cs.length = n * sz ∧ ∃ b e' w, a = some ⟨b, 0, none⟩ ∧ D = [b] ∧ H.get b = some (.cells e' w true cs))
def R.lx (e sz : Nat) (a : Option Addr) (n : Nat) (cs : List Value) (D : List Nat) : Res := ⟨D, fun H => Gx H e sz a n cs D, fun h k => by
  rcases k with k | ⟨k1, b, e', w, k2, rfl, k3⟩
  · exact .inl ((R.lst e sz a n cs D).fr h k)
  · exact .inr ⟨k1, b, e', w, k2, rfl, (h b List.mem_cons_self).trans k3⟩⟩
section
variable {α : Type} {C : Enc α} {M : List Nat} {B H : AHeap} {L : List Res} {i e n : Nat} {a : Option Addr} {xs : List α} {D : List Nat}
theorem Mem.lxLst {cs : List Value} {sz : Nat} (m : Mem M B H L) (hi : L[i]? = some (R.lst e sz a n cs D)) : Mem M B H (L.set i (R.lx e sz a n cs D)) :=
  m.as hi (R.lx e sz a n cs D) rfl fun h => .inl h
theorem Mem.lxRow {b e' : Nat} {w : Bool} (e : Nat) (xs : List α) (m : Mem M B H L) (hi : L[i]? = some (R.row b e' w (cells C xs))) (hn : xs.length = n) : Mem M B H (L.set i (R.lx e C.sz (some ⟨b, 0, Option.none⟩) n (cells C xs) [b])) :=
  m.as hi (R.lx e C.sz (some ⟨b, 0, Option.none⟩) n (cells C xs) [b]) rfl fun h => .inr ⟨by rw [cells_length, hn], b, e', w, rfl, rfl, h⟩
theorem Mem.lxLen (m : Mem M B H L) (hi : L[i]? = some (R.lx e C.sz a n (cells C xs) D)) : xs.length = n := by
  have h1 : (cells C xs).length = n * C.sz := by
    rcases m.res hi with h | h
    · exact h.1
    · exact h.1
  rw [cells_length] at h1
  exact Nat.eq_of_mul_eq_mul_right C.pos h1
theorem Mem.lxV (m : Mem M B H L) (hi : L[i]? = some (R.lx e C.sz a n (cells C xs) D)) (hwf : ∀ x ∈ xs, C.wf x) (h9 : n ≤ 1000000000) : V C H a n n xs := by
  have hl := m.lxLen hi
  rcases m.res hi with h | ⟨-, b, e', w, rfl, rfl, h⟩
  · refine ⟨Nat.le_refl _, h9, hl, hwf, fun x hx => ?_, ?_⟩
    · subst hx
      rcases h.2 with ⟨-, -, h⟩ | ⟨b, h, -⟩
      · exact exact_spot h x rfl
      · cases h; exact spot_self
    · rcases h.2 with ⟨h, -⟩ | ⟨b, rfl, rfl, hb⟩
      · exact .inl h
      · exact .inr ⟨b, 0, _, _, rfl, m.lt hi b List.mem_cons_self, row_cells hb, fun j _ => by rw [Nat.zero_add]⟩
  · exact ⟨Nat.le_refl _, h9, hl, hwf, fun x hx => (by cases hx; rfl), .inr ⟨b, 0, Option.none, _, rfl, m.lt hi b List.mem_cons_self, row_cells h, fun j _ => by rw [Nat.zero_add]⟩⟩
theorem Mem.lxOwn (m : Mem M B H L) (hi : L[i]? = some (R.lx e C.sz a n (cells C xs) D)) (hwf : ∀ x ∈ xs, C.wf x) (h9 : n ≤ 330000000) : Mem M B H (L.set i (R.own C a n n xs D)) := by
  have hl := m.lxLen hi
  refine m.as hi (R.own C a n n xs D) rfl fun h => ⟨Nat.le_refl _, h9, hl, hwf, fun x hx => ?_, ?_⟩
  · subst hx
    rcases h with h | ⟨-, b, e', w, h, -⟩
    · rcases h.2 with ⟨-, -, h⟩ | ⟨b, h, -⟩
      · exact exact_spot h x rfl
      · cases h; exact spot_self
    · cases h; rfl
  · rcases h with h | ⟨-, b, e', w, rfl, rfl, h⟩
    · rcases h.2 with ⟨h, h', -⟩ | ⟨b, rfl, rfl, hb⟩
      · exact .inl ⟨h, h'⟩
      · exact .inr ⟨b, 0, _, e, false, _, rfl, rfl, hb, fun j _ => by rw [Nat.zero_add]⟩
    · exact .inr ⟨b, 0, Option.none, e', w, _, rfl, rfl, h, fun j _ => by rw [Nat.zero_add]⟩
/-- A resource in the place of another one. -/
theorem Mem.repl {r' : Res} (m : Mem M B H (r' :: L)) : Mem M B H (L.set i r') := by
  have mem : ∀ x ∈ L.set i r', x ∈ r' :: L := fun x hx => (List.mem_or_eq_of_mem_set hx).elim (fun h => List.mem_cons_of_mem _ h) (fun h => h ▸ List.mem_cons_self)
  have at_ : ∀ (k : Nat) (x : Res), (L.set i r')[k]? = some x → ∃ k', (r' :: L)[k']? = some x ∧ (k' = if k = i then 0 else k + 1) := fun k x hx => by
    rw [List.getElem?_set] at hx
    by_cases hk : i = k
    · subst hk
      rw [if_pos rfl] at hx
      split at hx
      · cases hx; exact ⟨0, rfl, by simp⟩
      · cases hx
    · rw [if_neg hk] at hx
      exact ⟨k + 1, hx, by rw [if_neg (fun h => hk h.symm)]⟩
  refine ⟨m.next, m.keep, fun x hx => m.ok x (mem x hx), fun x hx => m.nd x (mem x hx), fun x hx => m.lo x (mem x hx), fun p k hpk x y hp hk => ?_⟩
  obtain ⟨p', h1, h2⟩ := at_ p x hp
  obtain ⟨k', h3, h4⟩ := at_ k y hk
  refine m.dis p' k' ?_ x y h1 h3
  rw [h2, h4]
  split <;> split <;> omega
end
section
variable {E : Env} {N : Nat} {ops rest : List Oper} {l : Kn} {H B : AHeap} {M : List Nat} {L : List Res} {Q : Kn → AHeap → Prop} {ty : TypeId} {ps : String} {af : Array Edge} {g : Option (Nat × Bool)} {d : Nat}
variable {α : Type} {C : Enc α}
theorem KO.appendX {t tx e ex i : Nat} {z : List Value} {p q : Operand} {a : Option Addr} {n k : Nat} {x : Value} {xs ys : List α} {D : List Nat} (m : Mem M B H L) (hi : L[i]? = some (R.lx e C.sz a n (cells C xs) D)) (hwf : ∀ x ∈ xs, C.wf x) (ht : elemT E.P t = some e) (hz : elemZ E.P e = some (C.sz, z)) (hsb : smallBytes E.P e = true) (htx : E.P.underlying tx = some (.slice ex)) (hp : kval E.G l p = some (.slice a n n)) (hb : kval E.G l q = some x) (hx : newElems C.sz x H = some (k, cells C ys)) (hyl : ys.length = k) (hk0 : 0 < k) (h9 : n + k ≤ 1000000000)
    (hw : kwant ops l ⟨some d, .call ⟨.builtin .append, #[p, q], #[t, tx]⟩, ty, ps, af, g⟩ = some true) (hd : Nat.blt d N = true)
    (h : ∀ a' D' H1, Mem M B H1 (L.set i (R.lst e C.sz a' (n + k) (cells C (xs ++ ys)) D')) → KO E N ops rest ((d, .slice a' (n + k) (n + k)) :: l) H1 Q) :
    KO E N ops (⟨some d, .call ⟨.builtin .append, #[p, q], #[t, tx]⟩, ty, ps, af, g⟩ :: rest) l H Q := by
  rcases m.res hi with h2 | ⟨h1, b, e', w, rfl, rfl, h2⟩
  · have m2 : Mem M B H (L.set i (R.lst e C.sz a n (cells C xs) D)) := m.as hi (R.lst e C.sz a n (cells C xs) D) rfl fun _ => h2
    have hi2 : (L.set i (R.lst e C.sz a n (cells C xs) D))[i]? = some (R.lst e C.sz a n (cells C xs) D) := by
      rw [List.getElem?_set_self (List.getElem?_eq_some_iff.1 hi).1]
    refine KO.appendC m2 hi2 ht hz hsb htx hp hb hx hyl h9 hw hd fun a' D' H1 m1 => h a' D' H1 ?_
    rw [List.set_set] at m1
    exact m1
  · exact KO.appendWC m (m.lxV hi hwf (by omega)) rfl ht hz hsb htx hp hb hx hyl hk0 h9 hw hd fun H1 m1 => h _ _ H1 m1.repl
end
end Go.Eng

/- Labels; lists of lists beside what changes; copies to a whole row. -/
namespace Go.Eng
open Go
section
variable {E : Env} {F : AF} {H : AHeap} {Q : Out → Prop}
end
section
variable {E : Env} {f : FuncId} {N : Nat} {l : Kn} {H : AHeap} {Q : AExit → Kn → AHeap → Prop}
end
section
variable {α : Type} {C : Enc α} {M : List Nat} {B H : AHeap} {L : List Res} {vs : List (Option Addr × Nat × Nat)} {xss : List (List α)}
end
section
variable {α : Type} {C : Enc α} {E : Env} {N : Nat} {ops rest : List Oper} {l : Kn} {H B : AHeap} {M : List Nat} {L : List Res} {Q : Kn → AHeap → Prop} {ty : TypeId} {ps : String} {af : Array Edge} {g : Option (Nat × Bool)} {d : Nat}
end
section
variable {α : Type} {C : Enc α} {E : Env} {RG : DR} {N : Nat} {ord : List Nat} {l : Kn} {H B : AHeap} {M : List Nat} {L : List Res} {past : List AHeap} {done : Nat} {hs : List Nat} {Q : Kn → AHeap → Nat → List Nat → Prop} {i : Nat} {ty : TypeId} {ps : String} {af : Array Edge} {g : Option (Nat × Bool)} {d : Nat}
end
end Go.Eng
