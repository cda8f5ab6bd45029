/- The interpreter over abstract memory, how it is tied to the machine, and rules for its runs. Conditions: none beyond each theorem's own. -/
import Derived.Test.YtbjiommpeeanmaaGreatDoorEngA
import Derived.RangeFuncIn
import Derived.Room.MakeNoZero
import Derived.KernelRfl
import Derived.Below
set_option linter.all false
namespace Go.Eng
open Go
section
variable {P : Program} {w : World} {φ : Emb} {G : Nat} {H : AHeap}
theorem pairL_some {cs : List Value} {p : Int × Int} (h : pairL cs = some p) : cs = [.int .i64 p.1, .int .i64 p.2] := by
  match cs, h with
  | [x, y], h =>
    simp only [pairL, Option.bind_eq_some_iff, bif_some, Bool.and_eq_true, Option.some.injEq] at h
    obtain ⟨a, ha, b, hb, ⟨h1, h2⟩, rfl⟩ := h
    rw [vInt_some ha, vInt_some hb, ik_eq h1, ik_eq h2]
theorem vPair_some {v : Value} {p : Int × Int} (h : (vAgg v).bind pairL = some p) : v = .agg #[.int .i64 p.1, .int .i64 p.2] := by
  simp only [Option.bind_eq_some_iff] at h
  obtain ⟨cs, h1, h2⟩ := h
  rw [vAgg_some h1, pairL_some h2]
theorem isI64T_some {t : TypeId} (h : isI64T P t = true) : P.underlying t = some (.int .i64) := by
  unfold isI64T at h
  split at h
  · rename_i k hk
    simp only [Option.bind_eq_some_iff] at hk
    obtain ⟨d, hd, hk⟩ := hk
    rw [hd, dInt_some hk, ik_eq h]
  · cases h
theorem part_i64 {t : TypeId} {xs : Array Value} {o : Nat} {v : Value} (h : P.underlying t = some (.int .i64)) (hv : xs[o]? = some v) : (part t xs o).run P w = .ok v w := by
  have hagg : isAggT P t = some false := by simp [isAggT, h, dAgg]
  simp [part, run_isAgg hagg, hv]
theorem eqFields_pair {fs : List Field} {a b c d : Int} (h : pairFs P fs = true) : eqFields P fs [.int .i64 a, .int .i64 b] [.int .i64 c, .int .i64 d] = some (a == c && b == d) := by
  match fs, h with
  | [f, g], h =>
    simp only [pairFs, Bool.and_eq_true, Bool.not_eq_true', beq_nat] at h
    obtain ⟨⟨⟨⟨⟨h1, h2⟩, h3⟩, h4⟩, h5⟩, h6⟩ := h
    have e1 : eqScalar (.int .i64) (.int .i64 a) (.int .i64 c) = some (a == c) := by simp [eqScalar, dInt, vInt, ikBeq]
    have e2 : eqScalar (.int .i64) (.int .i64 b) (.int .i64 d) = some (b == d) := by simp [eqScalar, dInt, vInt, ikBeq]
    simp only [eqFields, h1, h2, isI64T_some h3, isI64T_some h4, h5, h6, cond_false, Option.bind_some, List.getElem?_cons_zero, List.getElem?_cons_succ, e1, e2]
    cases a == c <;> cases b == d <;> rfl
def KeyOK (P : Program) (kt : TypeId) (k : Value) (d : TypeDesc) : Prop :=
  (∃ s, k = .string s ∧ d = .string) ∨ (∃ q x k', k = .int q x ∧ d = .int k') ∨ ∃ x y, k = .agg #[.int .i64 x, .int .i64 y] ∧ pairD P kt d = true
theorem pair_refl {a b : Int} : VRel φ (.agg #[.int .i64 a, .int .i64 b]) (.agg #[.int .i64 a, .int .i64 b]) := .aggL (LRel.refl_plain (by simp [plain]))
theorem pairD_cases {kt : TypeId} {d : TypeDesc} (h : pairD P kt d = true) : (∃ fs, d = .struct fs.toArray ∧ pairFs P fs = true ∧ P.stoodInHeld kt = false) ∨ ∃ e, d = .array 2 e ∧ P.underlying e = some (.int .i64) ∧ sizeT P e = some 1 := by
  unfold pairD at h
  split at h
  · rename_i fs hfs
    simp only [Bool.and_eq_true, Bool.not_eq_true'] at h
    exact .inl ⟨fs, dStruct_some hfs, h.1, h.2⟩
  · split at h
    · rename_i q hq
      simp only [Bool.and_eq_true, beq_nat] at h
      refine .inr ⟨q.2, ?_, isI64T_some h.1.2, ?_⟩
      · rw [dArray_some hq, h.1.1]
      · cases hs : sizeT P q.2 with
        | none => rw [hs] at h; simp at h
        | some n => rw [hs] at h; simp at h; rw [h.2]
    · cases h
theorem pair_equalIn {kt : TypeId} {d : TypeDesc} {a b c e : Int} (φ : Emb) (hd : P.underlying kt = some d) (hp : pairD P kt d = true) (m : Nat) :
    (Op.equalIn (m + 2) kt (.agg #[.int .i64 a, .int .i64 b]) (.agg #[.int .i64 c, .int .i64 e])).run P w = .ok (a == c && b == e) w := by
  rcases pairD_cases hp with ⟨fs, rfl, hf, hs⟩ | ⟨el, rfl, he, hz⟩
  · exact eqStruct_sound (φ := φ) hd hs pair_refl pair_refl (by simp only [eqStruct, vAgg, Option.bind_some]; exact eqFields_pair hf) m
  · have q1 : ∀ x y : Int, (Op.equalIn (m + 1) el (.int .i64 x) (.int .i64 y)).run P w = .ok (x == y) w := fun x y => run_equalIn_int w _ el _ _ _ _ he
    have p1 : ∀ x y : Int, (part el #[.int .i64 x, .int .i64 y] (0 * 1)).run P w = .ok (.int .i64 x) w := fun x y => part_i64 he rfl
    have p2 : ∀ x y : Int, (part el #[.int .i64 x, .int .i64 y] ((0 + 1) * 1)).run P w = .ok (.int .i64 y) w := fun x y => part_i64 he rfl
    rw [Op.equalIn]
    simp only [Sem.run_bind, run_underlying hd, Result.andThen_ok, run_sizeOf hz]
    simp only [Std.Legacy.Range.forIn_eq_forIn_range', Std.Legacy.Range.size, Nat.sub_zero, Nat.add_one_sub_one, Nat.div_one, List.range'_succ, List.range'_zero, List.forIn_cons, List.forIn_nil, Sem.run_bind, p1, Result.andThen_ok, q1]
    cases h1 : a == c with
    | false => simp
    | true =>
      simp only [Bool.not_true, Bool.false_eq_true, if_false, Sem.run_pure, Result.andThen_ok, Sem.run_bind, p2, q1]
      cases h2 : b == e <;> simp
theorem pair_equal {kt : TypeId} {d : TypeDesc} {a b c e : Int} (hd : P.underlying kt = some d) (hp : pairD P kt d = true) :
    (Op.equal kt (.agg #[.int .i64 a, .int .i64 b]) (.agg #[.int .i64 c, .int .i64 e])).run P w = .ok (a == c && b == e) w := pair_equalIn ⟨fun _ => ⟨0, 0, 0⟩, fun _ => False, fun _ => .bool false⟩ hd hp 9998
theorem pair_checkIn {kt : TypeId} {d : TypeDesc} {a b : Int} {em : Bool} (hd : P.underlying kt = some d) (hp : pairD P kt d = true) (m : Nat) : (Instr.checkKey em (m + 2) kt (.agg #[.int .i64 a, .int .i64 b])).run P w = .ok () w := by
  have hi : ∀ (t : TypeId) (x : Int), P.underlying t = some (.int .i64) → (Instr.checkKey em (m + 1) t (.int .i64 x)).run P w = .ok () w := fun t x h => by simp [Instr.checkKey, run_underlying h]
  rcases pairD_cases hp with ⟨fs, rfl, hf, -⟩ | ⟨el, rfl, he, hz⟩
  · match fs, hf with
    | [f, g], hf =>
      simp only [pairFs, Bool.and_eq_true, Bool.not_eq_true', beq_nat] at hf
      obtain ⟨⟨⟨⟨⟨h1, h2⟩, h3⟩, h4⟩, h5⟩, h6⟩ := hf
      have n1 : f.name ≠ "_" := fun h => by rw [h] at h1; simp at h1
      have n2 : g.name ≠ "_" := fun h => by rw [h] at h2; simp at h2
      have p1 : (part f.type #[.int .i64 a, .int .i64 b] 0).run P w = .ok (.int .i64 a) w := part_i64 (isI64T_some h3) rfl
      have p2 : (part g.type #[.int .i64 a, .int .i64 b] 1).run P w = .ok (.int .i64 b) w := part_i64 (isI64T_some h4) rfl
      rw [Instr.checkKey]
      simp only [Sem.run_bind, run_underlying hd, Result.andThen_ok, List.forIn_toArray, List.forIn_cons, List.forIn_nil, n1, n2, ne_eq, not_false_eq_true, if_true, h5, h6, p1, p2, hi _ _ (isI64T_some h3), hi _ _ (isI64T_some h4), Sem.run_pure]
  · have p1 : (part el #[.int .i64 a, .int .i64 b] (0 * 1)).run P w = .ok (.int .i64 a) w := part_i64 he rfl
    have p2 : (part el #[.int .i64 a, .int .i64 b] ((0 + 1) * 1)).run P w = .ok (.int .i64 b) w := part_i64 he rfl
    rw [Instr.checkKey]
    simp only [Sem.run_bind, run_underlying hd, Result.andThen_ok, Std.Legacy.Range.forIn_eq_forIn_range', Std.Legacy.Range.size, Nat.sub_zero, Nat.add_one_sub_one, Nat.div_one, List.range'_succ, List.range'_zero, List.forIn_cons, List.forIn_nil, run_sizeOf hz, p1, p2, hi _ _ he, Sem.run_pure]
theorem pair_check {kt : TypeId} {d : TypeDesc} {a b : Int} {em : Bool} (hd : P.underlying kt = some d) (hp : pairD P kt d = true) : (Instr.checkKey em 10000 kt (.agg #[.int .i64 a, .int .i64 b])).run P w = .ok () w := pair_checkIn hd hp 9998
theorem keyEq_sound {a b : Value} {r : Bool} {d : TypeDesc} (e : keyEq a b = some r) (hk : (∃ s, a = .string s ∧ d = .string) ∨ ∃ k x k', a = .int k x ∧ d = .int k') : Instr.sameNow d a b = some r := by
  unfold keyEq at e
  rcases hk with ⟨s, rfl, rfl⟩ | ⟨k, x, k', rfl, rfl⟩
  · simp only [vStr, Option.map_eq_some_iff] at e
    obtain ⟨t, ht, rfl⟩ := e
    obtain rfl := vStr_some ht
    simp [Instr.sameNow, streq_eq, beq_toListBytes]
  · simp only [vStr, vInt, Option.bind_eq_some_iff, bif_some, Option.some.injEq] at e
    obtain ⟨q, hq, hkk, rfl⟩ := e
    obtain rfl := vInt_some hq
    simp [Instr.sameNow, ik_eq hkk]
theorem sameBits_key {d : TypeDesc} {k o : Value} (hk : (∃ s, k = .string s ∧ d = .string) ∨ ∃ q x k', k = .int q x ∧ d = .int k') (h : Instr.sameNow d k o = some true) : o = k := by
  rcases hk with ⟨s, rfl, rfl⟩ | ⟨a, c, k', rfl, rfl⟩
  · cases o <;> simp [Instr.sameNow] at h
    rw [beq_toListBytes, ← streq_eq, streq_iff] at h
    rw [h]
  · cases o <;> simp [Instr.sameNow] at h
    obtain ⟨rfl, rfl⟩ := h
    rfl
theorem findK_sound {k : Value} {d : TypeDesc} (hk : (∃ s, k = .string s ∧ d = .string) ∨ ∃ q x k', k = .int q x ∧ d = .int k') {es : List (Value × Value)} {ents : List MapEntry} (he : ERel φ es ents) :
    ∀ (i : Nat) (r : Option (Nat × Value)), findK k es i = some r → ∃ r', Instr.findNow d k ents i = some r' ∧
      ((r = none ∧ r' = none) ∨ ∃ j v v' e, r = some (j, v) ∧ r' = some (j, v') ∧ VRel φ v v' ∧ i ≤ j ∧ ents[j - i]? = some e ∧ e.key = k) := by
  induction he with
  | nil => intro i r h; simp only [findK, Option.some.injEq] at h; subst h; exact ⟨none, rfl, .inl ⟨rfl, rfl⟩⟩
  | @cons key v e l es hkey hv hrest ih =>
    intro i r h
    simp only [findK, Option.bind_eq_some_iff] at h
    obtain ⟨b, hb, h⟩ := h
    have hs := keyEq_sound (d := d) hb hk
    rw [← hkey] at hs
    cases b with
    | true =>
      simp only [cond_true, Option.some.injEq] at h
      subst h
      exact ⟨some (i, e.val), by simp [Instr.findNow, hs], .inr ⟨i, v, e.val, e, rfl, rfl, hv, Nat.le_refl _, by simp, sameBits_key hk hs⟩⟩
    | false =>
      simp only [cond_false] at h
      obtain ⟨r', h1, h2⟩ := ih (i + 1) r h
      refine ⟨r', by simp [Instr.findNow, hs, h1], ?_⟩
      rcases h2 with h2 | ⟨j, v1, v2, e2, h3, h4, h5, h6, h7, h8⟩
      · exact .inl h2
      · refine .inr ⟨j, v1, v2, e2, h3, h4, h5, by omega, ?_, h8⟩
        have : j - i = (j - (i + 1)) + 1 := by omega
        rw [this]; simpa using h7
theorem findP_sound {kt : TypeId} {d : TypeDesc} {x y : Int} (hd : P.underlying kt = some d) (hp : pairD P kt d = true) {es : List (Value × Value)} {ents : List MapEntry} (he : ERel φ es ents) :
    ∀ (i : Nat) (r : Option (Nat × Value)), findK (.agg #[.int .i64 x, .int .i64 y]) es i = some r → ∃ r', (Instr.findAsking kt (.agg #[.int .i64 x, .int .i64 y]) ents i).run P w = .ok r' w ∧
      ((r = none ∧ r' = none) ∨ ∃ j v v' e, r = some (j, v) ∧ r' = some (j, v') ∧ VRel φ v v' ∧ i ≤ j ∧ ents[j - i]? = some e ∧ e.key = .agg #[.int .i64 x, .int .i64 y]) := by
  induction he with
  | nil => intro i r h; simp only [findK, Option.some.injEq] at h; subst h; exact ⟨none, rfl, .inl ⟨rfl, rfl⟩⟩
  | @cons key v e l es hkey hv hrest ih =>
    intro i r h
    simp only [findK, Option.bind_eq_some_iff] at h
    obtain ⟨b, hb, h⟩ := h
    simp only [keyEq, vStr, vInt, Option.bind_eq_some_iff, Option.map_eq_some_iff] at hb
    obtain ⟨p, ⟨cs, hcs, hp1⟩, q, ⟨cs2, hcs2, hq1⟩, rfl⟩ := hb
    have e1 := vPair_some (v := .agg #[.int .i64 x, .int .i64 y]) (p := p) (by rw [hcs]; exact hp1)
    have e2 := vPair_some (v := key) (p := q) (by rw [hcs2]; exact hq1)
    simp only [Value.agg.injEq, Array.mk.injEq, List.cons.injEq, Value.int.injEq, true_and, and_true] at e1
    obtain ⟨rfl, rfl⟩ := e1
    have hs := pair_equal (w := w) (a := p.1) (b := p.2) (c := q.1) (e := q.2) hd hp
    rw [← e2, ← hkey] at hs
    cases hb : (p.1 == q.1 && p.2 == q.2) with
    | true =>
      rw [hb] at h hs
      simp only [cond_true, Option.some.injEq] at h
      subst h
      simp only [Bool.and_eq_true, beq_iff_eq] at hb
      exact ⟨some (i, e.val), by simp [Instr.findAsking, hs], .inr ⟨i, v, e.val, e, rfl, rfl, hv, Nat.le_refl _, by simp, by rw [hkey, e2, hb.1, hb.2]⟩⟩
    | false =>
      rw [hb] at h hs
      simp only [cond_false] at h
      obtain ⟨r', h1, h2⟩ := ih (i + 1) r h
      refine ⟨r', by simp [Instr.findAsking, hs, h1], ?_⟩
      rcases h2 with h2 | ⟨j, v1, v2, e2, h3, h4, h5, h6, h7, h8⟩
      · exact .inl h2
      · refine .inr ⟨j, v1, v2, e2, h3, h4, h5, by omega, ?_, h8⟩
        have : j - i = (j - (i + 1)) + 1 := by omega
        rw [this]; simpa using h7
theorem run_findKey {kt : TypeId} {k : Value} {d : TypeDesc} {es : List MapEntry} {r : Option (Nat × Value)} (hd : P.underlying kt = some d) (h : Instr.findNow d k es 0 = some r) : (Instr.findKey kt k es).run P w = .ok r w := by
  simp [Instr.findKey, run_underlying hd, h]
theorem findKey_sound {kt : TypeId} {k : Value} {d : TypeDesc} (hd : P.underlying kt = some d) (hk : KeyOK P kt k d) {es : List (Value × Value)} {ents : List MapEntry} (he : ERel φ es ents) {r : Option (Nat × Value)} (h : findK k es 0 = some r) :
    ∃ r', (Instr.findKey kt k ents).run P w = .ok r' w ∧ ((r = none ∧ r' = none) ∨ ∃ j v v' e, r = some (j, v) ∧ r' = some (j, v') ∧ VRel φ v v' ∧ ents[j]? = some e ∧ e.key = k) := by
  have old : ((∃ s, k = .string s ∧ d = .string) ∨ ∃ q x k', k = .int q x ∧ d = .int k') → ∃ r', (Instr.findKey kt k ents).run P w = .ok r' w ∧ ((r = none ∧ r' = none) ∨ ∃ j v v' e, r = some (j, v) ∧ r' = some (j, v') ∧ VRel φ v v' ∧ ents[j]? = some e ∧ e.key = k) := fun hk => by
    obtain ⟨r', h1, h2⟩ := findK_sound hk he 0 r h
    refine ⟨r', run_findKey hd h1, ?_⟩
    rcases h2 with h2 | ⟨j, v1, v2, e2, h3, h4, h5, h6, h7, h8⟩
    · exact .inl h2
    · exact .inr ⟨j, v1, v2, e2, h3, h4, h5, by simpa using h7, h8⟩
  rcases hk with hk | hk | ⟨x, y, rfl, hp⟩
  · exact old (.inl hk)
  · exact old (.inr hk)
  · obtain ⟨r', h1, h2⟩ := findP_sound (w := w) hd hp he 0 r h
    have hnow : Instr.findNow d (.agg #[.int .i64 x, .int .i64 y]) ents 0 = none ∨ ents = [] := by
      cases ents with
      | nil => exact .inr rfl
      | cons e es => left; rcases pairD_cases hp with ⟨fs, rfl, -, -⟩ | ⟨el, rfl, -, -⟩ <;> simp [Instr.findNow, Instr.sameNow]
    refine ⟨r', ?_, ?_⟩
    · rcases hnow with hn | rfl
      · simp [Instr.findKey, run_underlying hd, hn, h1]
      · simp only [Instr.findAsking, Sem.run_pure] at h1
        simp [Instr.findKey, run_underlying hd, Instr.findNow]
        simpa using h1
    · rcases h2 with h2 | ⟨j, v1, v2, e2, h3, h4, h5, h6, h7, h8⟩
      · exact .inl h2
      · exact .inr ⟨j, v1, v2, e2, h3, h4, h5, by simpa using h7, h8⟩
theorem keyKind_some {kt : TypeId} {k : Value} (h : keyKind P kt k = true) : ∃ d, P.underlying kt = some d ∧ KeyOK P kt k d := by
  unfold keyKind at h
  split at h
  · rename_i s hs
    obtain rfl := vStr_some hs
    unfold isStrT at h
    cases hu : P.underlying kt with
    | none => rw [hu] at h; simp at h
    | some d => rw [hu] at h; exact ⟨d, rfl, .inl ⟨s, rfl, dString_true (by simpa using h)⟩⟩
  · split at h
    · rename_i p hp
      obtain rfl := vInt_some hp
      obtain ⟨k, hk⟩ := isNone_false.1 (by simpa using h)
      simp only [Option.bind_eq_some_iff] at hk
      obtain ⟨d, hd, hk⟩ := hk
      exact ⟨d, hd, .inr (.inl ⟨_, _, k, rfl, dInt_some hk⟩)⟩
    · split at h
      · rename_i p hp
        split at h
        · rename_i d hd
          exact ⟨d, hd, .inr (.inr ⟨_, _, vPair_some hp, h⟩)⟩
        · cases h
      · cases h
theorem mapIn_some (h : HRel G φ H w) {t : TypeId} {m m' k k' : Value} {q : Nat × List (Value × Value)} (hm : VRel φ m m') (hk : VRel φ k k') (e : mapIn P t m k H = some q) :
    ∃ kt vt d ents clock, P.underlying t = some (.map kt vt) ∧ m' = .map (some (φ q.1).block) ∧ m = .map (some q.1) ∧ k' = k ∧ P.underlying kt = some d ∧
      KeyOK P kt k d ∧ w.heap[(φ q.1).block]? = some (.map ents clock) ∧ ERel φ q.2 ents.toList ∧ H.get q.1 = some (.amap q.2) := by
  simp only [mapIn, Option.bind_eq_some_iff, bif_some, Option.some.injEq] at e
  obtain ⟨mt, ⟨d0, hd0, hmt⟩, r, hr, id, rfl, es, hes, hkk, rfl⟩ := e
  obtain rfl := vMap_some hr
  obtain rfl := dMap_some hmt
  obtain ⟨d, hd, hkd⟩ := keyKind_some hkk
  obtain ⟨ents, clock, hob, he⟩ := h.mapAt (r := id) (es := es) (by obtain ⟨o, ho, hm⟩ := hes; rw [ho]; exact hm)
  have hgm : H.get id = some (.amap es) := by
    obtain ⟨o, ho, hm⟩ := hes
    rw [mapOf_some hm] at ho; exact ho
  rcases hm.map_inv with ⟨h1, _⟩ | ⟨i, h1, hlt, rfl⟩
  · cases h1
  cases h1
  have hkp : k' = k := by
    rcases hkd with ⟨s, rfl, _⟩ | ⟨a, b, c, rfl, _⟩ | ⟨x, y, rfl, _⟩
    · exact hk.string_inv
    · exact hk.int_inv
    · obtain ⟨a', rfl, hl⟩ := hk.agg_inv
      obtain ⟨l, rfl⟩ : ∃ l : List Value, a' = l.toArray := ⟨a'.toList, by simp⟩
      cases hl with
      | cons h1 hl => cases hl with
        | cons h2 hl => cases hl with
          | nil => rw [h1.int_inv, h2.int_inv]
  exact ⟨_, _, d, ents, clock, hd0, rfl, rfl, hkp, hd, hkd, hob, he, hgm⟩
theorem run_checkKey {kt : TypeId} {k : Value} {d : TypeDesc} {b : Bool} {m : Nat} (hd : P.underlying kt = some d) (hk : (∃ s, k = .string s ∧ d = .string) ∨ ∃ q x k', k = .int q x ∧ d = .int k') : (Instr.checkKey b (m + 1) kt k).run P w = .ok () w := by
  rcases hk with ⟨s, rfl, rfl⟩ | ⟨a, c, k', rfl, rfl⟩ <;> simp [Instr.checkKey, run_underlying hd]
theorem run_checkKey' {kt : TypeId} {k : Value} {d : TypeDesc} {b : Bool} (hd : P.underlying kt = some d) (hk : KeyOK P kt k d) : (Instr.checkKey b 10000 kt k).run P w = .ok () w := by
  rcases hk with hk | hk | ⟨x, y, rfl, hp⟩
  · exact run_checkKey (m := 9999) hd (.inl hk)
  · exact run_checkKey (m := 9999) hd (.inr hk)
  · exact pair_check hd hp
theorem lookupA_sound (h : HRel G φ H w) {t : TypeId} {m m' k k' v : Value} {ok : Bool} (hm : VRel φ m m') (hk : VRel φ k k') (e : lookupA P t m k ok H = some v) :
    ∃ v', (Instr.lookup t m' k' ok).run P w = .ok v' w ∧ VRel φ v v' := by
  simp only [lookupA, Option.bind_eq_some_iff, Option.map_eq_some_iff] at e
  obtain ⟨q, hq, r, hr, p, hp, rfl⟩ := e
  obtain ⟨kt, vt, d, ents, clock, ht, rfl, rfl, rfl, hd, hkd, hob, he, _⟩ := mapIn_some h hm hk hq
  obtain ⟨r', hfk, h2⟩ := findKey_sound (w := w) hd hkd he hr
  have hck : ∀ b, (Instr.checkKey b 10000 kt k').run P w = .ok () w := fun b => run_checkKey' hd hkd
  have fin : ∀ (x x' : Value) (b : Bool), VRel φ x x' → VRel φ (bif ok then .tuple #[x, .bool b] else x) (if ok = true then .tuple #[x', .bool b] else x') := by
    intro x x' b hx
    cases ok with
    | true =>
      refine .tupleL ?_
      exact .cons hx (.cons (.base rfl) .nil)
    | false => exact hx
  rcases h2 with ⟨rfl, rfl⟩ | ⟨j, v1, v2, e2, rfl, rfl, h5, h7, h8⟩
  · simp only [lookV, Option.map_eq_some_iff, Option.bind_eq_some_iff, ht] at hp
    obtain ⟨z, ⟨q1, ⟨d1, hd1, hq1⟩, hz⟩, rfl⟩ := hp
    cases hd1
    simp only [dMap, Option.some.injEq] at hq1
    subst hq1
    simp only [zeroV, Option.bind_eq_some_iff] at hz
    obtain ⟨zz, hzz, i, hi, hzv⟩ := hz
    obtain ⟨i', v', hi', hzv', hnt, rfl, hpl⟩ := zeroT_some hzz
    rw [hi] at hi'; cases hi'
    rw [hzv] at hzv'; cases hzv'
    have hzz : VRel φ z z := by
      cases z with
      | agg a => exact .aggL (LRel.refl_plain (by simpa [Value.cells] using hpl))
      | tuple a => simp [isTup] at hnt
      | _ => exact .base (by simpa [Value.cells] using hpl)
    refine ⟨_, ?_, fin z z false hzz⟩
    simp [Instr.lookup, run_underlying ht, run_getObj_map hob, hck, hfk, run_zeroValue hi hzv]
  · simp only [lookV, Option.some.injEq] at hp
    subst hp
    refine ⟨_, ?_, fin v1 v2 true h5⟩
    simp [Instr.lookup, run_underlying ht, run_getObj_map hob, hck, hfk]
theorem ERel.set {es : List (Value × Value)} {ents : List MapEntry} (h : ERel φ es ents) : ∀ (j : Nat) (k v v' : Value) (e : MapEntry), ents[j]? = some e → e.key = k → VRel φ v v' → ∀ f : MapEntry → MapEntry, (f e).key = k → (f e).val = v' →
    ERel φ (es.take j ++ (k, v) :: es.drop (j + 1)) (ents.modify j f) := by
  induction h with
  | nil => intro j k v v' e h; simp at h
  | @cons key x e0 l es hkey hx hrest ih =>
    intro j k v v' e he hek hv f hf1 hf2
    cases j with
    | zero =>
      simp at he
      subst he
      simp only [List.take_zero, List.nil_append, List.modify_zero_cons]
      exact .cons hf1 (hf2 ▸ hv) hrest
    | succ j =>
      simp only [List.take_succ_cons, List.cons_append, List.drop_succ_cons, List.modify_succ_cons]
      exact .cons hkey hx (ih j k v v' e (by simpa using he) hek hv f hf1 hf2)
theorem ERel.snoc {es : List (Value × Value)} {ents : List MapEntry} (h : ERel φ es ents) {k v : Value} {e : MapEntry} (hk : e.key = k) (hv : VRel φ v e.val) : ERel φ (es ++ [(k, v)]) (ents ++ [e]) := by
  induction h with
  | nil => exact .cons hk hv .nil
  | cons h1 h3 _ ih => exact .cons h1 h3 ih
theorem run_setObj_map {r : Nat} {ents : Array MapEntry} {clock : Nat} (h : w.heap[r]? = some (.map ents clock)) (o : Obj) : (setObj r o).run P w = .ok () (World.put w r o) := by
  simp [setObj, Sem.run, h, World.put]
theorem mapPutA_sound (h : HRel G φ H w) {t : TypeId} {m m' k k' v v' : Value} {H' : AHeap} (hm : VRel φ m m') (hk : VRel φ k k') (hv : VRel φ v v') (e : mapPutA P t m k v H = some H') :
    ∃ w', (Instr.mapUpdate t m' k' v').run P w = .ok () w' ∧ HRel G φ H' w' ∧ Later φ H w φ H' w' := by
  simp only [mapPutA, Option.bind_eq_some_iff, Option.map_eq_some_iff] at e
  obtain ⟨q, hq, r, hr, rfl⟩ := e
  obtain ⟨kt, vt, d, ents, clock, ht, rfl, rfl, rfl, hd, hkd, hob, he, hget⟩ := mapIn_some h hm hk hq
  obtain ⟨r', hfk, h2⟩ := findKey_sound (w := w) hd hkd he hr
  have hck : ∀ b, (Instr.checkKey b 10000 kt k').run P w = .ok () w := fun b => run_checkKey' hd hkd
  rcases h2 with ⟨rfl, rfl⟩ | ⟨j, v1, v2, e2, rfl, rfl, h5, h7, h8⟩
  · have := h.upd hget rfl (.amap (mapSet q.2 k' v none)) (.map (ents.push { key := k', val := v', born := clock }) (clock + 1)) (by
      refine .amap ?_
      simp only [mapSet, Array.toList_push]
      exact he.snoc rfl hv) (.inr trivial)
    refine ⟨_, ?_, this.1, this.2⟩
    simp [Instr.mapUpdate, run_underlying ht, run_getObj_map hob, hck, hfk, run_setObj_map hob]
  · have hkey := h8
    have := h.upd hget rfl (.amap (mapSet q.2 k' v (some (j, v1)))) (.map (ents.modify j fun e => { e with key := k', val := v' }) clock) (by
      refine .amap ?_
      simp only [mapSet, Array.toList_modify]
      exact he.set j k' v v' e2 (by simpa using h7) hkey hv _ rfl rfl) (.inr trivial)
    refine ⟨_, ?_, this.1, this.2⟩
    have h7' : ents[j]? = some e2 := by simpa using h7
    have hsb : Instr.sameBits 10000 k' k' = true := by
      rcases hkd with ⟨s, rfl, _⟩ | ⟨a, c, k', rfl, _⟩ | ⟨x, y, rfl, _⟩
      · simp [Instr.sameBits, beq_toListBytes]
      · simp [Instr.sameBits]
      · simp [Instr.sameBits]
    simp [Instr.mapUpdate, run_underlying ht, run_getObj_map hob, hck, hfk, h7', hkey, Instr.keyThatStays, hsb, run_setObj_map hob]
end
end Go.Eng

namespace Go.Eng
open Go
section
variable {P : Program} {w : World} {φ : Emb} {G : Nat} {H : AHeap}
theorem two_some {f : IntKind × Int → IntKind × Int → Option Value} {args : List Value} {v : Value} (e : two f args = some v) : ∃ p q, args = [.int p.1 p.2, .int q.1 q.2] ∧ f p q = some v := by
  simp only [two, Option.bind_eq_some_iff, bif_some, beq_nat] at e
  obtain ⟨x, hx, y, hy, hl, p, hp, q, hq, hf⟩ := e
  refine ⟨p, q, ?_, hf⟩
  match args, hl with
  | [a, b], _ =>
    simp at hx hy
    subst hx; subst hy
    rw [vInt_some hp, vInt_some hq]
theorem LRel.two_ints {p q : IntKind × Int} {l : List Value} (h : LRel φ [.int p.1 p.2, .int q.1 q.2] l) : l = [.int p.1 p.2, .int q.1 q.2] := by
  cases h with
  | cons h1 h2 => cases h2 with
    | cons h3 h4 => cases h4; rw [h1.int_inv, h3.int_inv]
theorem maxI_sound {ts : Array TypeId} {ty : TypeId} {args : List Value} {args' : Array Value} {v : Value} (ha : LRel φ args args'.toList) (e : two maxI args = some v) : (Builtin.max_ ts ty args').run P w = .ok v w ∧ plain v = true := by
  obtain ⟨p, q, rfl, hf⟩ := two_some e
  have := ha.two_ints
  simp only [maxI, bif_some, Option.some.injEq] at hf
  obtain ⟨hk, rfl⟩ := hf
  refine ⟨?_, rfl⟩
  simp [Builtin.max_, this, Builtin.max2]
theorem minI_sound {ts : Array TypeId} {ty : TypeId} {args : List Value} {args' : Array Value} {v : Value} (ha : LRel φ args args'.toList) (e : two minI args = some v) : (Builtin.min_ ts ty args').run P w = .ok v w ∧ plain v = true := by
  obtain ⟨p, q, rfl, hf⟩ := two_some e
  have := ha.two_ints
  simp only [minI, bif_some, Option.some.injEq] at hf
  obtain ⟨hk, rfl⟩ := hf
  refine ⟨?_, rfl⟩
  simp [Builtin.min_, this, Builtin.min2]
theorem one_arg {args : List Value} {args' : Array Value} {x : Value} (ha : LRel φ args args'.toList) (h0 : args[0]? = some x) (hl : args.length = 1) : ∃ x', args' = #[x'] ∧ VRel φ x x' := by
  obtain ⟨x', h1, h2⟩ := ha.get h0
  refine ⟨x', ?_, h2⟩
  have hs : args'.size = 1 := by have := ha.length; simp at this; omega
  apply Array.ext'
  have : args'.toList.length = 1 := by simpa using hs
  match hq : args'.toList, this with
  | [a], _ => rw [hq] at h1; simp at h1; simp [h1]
theorem sliceData_sound {ts : Array TypeId} {ty : TypeId} {s : Sl} {x' v : Value} (hx : VRel φ (.slice s.base s.len s.cap) x') (e : dataOf s = some v) :
    ∃ v', (Builtin.unsafeSliceData_ ts ty #[x']).run P w = .ok v' w ∧ VRel φ v v' := by
  simp only [dataOf] at e
  rcases hx.sl_inv with ⟨h1, rfl⟩ | ⟨i, o, sp, c', h1, hlt, rfl, hc⟩ | ⟨a', c0', h1, hl0, hc0, rfl⟩
  rotate_right
  · rw [h1] at e
    simp only [bif_some, blt_nat] at e
    omega
  · rw [h1] at e
    simp only [Option.some.injEq] at e
    subst e
    exact ⟨_, Lib.run_unsafeSliceData_nil w ts ty s.len s.cap, .base rfl⟩
  · rw [h1] at e
    simp only [bif_some, blt_nat, Option.some.injEq] at e
    obtain ⟨hc0, rfl⟩ := e
    refine ⟨_, Lib.run_unsafeSliceData_row w ts ty _ s.len c' ?_, .ptr hlt⟩
    rcases hc with ⟨_, rfl⟩ | ⟨_, _, h3, _⟩ <;> omega
theorem freeze_put {b o k : Nat} {C : Array Value} {e : TypeId} {lo hi : Nat} (h : w.heap[b]? = some (.cells C e (lo, hi))) (hk : k ≠ 0) :
    ∃ fr, w.freeze ⟨b, o, none⟩ k = World.put w b (.cells C e fr) := by
  have hlt : b < w.heap.size := (Array.getElem?_eq_some_iff.1 h).1
  have hv : w.heap[b] = .cells C e (lo, hi) := (Array.getElem?_eq_some_iff.1 h).2
  refine ⟨if lo == hi then (o, o + k) else (min lo o, max hi (o + k)), ?_⟩
  unfold World.freeze World.put
  rw [if_neg hk]
  congr 1
  apply Array.ext_getElem?
  intro i
  simp only [Array.getElem?_modify, Array.getElem?_setIfInBounds]
  by_cases hbi : b = i
  · subst hbi; simp [hlt, hv]
  · simp [hbi]
theorem liesAt_bytes' {e : TypeId} (hc : P.cellsOf e = 1) (count o k : Nat) (hn : o + k ≤ count) : liesAt P P.depth e count o e k = true := by
  have hd : P.depth = (2 * (P.types.size + Made.depth) + 1) + 1 := rfl
  rw [hd]
  simp only [liesAt, Bool.or_eq_true]
  left
  rw [hd]
  simp [rowAt, hc, hn, sameLayout]
  exact .inl (Nat.mod_one _)
theorem strOfPtr_sound (h : HRel G φ H w) {pt it ty u : TypeId} {p : Nat × Nat} {k : Nat} {ik : IntKind} {r : Value × AHeap} (hpt : P.underlying pt = some (.pointer u)) (hk0 : k ≠ 0) (he : strOfPtr P u p k H = some r) :
    Gives P G φ H w (Builtin.unsafeString_ #[pt, it] ty #[.pointer (some ⟨(φ p.1).block, (φ p.1).shift + p.2, none⟩), .int ik k]) r := by
  simp only [strOfPtr, Option.bind_eq_some_iff, bif_some, Bool.and_eq_true, beq_nat, ble_nat, Option.map_eq_some_iff] at he
  obtain ⟨row, hr, ⟨⟨⟨⟨hrw, hu8⟩, hel⟩, hsz1⟩, hk6⟩, cs, hcs, l, hl, rfl⟩ := he
  obtain ⟨vs', hvl, hlen, hcell⟩ := h.cells hr hcs
  obtain rfl := bytesOfVals_some hl
  obtain rfl := hvl.ints
  obtain ⟨C, fr, hC, hsz, hsh, hlr, hfr, hwh⟩ := h.rowAt hr
  obtain rfl := hfr hrw
  have hll : l.length = k := by simpa using hlen
  have hcsl := (takeN_some hcs).1
  have hfit : p.2 + k ≤ row.cs.length := by
    have := (takeN_some hcs).2
    have h2 := congrArg List.length this
    simp at h2
    omega
  have hcells : P.cellsOf u = 1 := by
    unfold Program.cellsOf
    unfold sizeT at hsz1
    exact hsz1
  have hlies := liesAt_bytes' (P := P) hcells (C.size / P.cellsOf u) ((φ p.1).shift + p.2) k (by rw [hcells, Nat.div_one]; omega)
  have hlb := Lib.run_loadBytes (P := P) w l ⟨(φ p.1).block, (φ p.1).shift + p.2, none⟩ .empty (fun j x hj => hcell j _ (by simp [hj]))
  obtain ⟨fr, hfz⟩ := freeze_put (o := (φ p.1).shift + p.2) hC hk0
  have hup := h.upd (row_some hr) (by simpa [owned] using hrw) (.cells row.elem false false row.cs) (.cells C row.elem fr) (.cells hsz hsh hlr (by simp) (by simp)) (.inr trivial)
  refine ⟨.string (ofBytes l), _, φ, ?_, hup.1, hup.2, .base rfl⟩
  rw [← hfz]
  have hshape := shape_cells hC
  rw [hel] at hshape
  rw [hll] at hlb
  have hk1 : ¬ ((k : Int) < 0) := by omega
  have hk2 : ¬ ((9223372036854775807 : Int) < (k : Int)) := by omega
  have hmax : IntKind.i64.max = 9223372036854775807 := rfl
  have hdef : Builtin.unsafeString_ #[pt, it] ty #[.pointer (some ⟨(φ p.1).block, (φ p.1).shift + p.2, none⟩), .int ik k] =
      (do
        let n ← asInt (.int ik k)
        if n < 0 then runtimePanic (.error "unsafe.String: len out of range")
        if n > IntKind.i64.max then unsupported (.unsafePointer "String: a length above the largest int")
        if n = 0 then pure (.string .empty)
        else if ← variablesAt ⟨(φ p.1).block, (φ p.1).shift + p.2, none⟩ (← elemOf pt) n.toNat then do
          let s ← loadBytes ⟨(φ p.1).block, (φ p.1).shift + p.2, none⟩ .empty n.toNat
          freeze ⟨(φ p.1).block, (φ p.1).shift + p.2, none⟩ n.toNat
          pure (.string s)
        else unsupported (.unsafePointer "String: not so many bytes at ptr")) := rfl
  rw [hdef]
  simp [asInt, asIntOf, hmax, hk1, hk2, hk0, variablesAt, hshape, elemOf, run_underlying hpt, hlies, hlb, ofBytes]
theorem unsafeStr_sound (h : HRel G φ H w) {ts : Array TypeId} {ty : TypeId} {args : List Value} {args' : Array Value} {r : Value × AHeap} (ha : LRel φ args args'.toList)
    (he : unsafeStr P ts.toList args H = some r) : Gives P G φ H w (Builtin.unsafeString_ ts ty args') r := by
  simp only [unsafeStr, Option.bind_eq_some_iff, bif_some, beq_nat, Bool.and_eq_true] at he
  obtain ⟨t, ht, pv, hpv, nv, hnv, ⟨hlen, hts⟩, a, hav, k, hk, he⟩ := he
  obtain ⟨p', hp', hpr⟩ := ha.get hpv
  obtain ⟨n', hn', hnr⟩ := ha.get hnv
  obtain ⟨rfl, ik, rfl⟩ := hnr.nat hk
  obtain rfl := vPtr_some hav
  have hargs : args' = #[p', .int ik k] := by
    apply Array.ext'
    have hs : args'.toList.length = 2 := by rw [← ha.length]; exact hlen
    match hq : args'.toList, hs with
    | [x, y], _ => rw [hq] at hp' hn'; simp at hp' hn'; simp [hp', hn']
  obtain ⟨it, rfl⟩ : ∃ it, ts = #[t, it] := by
    have hs : ts.toList.length = 2 := hts
    match hq : ts.toList, hs with
    | [x, y], _ =>
      rw [hq] at ht
      simp at ht
      subst ht
      exact ⟨y, by apply Array.ext'; simpa using hq⟩
  subst hargs
  by_cases hk0 : k = 0
  · subst hk0
    simp only [Nat.beq_refl, cond_true, Option.some.injEq] at he
    subst he
    refine Gives.same h (v' := .string .empty) ?_ (.base rfl)
    rcases hpr.ptr_inv with ⟨_, rfl⟩ | ⟨i, o, _, _, rfl⟩
    · have hdef : Builtin.unsafeString_ #[t, it] ty #[.pointer none, .int ik (0 : Nat)] =
        (do
          let n ← asInt (.int ik (0 : Nat))
          if n < 0 then runtimePanic (.error "unsafe.String: len out of range")
          if n > IntKind.i64.max then unsupported (.unsafePointer "String: a length above the largest int")
          if n = 0 then pure (.string .empty)
          else runtimePanic (.error "unsafe.String: ptr is nil and len is not zero")) := rfl
      have hmax : IntKind.i64.max = 9223372036854775807 := rfl
      rw [hdef]
      simp [asInt, asIntOf, hmax]
    · have hdef : ∀ a, Builtin.unsafeString_ #[t, it] ty #[.pointer (some a), .int ik (0 : Nat)] =
        (do
          let n ← asInt (.int ik (0 : Nat))
          if n < 0 then runtimePanic (.error "unsafe.String: len out of range")
          if n > IntKind.i64.max then unsupported (.unsafePointer "String: a length above the largest int")
          if n = 0 then pure (.string .empty)
          else if ← variablesAt a (← elemOf t) n.toNat then do
            let s ← loadBytes a .empty n.toNat
            freeze a n.toNat
            pure (.string s)
          else unsupported (.unsafePointer "String: not so many bytes at ptr")) := fun _ => rfl
      have hmax : IntKind.i64.max = 9223372036854775807 := rfl
      rw [hdef]
      simp [asInt, asIntOf, hmax]
  · simp only [beq_nat_false.2 hk0, cond_false, Option.bind_eq_some_iff] at he
    obtain ⟨q, ⟨b, rfl, hq⟩, u, ⟨d, hd, hu⟩, he⟩ := he
    obtain rfl := plainAddr_some hq
    obtain rfl := dPtr_some hu
    rcases hpr.ptr_inv with ⟨h1, _⟩ | ⟨i, o, h1, hlt, rfl⟩
    · cases h1
    cases h1
    exact strOfPtr_sound h hd hk0 he
theorem builtinA_sound (h : HRel G φ H w) {b : Builtin} {ts : Array TypeId} {ty : TypeId} {cst : Array Bool} {args : List Value} {args' : Array Value} {r : Value × AHeap} (ha : LRel φ args args'.toList)
    (he : builtinA P b ts.toList args H = some r) : ∃ s : Sem Value, (builtin b ts ty cst args') = (do pure (.value (← s))) ∧ Gives P G φ H w s r := by
  have arr : ∀ {x : Value}, args[0]? = some x → ∃ x', args'[0]? = some x' ∧ VRel φ x x' := by
    intro x hx
    obtain ⟨x', h1, h2⟩ := ha.get hx
    exact ⟨x', by simpa using h1, h2⟩
  cases b <;> simp only [builtinA, keepH, Option.bind_eq_some_iff, Option.map_eq_some_iff, reduceCtorEq] at he
  case append =>
    simp only [appendA, Option.bind_eq_some_iff, bif_some, Bool.and_eq_true, beq_nat] at he
    obtain ⟨t, ht, tx, htx, sv, hsv, xv, hxv, ⟨hal, htl⟩, e, hel, s, hs, he⟩ := he
    obtain ⟨s', hs', hsr⟩ := ha.get hsv
    obtain ⟨x', hx', hxr⟩ := ha.get hxv
    obtain rfl := vSl_some hs
    have hargs : args' = #[s', x'] := by
      apply Array.ext'
      have hs : args'.toList.length = 2 := by rw [← ha.length]; exact hal
      match hq : args'.toList, hs with
      | [x, y], _ => rw [hq] at hs' hx'; simp at hs' hx'; simp [hs', hx']
    have htt : ts = #[t, tx] := by
      apply Array.ext'
      match hq : ts.toList, htl with
      | [x, y], _ => rw [hq] at ht htx; simp at ht htx; simp [ht, htx]
    subst hargs; subst htt
    exact ⟨_, rfl, appendE_sound h (elemT_some hel) hsr hxr he⟩
  case len =>
    simp only [bif_some, beq_nat, Option.map_eq_some_iff] at he
    obtain ⟨t, ht, x, hx, hl, v, hv, rfl⟩ := he
    obtain ⟨x', rfl, hxr⟩ := one_arg ha hx hl
    have := lenA_sound (P := P) (ty := ty) h (by simpa using ht) hxr hv
    exact ⟨_, rfl, .same h this.1 (.base this.2)⟩
  case cap =>
    simp only [bif_some, beq_nat, Option.map_eq_some_iff] at he
    obtain ⟨t, ht, x, hx, hl, v, hv, rfl⟩ := he
    obtain ⟨x', rfl, hxr⟩ := one_arg ha hx hl
    have := capA_sound (P := P) (w := w) (ty := ty) (ts := ts) (by simpa using ht) hxr hv
    exact ⟨_, rfl, .same h this.1 (.base this.2)⟩
  case copy => exact ⟨_, rfl, copyA_sound h ha he⟩
  case clear => exact ⟨_, rfl, clearA_sound h ha he⟩
  case max =>
    obtain ⟨v, hv, rfl⟩ := he
    have := maxI_sound (P := P) (w := w) (ts := ts) (ty := ty) ha hv
    exact ⟨_, rfl, .same h this.1 (.base this.2)⟩
  case min =>
    obtain ⟨v, hv, rfl⟩ := he
    have := minI_sound (P := P) (w := w) (ts := ts) (ty := ty) ha hv
    exact ⟨_, rfl, .same h this.1 (.base this.2)⟩
  case unsafeString => exact ⟨_, rfl, unsafeStr_sound h ha he⟩
  case unsafeSliceData =>
    obtain ⟨x, hx, he⟩ := he
    simp only [bif_some, beq_nat, Option.bind_eq_some_iff, Option.map_eq_some_iff] at he
    obtain ⟨hl, s, hs, v, hv, rfl⟩ := he
    obtain ⟨x', rfl, hxr⟩ := one_arg ha hx hl
    obtain rfl := vSl_some hs
    obtain ⟨v', h1, h2⟩ := sliceData_sound (P := P) (w := w) (ts := ts) (ty := ty) hxr hv
    exact ⟨_, rfl, .same h h1 h2⟩
end
end Go.Eng

namespace Go.Eng
open Go
section
variable {P : Program} {w : World} {φ : Emb} {G : Nat} {H : AHeap}
theorem aval_sound (h : HRel G φ H w) {F : Fr} {a : Act} (hF : FrRel φ F a.tmps) {x : Operand} {v : Value} (e : aval G F x = some v) : VRel φ v (a.eval x) := by
  cases x with
  | tmp t => simp only [aval, Option.some.injEq] at e; subst e; exact hF.2 t
  | const c => simp only [aval, bif_some, Option.some.injEq] at e; obtain ⟨hp, rfl⟩ := e; exact .base hp
  | global g =>
    simp only [aval, bif_some, blt_nat, Option.some.injEq] at e
    obtain ⟨hg, rfl⟩ := e
    have := VRel.ptr (φ := φ) (i := g) (o := 0) (h.glob g hg).1
    rw [(h.glob g hg).2.1, (h.glob g hg).2.2] at this
    exact this
  | func f =>
    simp only [aval, Option.some.injEq] at e
    subst e
    exact .fn (.func f) rfl rfl (by simp) (by simp)
theorem avals_sound (h : HRel G φ H w) {F : Fr} {a : Act} (hF : FrRel φ F a.tmps) : ∀ {xs : List Operand} {vs : List Value}, avals G F xs = some vs → LRel φ vs (xs.map a.eval)
  | [], vs, e => by simp only [avals, Option.some.injEq] at e; subst e; exact .nil
  | x :: xs, vs, e => by
    simp only [avals, Option.bind_eq_some_iff, Option.map_eq_some_iff] at e
    obtain ⟨v, hv, r, hr, rfl⟩ := e
    exact .cons (aval_sound h hF hv) (avals_sound h hF hr)
theorem optVal_sound (h : HRel G φ H w) {F : Fr} {a : Act} (hF : FrRel φ F a.tmps) {x : Option Operand} {v : Option Value} (e : optVal G F x = some v) : OVRel φ v (x.map a.eval) := by
  cases x with
  | none => simp only [optVal, Option.some.injEq] at e; subst e; exact .none
  | some x => simp only [optVal, Option.map_eq_some_iff] at e; obtain ⟨v', hv, rfl⟩ := e; exact .some (aval_sound h hF hv)
def Applies (P : Program) (fr : Frame) (cs : List Frame) (s : Sem Next) (w : World) (v' : Value) (w' : World) : Prop :=
  (s.run P w = .ok (.value v') w') ∨ (s.run P w = .ok .skip w' ∧ v' = undef) ∨
  (∃ f args w1, s.run P w = .ok (.enter f args) w1 ∧ Steps P (lone (Frame.enter P f args .normal) (fr :: cs) w1) (lone (fr.finish v') cs w')) ∨
  (∃ l f tmps assign body w1, s.run P w = .ok (.round l f tmps assign body) w1 ∧ Steps P (lone (Frame.round l f tmps assign body .normal) (fr :: cs) w1) (lone (fr.finish v') cs w'))
def OpGives (P : Program) (G : Nat) (φ : Emb) (H : AHeap) (w : World) (s : Sem Next) (r : Value × AHeap) : Prop :=
  ∀ (fr : Frame) (cs : List Frame), ∃ v' w' φ', Applies P fr cs s w v' w' ∧ HRel G φ' r.2 w' ∧ Later φ H w φ' r.2 w' ∧ VRel φ' r.1 v'
theorem Gives.op {s : Sem Value} {r : Value × AHeap} (h : Gives P G φ H w s r) : OpGives P G φ H w (do pure (.value (← s))) r := by
  intro fr cs
  obtain ⟨v', w', φ', h1, h2⟩ := h
  exact ⟨v', w', φ', .inl (by simp [h1]), h2⟩
theorem OpGives.val (h : HRel G φ H w) {v v' : Value} (hv : VRel φ v v') : OpGives P G φ H w (pure (.value v')) (v, H) :=
  fun _ _ => ⟨v', w, φ, .inl rfl, h, Later.refl _ _ _, hv⟩
theorem undef_rel : VRel φ undefV undef := .tuple rfl (fun i h => by simp at h)
theorem OpGives.skip {s : Sem Unit} {H' : AHeap} (h : ∃ w', s.run P w = .ok () w' ∧ HRel G φ H' w' ∧ Later φ H w φ H' w') : OpGives P G φ H w (do s; pure .skip) (undefV, H') := by
  intro fr cs
  obtain ⟨w', h1, h2, h3⟩ := h
  exact ⟨undef, w', φ, .inr (.inl ⟨by simp [h1], rfl⟩), h2, h3, undef_rel⟩
def CallOK (P : Program) (G : Nat) (call : Caller) : Prop :=
  ∀ f args H r, call f args H = some r → (∃ fn, P.funcs[f]? = some fn ∧ fn.body.isSome = true) ∧
    ∀ φ w (args' : Array Value), LRel φ args args'.toList → HRel G φ H w → ∀ cs, ∃ fr v' w' φ',
      Steps P (lone (Frame.enter P f args' .normal) cs w) (lone fr cs w') ∧ fr.fn = f ∧ fr.leaving P w' (.returned v') ∧ HRel G φ' r.2 w' ∧ Later φ H w φ' r.2 w' ∧ VRel φ' r.1 v'
def YiOK (P : Program) (G : Nat) (yi : Caller) : Prop :=
  ∀ l args H r, yi l args H = some r → ∀ φ w (args' : Array Value), LRel φ args args'.toList → HRel G φ H w → φ.dom l →
    ∃ f tmps assign body, (Instr.yield (φ l).block args').run P w = .ok (.round (φ l).block f tmps assign body) w ∧
      ∀ c cs, ∃ v' w' φ', Steps P (lone (Frame.round (φ l).block f tmps assign body .normal) (c :: cs) w) (lone (c.finish v') cs w') ∧ HRel G φ' r.2 w' ∧ Later φ H w φ' r.2 w' ∧ VRel φ' r.1 v'
def ExtOK (P : Program) (ext : FuncId → Option Ext) : Prop :=
  ∀ f e, ext f = some e → ∀ args H r, extA e args H = some r → ∀ G φ w (args' : Array Value), LRel φ args args'.toList → HRel G φ H w →
    ∃ v' w' φ', (callFunc f args').run P w = .ok (.value v') w' ∧ HRel G φ' r.2 w' ∧ Later φ H w φ' r.2 w' ∧ VRel φ' r.1 v'
def NoCount (P : Program) : Prop := ∀ (f : FuncId) (fn : Func), P.funcs[f]? = some fn → fn.body.isSome = true → (fn.name == "runtime.NumGoroutine") = false
theorem run_callFunc {f : FuncId} {fn : Func} {args : Array Value} (hn : NoCount P) (hf : P.funcs[f]? = some fn) (hb : fn.body.isSome = true) : (callFunc f args).run P w = .ok (.enter f args) w := by
  have h1 : fn.name ≠ "runtime.NumGoroutine" := by simpa using hn f fn hf hb
  have h2 : fn.body ≠ none := by intro h; rw [h] at hb; cases hb
  simp [callFunc, hf, h1, h2]
theorem callFn_sound {E : Env} {call : Caller} (hc : CallOK E.P G call) (he : ExtOK E.P E.ext) (hn : NoCount E.P) (h : HRel G φ H w) {f : FuncId} {args : List Value} {args' : Array Value} {r : Value × AHeap}
    (ha : LRel φ args args'.toList) (e : callFn E call f args H = some r) : OpGives E.P G φ H w (callFunc f args') r := by
  intro fr cs
  unfold callFn at e
  split at e
  · rename_i x hx
    obtain ⟨v', w', φ', h1, h2⟩ := he f x hx args H r e G φ w args' ha h
    exact ⟨v', w', φ', .inl h1, h2⟩
  · obtain ⟨⟨fn, hf, hb⟩, hcall⟩ := hc f args H r e
    obtain ⟨fr', v', w', φ', h1, h2, h3, h4⟩ := hcall φ w args' ha h (fr :: cs)
    exact ⟨v', w', φ', .inr (.inr (.inl ⟨f, args', w, run_callFunc hn hf hb, h1.trans (.one (step_leave_returned h3))⟩)), h4⟩
theorem callVal_sound {E : Env} {call yi : Caller} (hc : CallOK E.P G call) (hy : YiOK E.P G yi) (he : ExtOK E.P E.ext) (hn : NoCount E.P) (h : HRel G φ H w) {v : Fv} {v' : Value} {args : List Value} {args' : Array Value} {r : Value × AHeap}
    (hv : VRel φ (.func v.fn v.first.toArray v.cap.toArray) v') (ha : LRel φ args args'.toList) (e : callVal E call yi v args H = some r) :
    OpGives E.P G φ H w (do let d ← Deferred.ofValue v' args'; invoke d.target d.args) r := by
  obtain ⟨fn', a', b', rfl, hfn, hla, hlb⟩ := hv.func_inv
  dsimp only at hla hlb
  unfold callVal at e
  split at e
  · rename_i f hf
    have hvf : v.fn = .func f := by
      revert hf; cases v.fn <;> simp [fnFunc]
    rw [hvf] at hfn
    cases hfn
    have hl : LRel φ (v.first ++ (args ++ v.cap)) (a' ++ args' ++ b').toList := by
      simp only [Array.toList_append, List.append_assoc]
      exact hla.append (ha.append hlb)
    have := callFn_sound hc he hn h hl e
    exact this
  · rename_i hf
    simp only [Option.bind_eq_some_iff, bif_some, Bool.and_eq_true] at e
    obtain ⟨l, hl, ⟨he1, he2⟩, e⟩ := e
    have hvf : v.fn = .yield l := by
      revert hl; cases v.fn <;> simp [fnYield]
    rw [hvf] at hfn
    cases hfn with
    | yield _ hlt =>
    have ha0 : a' = #[] := by
      apply Array.ext'
      have := hla.length
      rw [List.isEmpty_iff.1 he1] at this
      simpa using (List.eq_nil_of_length_eq_zero this.symm)
    subst ha0
    intro fr cs
    obtain ⟨f, tmps, assign, body, h1, h2⟩ := hy l args H r e φ w args' ha h hlt
    obtain ⟨v', w', φ', h3, h4⟩ := h2 fr cs
    refine ⟨v', w', φ', .inr (.inr (.inr ⟨_, f, tmps, assign, body, w, ?_, h3⟩)), h4⟩
    simp [Deferred.ofValue, invoke, h1]
theorem callOpA_sound {E : Env} {call yi : Caller} (hc : CallOK E.P G call) (hy : YiOK E.P G yi) (he : ExtOK E.P E.ext) (hn : NoCount E.P) (hG : E.G = G) (h : HRel G φ H w) {F : Fr} {a : Act} (hF : FrRel φ F a.tmps)
    {c : Call} {ty : TypeId} {r : Value × AHeap} (e : callOpA E call yi F c H = some r) : OpGives E.P G φ H w (do let d ← resolve a.eval c ty; invoke d.target d.args) r := by
  subst hG
  simp only [callOpA, Option.bind_eq_some_iff] at e
  obtain ⟨args, hargs, e⟩ := e
  have hal := avals_sound h hF hargs
  have hal' : LRel φ args (c.args.map a.eval).toList := by simpa using hal
  cases hcal : c.callee with
  | builtin b =>
    rw [hcal] at e
    simp only [calleeA] at e
    obtain ⟨s, hs, hg⟩ := builtinA_sound h (ty := ty) (cst := c.args.map fun | .const _ => true | _ => false) hal' e
    have := hg.op
    rw [← hs] at this
    intro fr cs
    have hh := this fr cs
    simp only [resolve, hcal]
    exact hh
  | value f =>
    rw [hcal] at e
    simp only [calleeA, Option.bind_eq_some_iff] at e
    obtain ⟨fv, hfv, v, hv, e⟩ := e
    have hfr := aval_sound h hF hfv
    rw [vFunc_some hv] at hfr
    have := callVal_sound hc hy he hn h hfr hal' e
    intro fr cs
    have hh := this fr cs
    simp only [resolve, hcal]
    exact hh
  | invoke x nm =>
    rw [hcal] at e
    simp [calleeA] at e
theorem nonNil_sound {x x' v : Value} (hx : VRel φ x x') (e : nonNil x = some v) : v = x ∧ ((∃ a, x' = .pointer (some a)) ∨ (∃ f a b, x' = .func (.func f) a b) ∨ ∃ f a b, x' = .func (.yield f) a b) := by
  unfold nonNil at e
  split at e
  · rename_i a ha
    obtain rfl := vPtr_some ha
    simp only [bif_none_some, Option.some.injEq] at e
    obtain ⟨h1, rfl⟩ := e
    refine ⟨rfl, ?_⟩
    rcases hx.ptr_inv with ⟨rfl, _⟩ | ⟨i, o, rfl, _, rfl⟩
    · cases h1
    · exact .inl ⟨_, rfl⟩
  · simp only [Option.bind_eq_some_iff, bif_none_some, Option.some.injEq, Bool.and_eq_false_iff] at e
    obtain ⟨f, hf, h1, rfl⟩ := e
    refine ⟨rfl, ?_⟩
    have := vFunc_some hf
    subst this
    obtain ⟨fn', a', b', rfl, hfn, _⟩ := hx.func_inv
    cases hff : f.fn <;> rw [hff] at hfn h1 <;> first
      | (cases hfn; exact .inr (.inl ⟨_, _, _, rfl⟩))
      | (cases hfn; exact .inr (.inr ⟨_, _, _, rfl⟩))
      | (simp [fnFunc, fnYield, isNone] at h1)
theorem ifaceA_sound {t : TypeId} {x x' v : Value} (hx : VRel φ x x') (e : ifaceA P t x = some v) : ∃ v', (Instr.makeInterface t x').run P w = .ok v' w ∧ VRel φ v v' := by
  simp only [ifaceA, Option.bind_eq_some_iff, bif_none_some, Option.some.injEq, Bool.or_eq_false_iff] at e
  obtain ⟨d, hd, ⟨h1, _⟩, rfl⟩ := e
  refine ⟨.iface t x', ?_, .iface hx⟩
  simp only [Instr.makeInterface, Sem.run_bind, run_underlying hd, Result.andThen_ok]
  cases d <;> first | rfl | simp [dIface] at h1
theorem makeFuncA_sound (h : HRel G φ H w) {F : Fr} {a : Act} (hF : FrRel φ F a.tmps) {fn : Fn} {x y : Array Operand} {v : Value} (e : makeFuncA G F fn x.toList y.toList = some v) :
    VRel φ v (.func fn (x.map a.eval) (y.map a.eval)) := by
  simp only [makeFuncA, Option.bind_eq_some_iff, Option.map_eq_some_iff] at e
  obtain ⟨f, hf, p, hp, q, hq, rfl⟩ := e
  have hfn : fn = .func f := by revert hf; cases fn <;> simp [fnFunc]
  subst hfn
  have h1 := avals_sound h hF hp
  have h2 := avals_sound h hF hq
  have k1 := arr_LRel (a := p.toArray) (a' := x.map a.eval) |>.2 (by simpa using h1)
  have k2 := arr_LRel (a := q.toArray) (a' := y.map a.eval) |>.2 (by simpa using h2)
  exact .fn (.func f) k1.1 k2.1 k1.2 k2.2
theorem extractA_sound {x x' v : Value} {i : Nat} (hx : VRel φ x x') (e : extractA x i = some v) : ∃ v', (Instr.extract x' i).run P w = .ok v' w ∧ VRel φ v v' := by
  simp only [extractA, Option.bind_eq_some_iff] at e
  obtain ⟨vs, hvs, hi⟩ := e
  obtain rfl := vTup_some hvs
  obtain ⟨a', rfl, hl⟩ := hx.tuple_inv
  obtain ⟨v', h1, h2⟩ := hl.get (j := i) (by simpa using hi)
  refine ⟨v', ?_, h2⟩
  have : a'[i]? = some v' := by simpa using h1
  simp [Instr.extract, this]
theorem makeMap_allocs (t : TypeId) : Allocs P φ w (Instr.makeMap t none) (fun i => .map (some i)) (.amap []) := by
  refine ⟨.map #[] 0, ⟨w.heap.size, 0, 0⟩, .map (some w.heap.size), w.drawn, ?_, rfl, .amap .nil, ?_⟩
  · simp [Instr.makeMap]
  · intro φ2 i hd hl
    have := VRel.map (φ := φ2) (r := i) hd
    rw [hl] at this
    exact this
structure Good (E : Env) (G : Nat) (call yi : Caller) : Prop where
  call : CallOK E.P G call
  yi : YiOK E.P G yi
  ext : ExtOK E.P E.ext
  names : NoCount E.P
  mixed : E.P.follows .mixedOrders = true
  hG : E.G = G
theorem opA_sound {E : Env} {call yi : Caller} (g : Good E G call yi) (h : HRel G φ H w) {F : Fr} {a : Act} (hF : FrRel φ F a.tmps) {o : Oper} {r : Value × AHeap} (e : opA E call yi F H o.op = some r) :
    OpGives E.P G φ H w (execOp a.eval o) r := by
  have hG := g.hG
  have ev : ∀ {x v}, aval E.G F x = some v → VRel φ v (a.eval x) := by
    intro x v hv; rw [hG] at hv; exact aval_sound h hF hv
  have pv : ∀ {ps l}, partVals E.G F ps = some l → PRel φ l (ps.map fun p => (p.1, a.eval p.2)) := fun hp => partVals_sound (fun _ _ hv => ev hv) _ _ hp
  have ov : ∀ {x v}, optVal E.G F x = some v → OVRel φ v (x.map a.eval) := by
    intro x v hv; rw [hG] at hv; exact optVal_sound h hF hv
  unfold execOp
  cases hop : o.op <;> rw [hop] at e <;> simp only [opA, keepH, skipV, Option.bind_eq_some_iff, Option.map_eq_some_iff, reduceCtorEq, opBuild, opBuildSlice, opLoad, opStore, opBin, opMakeSlice, opSlice, opIndexAddr, opIndex, opLookup, opPut, opMakeMap] at e <;> try dsimp only
  case move x => obtain ⟨v, hv, rfl⟩ := e; exact .val h (ev hv)
  case assign x => obtain ⟨v, hv, rfl⟩ := e; exact .val h (ev hv)
  case pick c x y =>
    obtain ⟨v, hv, rfl⟩ := e
    simp only [pickA, Option.bind_eq_some_iff, Option.map_eq_some_iff] at hv
    obtain ⟨cv, hc, t, ht, xv, hx, yv, hy, rfl⟩ := hv
    obtain rfl := vBool_some ht
    have := (ev hc).bool_inv
    intro fr cs
    refine ⟨if t then a.eval x else a.eval y, w, φ, .inl ?_, h, Later.refl _ _ _, ?_⟩
    · simp [this, asBool]
    · cases t
      · exact ev hy
      · exact ev hx
  case alloc el => obtain ⟨obj, rfl, _, ha⟩ := opAlloc_sound (w := w) (φ := φ) e; exact (ha.gives h).op
  case box el x =>
    obtain ⟨v, hv, e⟩ := e
    obtain ⟨obj, rfl, _, ha⟩ := boxA_sound (P := E.P) (w := w) (ev hv) e
    exact (ha.gives h).op
  case build t ps =>
    obtain ⟨v, ⟨l, hl, hv⟩, rfl⟩ := e
    obtain ⟨v', h1, h2⟩ := buildA_sound (P := E.P) (w := w) (pv hl) hv
    refine (Gives.same h ?_ h2).op
    have e1 : (Array.map (fun x => (x.fst, a.eval x.snd)) ps) = (List.map (fun p => (p.fst, a.eval p.snd)) ps.toList).toArray := by apply Array.ext'; simp
    rw [e1]; exact h1
  case buildSlice t n ps =>
    obtain ⟨l, hl, e⟩ := e
    obtain ⟨obj, rfl, _, ha⟩ := buildSliceA_sound (w := w) (pv hl) e
    have := ha.gives h
    have e1 : (Array.map (fun x => (x.fst, a.eval x.snd)) ps) = (List.map (fun p => (p.fst, a.eval p.snd)) ps.toList).toArray := by apply Array.ext'; simp
    refine (this.of_run ?_).op
    rw [e1]
  case load t x => obtain ⟨v, ⟨p, hp, hv⟩, rfl⟩ := e; obtain ⟨v', h1, h2⟩ := loadA_sound (P := E.P) h (ev hp) hv; exact (Gives.same h h1 h2).op
  case store t x y =>
    obtain ⟨H', ⟨p, hp, q, hq, hv⟩, rfl⟩ := e
    exact .skip (storeA_sound (P := E.P) h (ev hp) (ev hq) hv)
  case nilCheck x =>
    obtain ⟨v, ⟨p, hp, hv⟩, rfl⟩ := e
    obtain ⟨rfl, hs⟩ := nonNil_sound (ev hp) hv
    intro fr cs
    refine ⟨a.eval x, w, φ, .inl ?_, h, Later.refl _ _ _, ev hp⟩
    rcases hs with ⟨_, hs⟩ | ⟨_, _, _, hs⟩ | ⟨_, _, _, hs⟩ <;> rw [hs] <;> rfl
  case binOp op t x y b =>
    obtain ⟨v, ⟨p, hp, q, hq, hv⟩, rfl⟩ := e
    have := binA_sound (P := E.P) (w := w) (ev hp) (ev hq) hv
    exact (Gives.same h this.1 (.base this.2)).op
  case unOp op t x =>
    obtain ⟨v, ⟨p, hp, hv⟩, rfl⟩ := e
    have := unA_sound (P := E.P) (w := w) (ev hp) hv
    exact (Gives.same h this.1 (.base this.2)).op
  case convert s d x => obtain ⟨p, hp, e⟩ := e; exact (convA_sound h (ev hp) e).op
  case makeInterface t x =>
    obtain ⟨v, ⟨p, hp, hv⟩, rfl⟩ := e
    obtain ⟨v', h1, h2⟩ := ifaceA_sound (P := E.P) (w := w) (ev hp) hv
    exact (Gives.same h h1 h2).op
  case makeFunc fn x y =>
    obtain ⟨v, hv, rfl⟩ := e
    rw [hG] at hv
    exact (Gives.same (P := E.P) h (s := Instr.makeFunc fn (x.map a.eval) (y.map a.eval)) rfl (makeFuncA_sound h hF hv)).op
  case makeMap t rsv =>
    simp only [bif_some, isNone_true, Option.some.injEq] at e
    obtain ⟨rfl, rfl⟩ := e
    exact ((makeMap_allocs t).gives h).op
  case makeSlice t l c => obtain ⟨p, hp, q, hq, e⟩ := e; obtain ⟨obj, m, k, rfl, _, ha⟩ := makeSliceA_sound (w := w) (ev hp) (ev hq) e; exact (ha.gives h).op
  case slice t x lo hi mx =>
    obtain ⟨v, ⟨p, hp, l, hl, q, hq, m, hm, hv⟩, rfl⟩ := e
    obtain ⟨v', h1, h2⟩ := sliceA_sound (P := E.P) (w := w) (ev hp) (ov hl) (ov hq) (ov hm) hv
    exact (Gives.same h h1 h2).op
  case fieldAddr s x f =>
    obtain ⟨v, ⟨p, hp, hv⟩, rfl⟩ := e
    obtain ⟨v', h1, h2⟩ := fieldAddrA_sound (P := E.P) (w := w) (ev hp) hv
    exact (Gives.same h h1 h2).op
  case field s x f =>
    obtain ⟨v, ⟨p, hp, hv⟩, rfl⟩ := e
    obtain ⟨v', h1, h2⟩ := fieldA_sound (P := E.P) (w := w) (ev hp) hv
    exact (Gives.same h h1 h2).op
  case indexAddr t x i =>
    obtain ⟨v, ⟨p, hp, q, hq, hv⟩, rfl⟩ := e
    obtain ⟨v', h1, h2⟩ := indexAddrA_sound (P := E.P) (w := w) (ev hp) (ev hq) hv
    exact (Gives.same h h1 h2).op
  case index t x i =>
    obtain ⟨v, ⟨p, hp, q, hq, hv⟩, rfl⟩ := e
    obtain ⟨v', h1, h2⟩ := indexA_sound (P := E.P) (w := w) (ev hp) (ev hq) hv
    exact (Gives.same h h1 h2).op
  case lookup t m k ok =>
    obtain ⟨v, ⟨p, hp, q, hq, hv⟩, rfl⟩ := e
    obtain ⟨v', h1, h2⟩ := lookupA_sound (P := E.P) h (ev hp) (ev hq) hv
    exact (Gives.same h h1 h2).op
  case mapUpdate t m k x =>
    obtain ⟨H', ⟨p, hp, q, hq, y, hy, hv⟩, rfl⟩ := e
    exact .skip (mapPutA_sound (P := E.P) h (ev hp) (ev hq) (ev hy) hv)
  case insert t m k x =>
    obtain ⟨H', ⟨p, hp, q, hq, y, hy, hv⟩, rfl⟩ := e
    exact .skip (mapPutA_sound (P := E.P) h (ev hp) (ev hq) (ev hy) hv)
  case extract t i =>
    obtain ⟨v, ⟨p, hp, hv⟩, rfl⟩ := e
    obtain ⟨v', h1, h2⟩ := extractA_sound (P := E.P) (w := w) (ev hp) hv
    exact (Gives.same h h1 h2).op
  case call c => exact callOpA_sound g.call g.yi g.ext g.names hG h hF e
end
end Go.Eng

namespace Go.Eng
open Go
section
variable {P : Program} {w : World} {φ : Emb} {G : Nat} {H : AHeap}
theorem Fr.at_set (F : Fr) (d : Nat) (v : Value) (i : Nat) : (F.set d v).at i = if i = d ∧ d < F.n then v else F.at i := by
  unfold Fr.set
  by_cases h : d < F.n
  · rw [blt_nat.2 h]
    simp only [cond_true, Fr.at, Tr.get_put _ _ _ _ _ (Nat.lt_succ_self d)]
    by_cases hi : i = d
    · simp [hi, h]
    · simp [hi]
  · rw [blt_nat_false.2 (by omega)]
    simp [h]
theorem Fr.n_set (F : Fr) (d : Nat) (v : Value) : (F.set d v).n = F.n := by
  unfold Fr.set
  cases Nat.blt d F.n <;> rfl
theorem FrRel.set {F : Fr} {t : Array Value} (h : FrRel φ F t) {v v' : Value} (hv : VRel φ v v') (d : Nat) : FrRel φ (F.set d v) (t.setIfInBounds d v') := by
  refine ⟨by rw [Fr.n_set]; simpa using h.1, fun i => ?_⟩
  rw [Fr.at_set]
  have hn := h.1
  by_cases hi : i = d ∧ d < F.n
  · obtain ⟨rfl, hd⟩ := hi
    rw [if_pos ⟨rfl, hd⟩]
    have : (t.setIfInBounds i v').getD i undef = v' := by
      simp [Array.getD, show i < t.size by omega]
    rw [this]; exact hv
  · rw [if_neg hi]
    have : (t.setIfInBounds d v').getD i undef = t.getD i undef := by
      simp only [Array.getD_eq_getD_getElem?, Array.getElem?_setIfInBounds]
      by_cases hd : d = i
      · subst hd
        have : ¬ d < t.size := by rw [← hn]; exact fun hh => hi ⟨rfl, hh⟩
        simp [this]
      · simp [hd]
    rw [this]; exact h.2 i
theorem FrRel.setT {F : Fr} {a : Act} (h : FrRel φ F a.tmps) {v v' : Value} (hv : VRel φ v v') (d : Option Tmp) : FrRel φ (Eng.setT F d v) (a.put d v').tmps := by
  cases d with
  | none => exact h
  | some d => exact h.set hv d
theorem put_defers (a : Act) (d : Option Tmp) (v : Value) : (a.put d v).defers = a.defers := by cases d <;> rfl
theorem yield_some {F : Fr} {a : Act} (hF : FrRel φ F a.tmps) {d : Tmp} {want : Bool} {r : Bool} (e : yieldB (F.at d) want = some r) :
    ((match a.tmps[d]? with | some (.bool b) => some b | _ => none) == some want) = r := by
  have h := hF.2 d
  unfold yieldB at e
  split at e
  · rename_i b hb
    rw [vBool_some hb] at h
    have h2 := h.bool_inv
    have h3 : a.tmps[d]? = some (.bool b) := by
      simp only [Array.getD_eq_getD_getElem?] at h2
      cases hq : a.tmps[d]? with
      | none => rw [hq] at h2; simp [undef] at h2
      | some x => rw [hq] at h2; simp at h2; rw [h2]
    simp only [Option.some.injEq] at e
    rw [h3, ← e]
    simp
  · simp only [bif_some, Option.some.injEq] at e
    obtain ⟨ht, rfl⟩ := e
    have h2 : isTup (a.tmps.getD d undef) = true := by rw [← h.tup]; exact ht
    have h3 : (match a.tmps[d]? with | some (.bool b) => some b | _ => none) = none := by
      simp only [Array.getD_eq_getD_getElem?] at h2
      cases hq : a.tmps[d]? with
      | none => rfl
      | some x => rw [hq] at h2; cases x <;> simp [isTup] at h2 <;> rfl
    rw [h3]; rfl
theorem wantedA_sound {ops : Array Oper} {F : Fr} {a : Act} (hF : FrRel φ F a.tmps) {o : Oper} {r : Bool} (e : wantedA ops.toList F o = some r) : Region.wanted o (yielded ops a.tmps) = r := by
  unfold wantedA at e
  unfold Region.wanted
  cases hg : o.guard with
  | none => rw [hg] at e; simpa using e
  | some g =>
    rw [hg] at e
    simp only [Option.bind_eq_some_iff] at e
    obtain ⟨p, hp, d, hd, e⟩ := e
    have := yield_some hF e
    obtain ⟨j, want⟩ := g
    have hp' : ops[j]? = some p := by simpa using hp
    simp only [yielded, hp', Option.bind_some, hd]
    exact this
theorem region_op {b : Frame} {a : Act} {k : List Item} {cs : List Frame} {ops : Array Oper} {i : Nat} {rest : List Nat} {o : Oper} {v' : Value} {w' : World} (ho : ops[i]? = some o)
    (hw : Region.wanted o (yielded ops a.tmps) = true) (hd : ∀ c, o.op ≠ .defer c) (h : Applies P (b.atR a (.inRegion ops (i :: rest) :: k)) cs (execOp a.eval o) w v' w') :
    Steps P (lone (b.atR a (.inRegion ops (i :: rest) :: k)) cs w) (lone (b.atR (a.put o.dst v') (.inRegion ops rest :: k)) cs w') := by
  have hg := stepGR_op (P := P) (b := b) (a := a) (k := k) (cs := cs) (w := w) (rest := rest) ho hw
  rw [Oper.semAt_eq _ _ _ hd] at hg
  have hfin : (b.atR a (.inRegion ops (i :: rest) :: k)).finish v' = b.atR (a.put o.dst v') (.inRegion ops rest :: k) := by
    rw [Frame.finish_atR, ho]; rfl
  rw [← hfin]
  rcases h with h | ⟨h, rfl⟩ | ⟨f, args, w1, h, hs⟩ | ⟨l, f, tmps, assign, body, w1, h, hs⟩
  · exact .one (step_lone_go (by rw [hg]; simp [stepG.apply, h]))
  · exact .one (step_lone_go (by rw [hg]; simp [stepG.apply, h]))
  · refine Steps.trans (.one (step_lone_go ?_)) hs
    rw [hg]; simp [stepG.apply, h, Frame.atR]
  · refine Steps.trans (.one (step_lone_go ?_)) hs
    rw [hg]; simp [stepG.apply, h, Frame.atR]
theorem opA_noDefer {E : Env} {call yi : Caller} {F : Fr} {o : Op} {r : Value × AHeap} (e : opA E call yi F H o = some r) : ∀ c, o ≠ .defer c := by
  rintro c rfl
  simp [opA] at e
theorem oneA_sound {E : Env} {call yi : Caller} (g : Good E G call yi) (h : HRel G φ H w) {F : Fr} {a : Act} (hF : FrRel φ F a.tmps) {ops : Array Oper} {i : Nat} {o : Oper} (ho : ops[i]? = some o) {r : Fr × AHeap}
    (e : oneA E call yi ops.toList o F H = some r) (b : Frame) (k : List Item) (cs : List Frame) (rest : List Nat) :
    ∃ a' w' φ', Steps E.P (lone (b.atR a (.inRegion ops (i :: rest) :: k)) cs w) (lone (b.atR a' (.inRegion ops rest :: k)) cs w') ∧ HRel G φ' r.2 w' ∧ Later φ H w φ' r.2 w' ∧ FrRel φ' r.1 a'.tmps ∧ a'.defers = a.defers := by
  simp only [oneA, Option.bind_eq_some_iff] at e
  obtain ⟨wt, hwt, e⟩ := e
  have hw := wantedA_sound hF hwt
  cases wt with
  | true =>
    simp only [cond_true, Option.map_eq_some_iff] at e
    obtain ⟨p, hp, rfl⟩ := e
    obtain ⟨v', w', φ', h1, h2, h3, h4⟩ := opA_sound g h hF hp (b.atR a (.inRegion ops (i :: rest) :: k)) cs
    exact ⟨_, w', φ', region_op ho hw (opA_noDefer hp) h1, h2, h3, (h3.f hF).setT h4 _, put_defers _ _ _⟩
  | false =>
    simp only [cond_false, Option.some.injEq] at e
    subst e
    refine ⟨a.put o.dst undef, w, φ, ?_, h, Later.refl _ _ _, hF.setT undef_rel _, put_defers _ _ _⟩
    have := stepR_op_skip (P := E.P) (b := b) (a := a) (k := k) (cs := cs) (w := w) (ops := ops) (i := i) (rest := rest) (by simp [ho, hw])
    rw [ho] at this
    exact .one this
theorem opsA_sound {E : Env} {call yi : Caller} (g : Good E G call yi) {ops : Array Oper} (b : Frame) (k : List Item) (cs : List Frame) : ∀ (l : List Oper) (i : Nat), (∀ j, l[j]? = ops[i + j]?) →
    ∀ {φ : Emb} {H : AHeap} {w : World} {F : Fr} {a : Act} {r : Fr × AHeap}, HRel G φ H w → FrRel φ F a.tmps → opsA E call yi ops.toList l F H = some r →
    ∃ a' w' φ', Steps E.P (lone (b.atR a (.inRegion ops (List.range' i l.length) :: k)) cs w) (lone (b.atR a' k) cs w') ∧ HRel G φ' r.2 w' ∧ Later φ H w φ' r.2 w' ∧ FrRel φ' r.1 a'.tmps ∧ a'.defers = a.defers
  | [], i, _, φ, H, w, F, a, r, h, hF, e => by
    simp only [opsA, Option.some.injEq] at e
    subst e
    exact ⟨a, w, φ, .one stepR_region_end, h, Later.refl _ _ _, hF, rfl⟩
  | o :: l, i, hl, φ, H, w, F, a, r, h, hF, e => by
    simp only [opsA, Option.bind_eq_some_iff] at e
    obtain ⟨p, hp, e⟩ := e
    have ho : ops[i]? = some o := by have := hl 0; simp at this; exact this.symm
    obtain ⟨a1, w1, φ1, h1, h2, h3, h4, h5⟩ := oneA_sound g h hF ho hp b k cs (List.range' (i + 1) l.length)
    obtain ⟨a2, w2, φ2, k1, k2, k3, k4, k5⟩ := opsA_sound g b k cs l (i + 1) (fun j => by
      have := hl (j + 1)
      simp at this
      rw [this]
      congr 1
      omega) h2 h4 e
    exact ⟨a2, w2, φ2, h1.trans k1, k2, h3.trans k3, k4, k5.trans h5⟩
def RegionOK (E : Env) (G : Nat) (call yi : Caller) (id : Nat) (ops : Array Oper) (d : Bool) : Prop :=
  ∀ (b : Frame) (k : List Item) (cs : List Frame) {φ : Emb} {H : AHeap} {w : World} {F : Fr} {a : Act} {r : Fr × AHeap}, HRel G φ H w → FrRel φ F a.tmps → regionA E call yi ops.toList d F H = some r →
    ∃ a' w' φ', Steps E.P (lone (b.atR a (.code (.region id ops d) :: k)) cs w) (lone (b.atR a' k) cs w') ∧ HRel G φ' r.2 w' ∧ Later φ H w φ' r.2 w' ∧ FrRel φ' r.1 a'.tmps ∧ a'.defers = a.defers
theorem region_text {E : Env} {call yi : Caller} (g : Good E G call yi) (id : Nat) (ops : Array Oper) : RegionOK E G call yi id ops false := by
  intro b k cs φ H w F a r h hF e
  simp only [regionA, cond_false] at e
  obtain ⟨a', w', φ', h1, h2⟩ := opsA_sound g b k cs ops.toList 0 (fun j => by simp) h hF e
  refine ⟨a', w', φ', .head stepR_region ?_, h2⟩
  simpa [List.range_eq_range'] using h1
end
end Go.Eng

namespace Go.Eng
open Go
def Anc (anc : List Nat) (i p : Nat) : Prop := Nat.testBit (anc.getD i 0) p = true
def Legal (ops : Array Oper) : List Nat → List Nat → Prop
  | _, [] => True
  | done, i :: r => i ∉ done ∧ (∃ o, ops[i]? = some o ∧ ∀ e ∈ o.after.toList, bindsA e = true → e.on ∈ done) ∧ Legal ops (i :: done) r
theorem bindsA_eq (e : Edge) : bindsA e = Region.binds .any e := by
  unfold bindsA Region.binds
  cases e.ground <;> rfl
def cntN (f : Nat → Bool) : Nat → Nat
  | 0 => 0
  | k + 1 => cntN f k + (if f k then 0 else 1)
theorem cntN_le (f : Nat → Bool) : ∀ k, cntN f k ≤ k
  | 0 => Nat.le_refl _
  | k + 1 => by have := cntN_le f k; simp only [cntN]; split <;> omega
theorem cntN_zero {f : Nat → Bool} : ∀ {k}, cntN f k = 0 → ∀ i, i < k → f i = true
  | 0, _, i, hi => by omega
  | k + 1, h, i, hi => by
    simp only [cntN] at h
    by_cases hk : f k = true
    · rcases Nat.lt_succ_iff_lt_or_eq.1 hi with h1 | h1
      · exact cntN_zero (by omega) i h1
      · exact h1 ▸ hk
    · simp [hk] at h
theorem cntN_set {f g : Nat → Bool} {i : Nat} (hf : f i = false) (hg : g i = true) (hne : ∀ j, j ≠ i → g j = f j) : ∀ {k}, i < k → cntN g k + 1 = cntN f k
  | 0, h => by omega
  | k + 1, h => by
    simp only [cntN]
    by_cases hk : i = k
    · subst hk
      have : ∀ m, m ≤ i → cntN g m = cntN f m := by
        intro m
        induction m with
        | zero => intro _; rfl
        | succ m ih => intro hm; simp only [cntN, ih (by omega), hne m (by omega)]
      rw [this i (Nat.le_refl _), hf, hg]
      simp
    · have := cntN_set hf hg hne (k := k) (by omega)
      rw [hne k (fun e => hk e.symm)]
      omega
theorem edgesOk_spec : ∀ {l : List Oper} {i : Nat}, edgesOk l i = true → ∀ {j : Nat} {o : Oper}, l[j]? = some o → ∀ e ∈ o.after.toList, bindsA e = true → e.on < i + j
  | [], _, _, j, o, h => by simp at h
  | x :: l, i, h, j, o, hj => by
    simp only [edgesOk, Bool.and_eq_true, List.all_eq_true] at h
    cases j with
    | zero =>
      simp at hj
      subst hj
      intro e he hb
      have := h.1 e he
      simp only [hb, Bool.not_true, Bool.false_or] at this
      have : e.on + 1 ≤ i := by simpa [Nat.blt, Nat.ble_eq] using this
      omega
    | succ j =>
      intro e he hb
      have := edgesOk_spec h.2 (by simpa using hj) e he hb
      omega
theorem getD_set (listed : Array Bool) (i : Nat) (hi : i < listed.size) (j : Nat) : (listed.setIfInBounds i true).getD j false = if j = i then true else listed.getD j false := by
  simp only [Array.getD_eq_getD_getElem?, Array.getElem?_setIfInBounds]
  by_cases h : i = j
  · subst h; simp [hi]
  · simp [h, show ¬ j = i from fun e => h e.symm]
theorem go_legal (ops : Array Oper) (hedges : edgesOk ops.toList 0 = true) : ∀ (fuel t : Nat) (listed : Array Bool) (acc : List Nat), listed.size = ops.size → ∀ done : List Nat, (∀ j, listed.getD j false = true ↔ j ∈ done) →
    ∃ l, Region.linearise.go .any ops fuel t listed acc = acc.reverse ++ l ∧ Legal ops done l ∧ (cntN (fun j => listed.getD j false) ops.size ≤ fuel → ∀ j, j < ops.size → j ∈ done ∨ j ∈ l)
  | 0, t, listed, acc, hs, done, hd => by
    refine ⟨[], by simp [Region.linearise.go], trivial, fun h j hj => .inl ((hd j).1 (cntN_zero (Nat.le_zero.1 h) j hj))⟩
  | fuel + 1, t, listed, acc, hs, done, hd => by
    unfold Region.linearise.go
    simp only
    generalize hrs : (List.range ops.size).filter (fun i => !listed.getD i true && ((ops[i]?).map (·.after.all fun e => !Region.binds .any e || listed.getD e.on false)).getD false) = rs
    cases hi : rs[t % rs.length]? with
    | none =>
      refine ⟨[], by simp, trivial, fun _ j hj => .inl ?_⟩
      have hemp : rs = [] := by
        cases rs with
        | nil => rfl
        | cons x r =>
          have hlt : t % (x :: r).length < (x :: r).length := Nat.mod_lt _ (by simp)
          rw [List.getElem?_eq_getElem hlt] at hi; cases hi
      have hall : ∀ m j, j < m → j < ops.size → listed.getD j false = true := by
        intro m
        induction m with
        | zero => intro j h; omega
        | succ m ih =>
          intro j hjm hjn
          by_cases hl : listed.getD j false = true
          · exact hl
          · exfalso
            have hlj : listed.getD j true = false := by
              simp only [Array.getD_eq_getD_getElem?, Array.getElem?_eq_getElem (show j < listed.size by omega)] at hl ⊢
              simpa using hl
            have hmem : j ∈ rs := by
              rw [← hrs, List.mem_filter]
              refine ⟨List.mem_range.2 hjn, ?_⟩
              rw [hlj, Array.getElem?_eq_getElem hjn]
              simp only [Bool.not_false, Option.map_some, Option.getD_some, Bool.true_and]
              rw [Array.all_eq_true_iff_forall_mem]
              intro e he
              rw [← bindsA_eq]
              cases hb : bindsA e with
              | false => rfl
              | true =>
                have := edgesOk_spec hedges (j := j) (o := ops[j]) (by simp [hjn]) e (by simpa using he) hb
                simp only [Bool.not_true, Bool.false_or]
                exact ih e.on (by omega) (by omega)
            rw [hemp] at hmem
            cases hmem
      exact (hd j).1 (hall (j + 1) j (Nat.lt_succ_self _) hj)
    | some i =>
      have hmem : i ∈ rs := List.mem_of_getElem? hi
      rw [← hrs, List.mem_filter] at hmem
      obtain ⟨hin, hready⟩ := hmem
      have hin := List.mem_range.1 hin
      simp only [Bool.and_eq_true, Bool.not_eq_true', Array.getElem?_eq_getElem hin, Option.map_some, Option.getD_some] at hready
      obtain ⟨hl, hed⟩ := hready
      have hil : i < listed.size := by omega
      have hlf : listed.getD i false = false := by
        simp only [Array.getD_eq_getD_getElem?, Array.getElem?_eq_getElem hil] at hl ⊢
        simpa using hl
      obtain ⟨l, h1, h2, h3⟩ := go_legal ops hedges fuel (t / rs.length) (listed.setIfInBounds i true) (i :: acc) (by simpa using hs) (i :: done) (by
        intro j
        rw [getD_set _ _ hil]
        by_cases hj : j = i
        · simp [hj]
        · rw [if_neg hj, hd j, List.mem_cons]
          exact ⟨.inr, fun h => h.resolve_left hj⟩)
      refine ⟨i :: l, by simp only [h1]; simp, ⟨?_, ⟨ops[i], by simp [hin], ?_⟩, h2⟩, ?_⟩
      · intro hmem
        have := (hd i).2 hmem
        rw [hlf] at this; cases this
      · intro e he hb
        rw [Array.all_eq_true_iff_forall_mem] at hed
        have := hed e (by simpa using he)
        rw [← bindsA_eq, hb] at this
        exact (hd e.on).1 (by simpa using this)
      · intro hc j hj
        have hcs := cntN_set (f := fun j => listed.getD j false) (g := fun j => (listed.setIfInBounds i true).getD j false) (i := i) hlf (by simp [getD_set _ _ hil]) (fun j hne => by simp [getD_set _ _ hil, hne]) hin
        rcases h3 (by omega) j hj with h | h
        · rcases List.mem_cons.1 h with rfl | h
          · exact .inr (List.mem_cons_self)
          · exact .inl h
        · exact .inr (List.mem_cons_of_mem _ h)
theorem schedule_legal (ops : Array Oper) (hedges : edgesOk ops.toList 0 = true) (t : Nat) : Legal ops [] (Region.schedule true ops t) ∧ ∀ j, j < ops.size → j ∈ Region.schedule true ops t := by
  obtain ⟨l, h1, h2, h3⟩ := go_legal ops hedges ops.size t (Array.replicate ops.size false) [] (by simp) [] (by
    intro j
    simp only [Array.getD_eq_getD_getElem?, Array.getElem?_replicate, List.not_mem_nil, iff_false]
    split <;> simp)
  have hs : Region.schedule true ops t = l := by
    simp only [Region.schedule, Bool.true_or, if_true, Region.linearise]
    rw [h1]; simp
  rw [hs]
  exact ⟨h2, fun j hj => (h3 (cntN_le _ _) j hj).resolve_left (by simp)⟩
theorem edgeBits_spec (acc : List Nat) : ∀ (es : List Edge) (s p : Nat), Nat.testBit (edgeBits acc es s) p = true ↔ Nat.testBit s p = true ∨ ∃ e ∈ es, bindsA e = true ∧ (e.on = p ∨ Nat.testBit (acc.getD e.on 0) p = true)
  | [], s, p => by simp [edgeBits]
  | e :: es, s, p => by
    simp only [edgeBits]
    rw [edgeBits_spec acc es]
    cases hb : bindsA e with
    | false => simp [hb]
    | true =>
      simp only [cond_true, Nat.testBit_or, Bool.or_eq_true, Nat.testBit_two_pow, decide_eq_true_eq, List.mem_cons, exists_eq_or_imp, hb, true_and]
      constructor
      · rintro (((h | h) | h) | h)
        · exact .inl h
        · exact .inr (.inl (.inl h))
        · exact .inr (.inl (.inr h))
        · exact .inr (.inr h)
      · rintro (h | (h | h) | h)
        · exact .inl (.inl (.inl h))
        · exact .inl (.inl (.inr h))
        · exact .inl (.inr h)
        · exact .inr h
theorem ancA_spec : ∀ (l : List Oper) (acc : List Nat), ∃ r, ancA l acc = acc ++ r ∧ r.length = l.length ∧ ∀ j o, l[j]? = some o → (acc ++ r)[acc.length + j]? = some (edgeBits ((acc ++ r).take (acc.length + j)) o.after.toList 0)
  | [], acc => ⟨[], by simp [ancA], rfl, fun j o h => by simp at h⟩
  | x :: l, acc => by
    obtain ⟨r, h1, h2, h3⟩ := ancA_spec l (acc ++ [edgeBits acc x.after.toList 0])
    refine ⟨edgeBits acc x.after.toList 0 :: r, by simp only [ancA, h1]; simp, by simp [h2], ?_⟩
    intro j o hj
    cases j with
    | zero => simp at hj; subst hj; simp
    | succ j =>
      have := h3 j o (by simpa using hj)
      simp only [List.length_append, List.length_cons, List.length_nil, List.append_assoc, List.cons_append, List.nil_append] at this
      rw [show acc.length + (j + 1) = acc.length + (0 + 1) + j by omega]
      exact this
theorem anc_iff {ops : List Oper} (hedges : edgesOk ops 0 = true) {i : Nat} {o : Oper} (ho : ops[i]? = some o) (p : Nat) :
    Anc (ancA ops []) i p ↔ ∃ e ∈ o.after.toList, bindsA e = true ∧ (e.on = p ∨ Anc (ancA ops []) e.on p) := by
  obtain ⟨r, h1, h2, h3⟩ := ancA_spec ops []
  simp only [List.nil_append, List.length_nil, Nat.zero_add] at h1 h3
  have h := h3 i o ho
  unfold Anc
  rw [h1]
  have hg : r.getD i 0 = edgeBits (r.take i) o.after.toList 0 := by simp [List.getD, h]
  rw [hg, edgeBits_spec]
  simp only [Nat.zero_testBit, Bool.false_eq_true, false_or]
  constructor
  · rintro ⟨e, he, hb, h⟩
    refine ⟨e, he, hb, h.imp id ?_⟩
    have hlt := edgesOk_spec hedges ho e he hb
    simp only [Nat.zero_add] at hlt
    intro hh
    rw [show r.getD e.on 0 = (r.take i).getD e.on 0 by simp [List.getD, hlt]]
    exact hh
  · rintro ⟨e, he, hb, h⟩
    refine ⟨e, he, hb, h.imp id ?_⟩
    have hlt := edgesOk_spec hedges ho e he hb
    simp only [Nat.zero_add] at hlt
    intro hh
    rw [show (r.take i).getD e.on 0 = r.getD e.on 0 by simp [List.getD, hlt]]
    exact hh
def Closed (anc : List Nat) (l : List Nat) : Prop := ∀ i ∈ l, ∀ p, Anc anc i p → p ∈ l
theorem Legal.head {ops : Array Oper} (hedges : edgesOk ops.toList 0 = true) {done : List Nat} {i : Nat} {r : List Nat} (h : Legal ops done (i :: r)) (hc : Closed (ancA ops.toList []) done) :
    i ∉ done ∧ (∀ p, Anc (ancA ops.toList []) i p → p ∈ done) ∧ Closed (ancA ops.toList []) (i :: done) := by
  obtain ⟨h1, ⟨o, ho, he⟩, h2⟩ := h
  have ha : ∀ p, Anc (ancA ops.toList []) i p → p ∈ done := by
    intro p hp
    obtain ⟨e, hem, hb, hh⟩ := (anc_iff hedges (by simpa using ho) p).1 hp
    rcases hh with rfl | hh
    · exact he e hem hb
    · exact hc _ (he e hem hb) p hh
  refine ⟨h1, ha, ?_⟩
  intro j hj p hp
  rcases List.mem_cons.1 hj with rfl | hj
  · exact List.mem_cons_of_mem _ (ha p hp)
  · exact List.mem_cons_of_mem _ (hc j hj p hp)
end Go.Eng

namespace Go.Eng
open Go
theorem aval_congr {G : Nat} {F F' : Fr} {x : Operand} (h : ∀ t, tmpO x = some t → F.at t = F'.at t) : aval G F x = aval G F' x := by
  cases x with
  | tmp t => simp only [aval]; rw [h t rfl]
  | _ => rfl
theorem avals_congr {G : Nat} {F F' : Fr} : ∀ {l : List Operand}, (∀ x ∈ l, ∀ t, tmpO x = some t → F.at t = F'.at t) → avals G F l = avals G F' l
  | [], _ => rfl
  | x :: l, h => by
    simp only [avals]
    rw [aval_congr (h x (List.mem_cons_self)), avals_congr (l := l) fun y hy => h y (List.mem_cons_of_mem _ hy)]
theorem partVals_congr {G : Nat} {F F' : Fr} : ∀ {l : List (Nat × Operand)}, (∀ x ∈ l, ∀ t, tmpO x.2 = some t → F.at t = F'.at t) → partVals G F l = partVals G F' l
  | [], _ => rfl
  | x :: l, h => by
    simp only [partVals]
    rw [aval_congr (h x (List.mem_cons_self)), partVals_congr (l := l) fun y hy => h y (List.mem_cons_of_mem _ hy)]
theorem optVal_congr {G : Nat} {F F' : Fr} {x : Option Operand} (h : ∀ y, x = some y → ∀ t, tmpO y = some t → F.at t = F'.at t) : optVal G F x = optVal G F' x := by
  cases x with
  | none => rfl
  | some y => simp only [optVal]; rw [aval_congr (h y rfl)]
theorem opA_congr {E : Env} {call yi : Caller} {F F' : Fr} {H : AHeap} {op : Op} (h : ∀ t ∈ op.operands.toList.filterMap tmpO, F.at t = F'.at t) : opA E call yi F H op = opA E call yi F' H op := by
  have hm : ∀ x ∈ op.operands.toList, ∀ t, tmpO x = some t → F.at t = F'.at t := fun x hx t ht => h t (List.mem_filterMap.2 ⟨x, hx, ht⟩)
  have av : ∀ x, x ∈ op.operands.toList → aval E.G F x = aval E.G F' x := fun x hx => aval_congr (hm x hx)
  cases op <;> try rfl
  case move x => simp only [opA]; rw [av x (by simp [Op.operands])]
  case assign x => simp only [opA]; rw [av x (by simp [Op.operands])]
  case pick c x y => simp only [opA]; rw [av c (by simp [Op.operands]), av x (by simp [Op.operands]), av y (by simp [Op.operands])]
  case box e x => simp only [opA]; rw [av x (by simp [Op.operands])]
  case build t ps => simp only [opA, opBuild]; rw [partVals_congr fun x hx => hm _ (by simp [Op.operands]; exact ⟨_, by simpa using hx⟩)]
  case buildSlice t n ps => simp only [opA, opBuildSlice]; rw [partVals_congr fun x hx => hm _ (by simp [Op.operands]; exact ⟨_, by simpa using hx⟩)]
  case load t x => simp only [opA, opLoad]; rw [av x (by simp [Op.operands])]
  case store t x y => simp only [opA, opStore]; rw [av x (by simp [Op.operands]), av y (by simp [Op.operands])]
  case nilCheck x => simp only [opA]; rw [av x (by simp [Op.operands])]
  case binOp op t x y b => simp only [opA, opBin]; rw [av x (by simp [Op.operands]), av y (by simp [Op.operands])]
  case unOp op t x => simp only [opA]; rw [av x (by simp [Op.operands])]
  case convert s d x => simp only [opA]; rw [av x (by simp [Op.operands])]
  case makeInterface t x => simp only [opA]; rw [av x (by simp [Op.operands])]
  case makeFunc fn x y =>
    simp only [opA, makeFuncA]
    rw [avals_congr (l := x.toList) fun z hz => hm z (by simp [Op.operands] at hz ⊢; exact .inl hz), avals_congr (l := y.toList) fun z hz => hm z (by simp [Op.operands] at hz ⊢; exact .inr hz)]
  case makeSlice t x y => simp only [opA, opMakeSlice]; rw [av x (by simp [Op.operands]), av y (by simp [Op.operands])]
  case slice t x lo hi mx =>
    simp only [opA, opSlice]
    rw [av x (by simp [Op.operands]), optVal_congr (x := lo) fun y hy => hm y (by subst hy; simp [Op.operands]), optVal_congr (x := hi) fun y hy => hm y (by subst hy; simp [Op.operands]), optVal_congr (x := mx) fun y hy => hm y (by subst hy; simp [Op.operands])]
  case fieldAddr s x f => simp only [opA]; rw [av x (by simp [Op.operands])]
  case field s x f => simp only [opA]; rw [av x (by simp [Op.operands])]
  case indexAddr t x y => simp only [opA, opIndexAddr]; rw [av x (by simp [Op.operands]), av y (by simp [Op.operands])]
  case index t x y => simp only [opA, opIndex]; rw [av x (by simp [Op.operands]), av y (by simp [Op.operands])]
  case lookup t x y ok => simp only [opA, opLookup]; rw [av x (by simp [Op.operands]), av y (by simp [Op.operands])]
  case mapUpdate t x y z => simp only [opA, opPut]; rw [av x (by simp [Op.operands]), av y (by simp [Op.operands]), av z (by simp [Op.operands])]
  case insert t x y z => simp only [opA, opPut]; rw [av x (by simp [Op.operands]), av y (by simp [Op.operands]), av z (by simp [Op.operands])]
  case extract x i => simp only [opA]; rw [av x (by simp [Op.operands])]
  case call c =>
    simp only [opA, callOpA]
    rw [avals_congr (l := c.args.toList) fun z hz => hm z (by simp only [Op.operands, Call.operands, Array.toList_append, List.mem_append]; exact .inr hz)]
    cases hc : c.callee with
    | value f =>
      simp only [calleeA]
      rw [av f (by simp [Op.operands, Call.operands, hc])]
    | builtin b => rfl
    | invoke r nm => rfl
theorem wantedA_congr {ops : List Oper} {F F' : Fr} {o : Oper} (h : ∀ t ∈ guardDst ops o, F.at t = F'.at t) : wantedA ops F o = wantedA ops F' o := by
  unfold wantedA
  cases hg : o.guard with
  | none => rfl
  | some g =>
    simp only
    cases hp : ops[g.1]? with
    | none => rfl
    | some p =>
      simp only [Option.bind_some]
      cases hd : p.dst with
      | none => rfl
      | some d =>
        simp only [Option.bind_some]
        rw [h d (by simp [guardDst, hg, hp, hd, optL])]
theorem spotBeq_eq {a b : Option Nat} (h : spotBeq a b = true) : a = b := by
  cases a <;> cases b <;> simp_all [spotBeq]
theorem addrBeq_eq {a b : Addr} (h : addrBeq a b = true) : a = b := by
  simp only [addrBeq, Bool.and_eq_true, beq_nat] at h
  obtain ⟨⟨h1, h2⟩, h3⟩ := h
  have := spotBeq_eq h3
  cases a; cases b; simp_all
theorem optAddrBeq_eq {a b : Option Addr} (h : optAddrBeq a b = true) : a = b := by
  cases a with
  | none => cases b with
    | none => rfl
    | some b => simp [optAddrBeq] at h
  | some a => cases b with
    | none => simp [optAddrBeq] at h
    | some b => rw [addrBeq_eq h]
theorem fnBeq_eq {a b : Fn} (h : fnBeq a b = true) : a = b := by
  cases a <;> cases b <;> simp_all [fnBeq, fnFunc, fnYield]
theorem veq_eq : ∀ (n : Nat) (x y : Value), veq n x y = true → x = y
  | 0, x, y, h => by simp [veq] at h
  | n + 1, x, y, h => by
    have hs : ∀ (l m : List Value), veq.veqs n l m = true → l = m := by
      intro l
      induction l with
      | nil => intro m h; cases m <;> simp [veq.veqs] at h ⊢
      | cons a l ih =>
        intro m h
        cases m with
        | nil => simp [veq.veqs] at h
        | cons b m =>
          simp only [veq.veqs, Bool.and_eq_true] at h
          rw [veq_eq n a b h.1, ih m h.2]
    cases x <;> simp only [veq, Bool.false_eq_true] at h
    case bool a =>
      split at h
      · rename_i b hb; rw [vBool_some hb]; simpa using h
      · cases h
    case int k a =>
      split at h
      · rename_i q hq
        rw [vInt_some hq]
        simp only [Bool.and_eq_true, beq_iff_eq] at h
        rw [ik_eq h.1, h.2]
      · cases h
    case string a =>
      split at h
      · rename_i b hb; rw [vStr_some hb, streq_iff.1 h]
      · cases h
    case pointer a =>
      split at h
      · rename_i b hb; rw [vPtr_some hb, optAddrBeq_eq h]
      · cases h
    case slice a l c =>
      split at h
      · rename_i s hb
        simp only [Bool.and_eq_true, beq_nat] at h
        rw [vSl_some hb, optAddrBeq_eq h.1.1, h.1.2, h.2]
      · cases h
    case map a =>
      split at h
      · rename_i b hb; rw [vMap_some hb, spotBeq_eq h]
      · cases h
    case func f a b =>
      split at h
      · rename_i g hg
        simp only [Bool.and_eq_true] at h
        rw [vFunc_some hg, fnBeq_eq h.1.1, ← hs _ _ h.1.2, ← hs _ _ h.2]
      · cases h
    case nilFunc =>
      cases y <;> simp_all [isNilF]
    case nilIface =>
      cases y <;> simp_all [isNilIface]
    case agg a =>
      split at h
      · rename_i b hb; rw [vAgg_some hb, ← hs _ _ h]
      · cases h
    case tuple a =>
      split at h
      · rename_i b hb; rw [vTup_some hb, ← hs _ _ h]
      · cases h
section
variable {P : Program} {w : World} {φ : Emb} {G : Nat} {H : AHeap}
def Makes (E : Env) (φ : Emb) (w : World) (F : Fr) (op : Op) (s : Sem Next) (mk : Nat → Value) (obj : AObj) : Prop :=
  (∀ H', opA E noCall noCall F H' op = some (mk H'.next, H'.new obj)) ∧ ∃ t, s = (do pure (.value (← t))) ∧ Allocs E.P φ w t mk obj
theorem light_form {E : Env} (hG : E.G = G) (h : HRel G φ H w) {F : Fr} {a : Act} (hF : FrRel φ F a.tmps) {o : Oper} (hl : isHeavy o = false) (hr : isRead o = false) {H0 : AHeap} {r : Value × AHeap}
    (e : opA E noCall noCall F H0 o.op = some r) :
    (r.2 = H0 ∧ ∀ H', opA E noCall noCall F H' o.op = some (r.1, H')) ∨ ∃ mk obj, r = (mk H0.next, H0.new obj) ∧ Makes E φ w F o.op (execOp a.eval o) mk obj := by
  have ev : ∀ {x v}, aval E.G F x = some v → VRel φ v (a.eval x) := by
    intro x v hv; rw [hG] at hv; exact aval_sound h hF hv
  have pv : ∀ {ps l}, partVals E.G F ps = some l → PRel φ l (ps.map fun p => (p.1, a.eval p.2)) := fun hp => partVals_sound (fun _ _ hv => ev hv) _ _ hp
  have keep : ∀ {x : Option Value} {H0 : AHeap}, keepH H0 x = some r → r.2 = H0 ∧ ∀ H', keepH H' x = some (r.1, H') := by
    intro x H0 e
    simp only [keepH, Option.map_eq_some_iff] at e
    obtain ⟨v, rfl, rfl⟩ := e
    exact ⟨rfl, fun H' => rfl⟩
  unfold isHeavy at hl
  unfold isRead at hr
  unfold Makes execOp
  cases hop : o.op <;> rw [hop] at e hl hr <;> simp only [sortOf, isHeavyS, isReadS, Bool.true_eq_false] at hl hr <;> try dsimp only
  case move x => exact .inl (keep e)
  case assign x => exact .inl (keep e)
  case pick c x y => exact .inl (keep e)
  case alloc el =>
    obtain ⟨obj, rfl, h1, h2⟩ := opAlloc_sound (P := E.P) (w := w) (φ := φ) e
    exact .inr ⟨fun i => .pointer (some ⟨i, 0, none⟩), obj, rfl, fun H' => h1 H', _, rfl, h2⟩
  case box el x =>
    simp only [opA, Option.bind_eq_some_iff] at e
    obtain ⟨v, hv, e⟩ := e
    obtain ⟨obj, rfl, h1, h2⟩ := boxA_sound (P := E.P) (w := w) (ev hv) e
    exact .inr ⟨fun i => .pointer (some ⟨i, 0, none⟩), obj, rfl, fun H' => by simp only [opA, hv, Option.bind_some]; exact h1 H', _, rfl, h2⟩
  case build t ps => exact .inl (keep e)
  case buildSlice t n ps =>
    simp only [opA, opBuildSlice, Option.bind_eq_some_iff] at e
    obtain ⟨l, hl', e⟩ := e
    obtain ⟨obj, rfl, h1, h2⟩ := buildSliceA_sound (P := E.P) (w := w) (pv hl') e
    refine .inr ⟨fun i => .slice (some ⟨i, 0, none⟩) n n, obj, rfl, fun H' => by simp only [opA, opBuildSlice, hl', Option.bind_some]; exact h1 H', _, rfl, h2.of_run ?_⟩
    have e1 : (Array.map (fun x => (x.fst, a.eval x.snd)) ps) = (List.map (fun p => (p.fst, a.eval p.snd)) ps.toList).toArray := by apply Array.ext'; simp
    rw [e1]
  case nilCheck x => exact .inl (keep e)
  case binOp op t x y b => exact .inl (keep e)
  case unOp op t x => exact .inl (keep e)
  case makeInterface t x => exact .inl (keep e)
  case makeFunc fn x y => exact .inl (keep e)
  case makeMap t rsv =>
    simp only [opA, opMakeMap, bif_some, isNone_true, Option.some.injEq] at e
    obtain ⟨rfl, rfl⟩ := e
    exact .inr ⟨fun i => .map (some i), .amap [], rfl, fun H' => rfl, _, rfl, makeMap_allocs t⟩
  case makeSlice t x y =>
    simp only [opA, opMakeSlice, Option.bind_eq_some_iff] at e
    obtain ⟨p, hp, q, hq, e⟩ := e
    obtain ⟨obj, m, k, rfl, h1, h2⟩ := makeSliceA_sound (P := E.P) (w := w) (ev hp) (ev hq) e
    exact .inr ⟨fun i => .slice (some ⟨i, 0, none⟩) m k, obj, rfl, fun H' => by simp only [opA, opMakeSlice, hp, hq, Option.bind_some]; exact h1 H', _, rfl, h2⟩
  case slice t x lo hi mx => exact .inl (keep e)
  case fieldAddr s x f => exact .inl (keep e)
  case field s x f => exact .inl (keep e)
  case indexAddr t x y => exact .inl (keep e)
  case index t x y => exact .inl (keep e)
  case extract x i => exact .inl (keep e)
  case call c =>
    exfalso
    cases hc : c.callee with
    | builtin b =>
      rw [hc] at hl hr
      simp only [sortC] at hl hr
      cases b <;> simp [sortB] at hl hr
    | value f => rw [hc] at hl; simp [sortC] at hl
    | invoke r nm => rw [hc] at hl; simp [sortC] at hl
  all_goals (simp [opA] at e)
theorem next_ne {H0 : AHeap} {obj : AObj} (h : (H0.new obj).next = H0.next) : False := by
  have : H0.next + 1 = H0.next := h
  omega
theorem read_form {E : Env} {F : Fr} {op : Op} (hr : isReadS (sortOf op) = true) {H0 : AHeap} {r : Value × AHeap} (e : opA E noCall noCall F H0 op = some r) (hn : r.2.next = H0.next) :
    r.2 = H0 ∧ ∀ n, opA E noCall noCall F ⟨n, H0.objs⟩ op = some (r.1, ⟨n, H0.objs⟩) := by
  have keep : ∀ {f : AHeap → Option Value}, (∀ n, f ⟨n, H0.objs⟩ = f H0) → keepH H0 (f H0) = some r → r.2 = H0 ∧ ∀ n, keepH ⟨n, H0.objs⟩ (f ⟨n, H0.objs⟩) = some (r.1, ⟨n, H0.objs⟩) := by
    intro f hf e
    simp only [keepH, Option.map_eq_some_iff] at e
    obtain ⟨v, hv, rfl⟩ := e
    exact ⟨rfl, fun n => by simp only [keepH, hf, hv]; rfl⟩
  cases op <;> simp only [sortOf, isReadS, Bool.false_eq_true] at hr
  case load t x => exact keep (f := fun H => opLoad E F t x H) (fun n => rfl) e
  case lookup t x y ok => exact keep (f := fun H => opLookup E F t x y ok H) (fun n => rfl) e
  case convert s d x =>
    simp only [opA, Option.bind_eq_some_iff] at e
    obtain ⟨v, hv, e⟩ := e
    simp only [convA, Option.bind_eq_some_iff] at e
    obtain ⟨ds, hs, dd, hd, e⟩ := e
    split at e
    · rename_i el hsl
      simp only [bif_some, strBytes, Option.bind_eq_some_iff, Option.some.injEq] at e
      obtain ⟨_, _, b, _, _, rfl⟩ := e
      exact (next_ne hn).elim
    · rename_i hsl
      simp only [Option.map_eq_some_iff] at e
      obtain ⟨u, hu, rfl⟩ := e
      refine ⟨rfl, fun n => ?_⟩
      have h2 : convD E.P ds dd v ⟨n, H0.objs⟩ = some u := by rw [← hu]; rfl
      simp only [opA, hv, Option.bind_some, convA, hs, hd, hsl, h2, Option.map_some]
  case call c =>
    cases hc : c.callee with
    | builtin b =>
      rw [hc] at hr
      simp only [sortC] at hr
      simp only [opA, callOpA, Option.bind_eq_some_iff, hc, calleeA] at e
      obtain ⟨args, hargs, e⟩ := e
      have hcall : ∀ n, opA E noCall noCall F ⟨n, H0.objs⟩ (.call c) = builtinA E.P b c.argTypes.toList args ⟨n, H0.objs⟩ := by
        intro n; simp only [opA, callOpA, hargs, Option.bind_some, hc, calleeA]
      cases b <;> simp [sortB] at hr <;> simp only [builtinA, keepH, Option.bind_eq_some_iff, bif_some, Option.map_eq_some_iff] at e
      case len =>
        obtain ⟨t, ht, x, hx, hl, v, hv, rfl⟩ := e
        refine ⟨rfl, fun n => ?_⟩
        have h2 : lenA E.P t x ⟨n, H0.objs⟩ = some v := by rw [← hv]; rfl
        rw [hcall]
        simp only [builtinA, ht, hx, Option.bind_some, hl, cond_true, keepH, h2, Option.map_some]
      case cap =>
        obtain ⟨t, ht, x, hx, hl, v, hv, rfl⟩ := e
        refine ⟨rfl, fun n => ?_⟩
        rw [hcall]
        simp only [builtinA, ht, hx, Option.bind_some, hl, cond_true, keepH, hv, Option.map_some]
      case max =>
        obtain ⟨v, hv, rfl⟩ := e
        exact ⟨rfl, fun n => by rw [hcall]; simp only [builtinA, keepH, hv, Option.map_some]⟩
      case min =>
        obtain ⟨v, hv, rfl⟩ := e
        exact ⟨rfl, fun n => by rw [hcall]; simp only [builtinA, keepH, hv, Option.map_some]⟩
      case unsafeSliceData =>
        obtain ⟨x, hx, hl, s, hs, v, hv, rfl⟩ := e
        exact ⟨rfl, fun n => by rw [hcall]; simp only [builtinA, keepH, hx, Option.bind_some, hl, cond_true, hs, hv, Option.map_some]⟩
    | value f => rw [hc] at hr; simp [sortC] at hr
    | invoke x nm => rw [hc] at hr; simp [sortC] at hr
theorem light_abs {E : Env} {F : Fr} {op : Op} (hl : isHeavyS (sortOf op) = false) (hr : isReadS (sortOf op) = false) {H0 : AHeap} {r : Value × AHeap} (e : opA E noCall noCall F H0 op = some r) :
    (r.2 = H0 ∧ ∀ H', opA E noCall noCall F H' op = some (r.1, H')) ∨ ∃ (mk : Nat → Value) (obj : AObj), r = (mk H0.next, H0.new obj) ∧ ∀ H' : AHeap, opA E noCall noCall F H' op = some (mk H'.next, H'.new obj) := by
  have keep : ∀ {x : Option Value} {H0 : AHeap}, keepH H0 x = some r → r.2 = H0 ∧ ∀ H', keepH H' x = some (r.1, H') := by
    intro x H0 e
    simp only [keepH, Option.map_eq_some_iff] at e
    obtain ⟨v, rfl, rfl⟩ := e
    exact ⟨rfl, fun H' => rfl⟩
  cases op <;> simp only [sortOf, isHeavyS, isReadS, Bool.true_eq_false] at hl hr
  case move x => exact .inl (keep e)
  case assign x => exact .inl (keep e)
  case pick c x y => exact .inl (keep e)
  case alloc el =>
    simp only [opA, opAlloc, Option.map_eq_some_iff] at e
    obtain ⟨z, hz, rfl⟩ := e
    exact .inr ⟨fun i => .pointer (some ⟨i, 0, none⟩), _, rfl, fun H' => by simp only [opA, opAlloc, hz, Option.map_some]; rfl⟩
  case box el x =>
    simp only [opA, boxA, Option.bind_eq_some_iff, bif_some, Option.some.injEq] at e
    obtain ⟨v, hv, hc, rfl⟩ := e
    exact .inr ⟨fun i => .pointer (some ⟨i, 0, none⟩), _, rfl, fun H' => by simp only [opA, hv, Option.bind_some, boxA, hc, cond_true]; rfl⟩
  case build t ps => exact .inl (keep e)
  case buildSlice t n ps =>
    simp only [opA, opBuildSlice, buildSliceA, Option.bind_eq_some_iff, bif_some, Option.map_eq_some_iff] at e
    obtain ⟨l, h1, el, h2, z, h3, h4, cs, h5, rfl⟩ := e
    exact .inr ⟨fun i => .slice (some ⟨i, 0, none⟩) n n, _, rfl, fun H' => by simp only [opA, opBuildSlice, buildSliceA, h1, h2, h3, h4, h5, Option.bind_some, cond_true, Option.map_some]; rfl⟩
  case nilCheck x => exact .inl (keep e)
  case binOp op t x y b => exact .inl (keep e)
  case unOp op t x => exact .inl (keep e)
  case makeInterface t x => exact .inl (keep e)
  case makeFunc fn x y => exact .inl (keep e)
  case makeMap t rsv =>
    simp only [opA, opMakeMap, bif_some, isNone_true, Option.some.injEq] at e
    obtain ⟨rfl, rfl⟩ := e
    exact .inr ⟨fun i => .map (some i), .amap [], rfl, fun H' => rfl⟩
  case makeSlice t x y =>
    simp only [opA, opMakeSlice, makeSliceA, Option.bind_eq_some_iff, bif_some, Option.some.injEq] at e
    obtain ⟨p, h1, q, h2, el, h3, z, h4, m, h5, k, h6, h7, rfl⟩ := e
    exact .inr ⟨fun i => .slice (some ⟨i, 0, none⟩) m k, _, rfl, fun H' => by simp only [opA, opMakeSlice, makeSliceA, h1, h2, h3, h4, h5, h6, h7, Option.bind_some, cond_true]; rfl⟩
  case slice t x lo hi mx => exact .inl (keep e)
  case fieldAddr s x f => exact .inl (keep e)
  case field s x f => exact .inl (keep e)
  case indexAddr t x y => exact .inl (keep e)
  case index t x y => exact .inl (keep e)
  case extract x i => exact .inl (keep e)
  case call c =>
    exfalso
    cases hc : c.callee with
    | builtin b =>
      rw [hc] at hl hr
      simp only [sortC] at hl hr
      cases b <;> simp [sortB] at hl hr
    | value f => rw [hc] at hl; simp [sortC] at hl
    | invoke r nm => rw [hc] at hl; simp [sortC] at hl
  all_goals (simp [opA] at e)
theorem Good.noCall {E : Env} {call yi : Caller} (g : Good E G call yi) : Good E G noCall noCall :=
  ⟨fun f args H r h => by simp [Eng.noCall] at h, fun l args H r h => by simp [Eng.noCall] at h, g.ext, g.names, g.mixed, g.hG⟩
end
end Go.Eng

namespace Go.Eng
open Go
theorem hasN_iff {t : Nat} : ∀ {l : List Nat}, hasN t l = true ↔ t ∈ l
  | [] => ⟨fun h => (by cases h), fun h => (by cases h)⟩
  | u :: l => by simp only [hasN, Bool.or_eq_true, beq_nat, List.mem_cons, hasN_iff (l := l)]
theorem dstIs_iff {t : Nat} {d : Option Tmp} : dstIs t d = true ↔ d = some t := by
  cases d with
  | none => simp [dstIs]
  | some d => simp only [dstIs, beq_nat, Option.some.injEq]; exact ⟨fun h => h.symm, fun h => h.symm⟩
def dstOf (ops : List Oper) (i : Nat) : Option Tmp := (ops[i]?).bind (·.dst)
theorem tmpsOk2_spec {ops : List Oper} {anc : List Nat} {d i : Nat} : ∀ {l : List Oper} {k : Nat}, tmpsOk2 ops anc d i l k = true → ∀ {j : Nat} {p : Oper}, l[j]? = some p → i ≠ k + j → (p.dst = some d ∨ d ∈ looksA ops p) →
    Anc anc (k + j) i ∨ Anc anc i (k + j)
  | [], _, _, j, p, h, _, _ => by simp at h
  | x :: l, k, h, j, p, hj, hne, hd => by
    simp only [tmpsOk2, Bool.and_eq_true, Bool.or_eq_true, Bool.not_eq_true', beq_nat] at h
    cases j with
    | zero =>
      simp at hj
      subst hj
      rcases h.1 with (h1 | h1) | h1
      · exact absurd h1 hne
      · simp only [Bool.or_eq_false_iff] at h1
        rcases hd with hd | hd
        · have := dstIs_iff.2 hd; rw [h1.1] at this; cases this
        · have := hasN_iff.2 hd; rw [h1.2] at this; cases this
      · simpa [orderedA, Anc] using h1
    | succ j =>
      have := tmpsOk2_spec h.2 (j := j) (by simpa using hj) (by omega) hd
      rwa [show k + 1 + j = k + (j + 1) by omega] at this
theorem tmpsOk_spec {ops : List Oper} {anc : List Nat} : ∀ {l : List Oper} {k : Nat}, tmpsOk ops anc l k = true → ∀ {i : Nat} {o : Oper} {d : Tmp}, l[i]? = some o → o.dst = some d →
    ∀ (j : Nat) (p : Oper), ops[j]? = some p → k + i ≠ j → (p.dst = some d ∨ d ∈ looksA ops p) → Anc anc j (k + i) ∨ Anc anc (k + i) j
  | [], _, _, i, o, d, h, _ => by simp at h
  | x :: l, k, h, i, o, d, hi, hd => by
    simp only [tmpsOk, Bool.and_eq_true] at h
    intro j p hj hne hq
    cases i with
    | zero =>
      simp at hi
      subst hi
      rw [hd] at h
      have := tmpsOk2_spec (ops := ops) (anc := anc) (k := 0) h.1 hj (by omega) hq
      simpa using this
    | succ i =>
      have := tmpsOk_spec h.2 (i := i) (by simpa using hi) hd j p hj (by omega) hq
      rwa [show k + 1 + i = k + (i + 1) by omega] at this
def RLegal (anc : List Nat) : List Nat → Prop
  | [] => True
  | i :: r => i ∉ r ∧ (∀ p, Anc anc i p → p ∈ r) ∧ RLegal anc r
theorem RLegal.closed {anc : List Nat} : ∀ {l : List Nat}, RLegal anc l → Closed anc l
  | [], _ => fun i hi => by simp at hi
  | i :: r, h => fun j hj p hp => by
    rcases List.mem_cons.1 hj with rfl | hj
    · exact List.mem_cons_of_mem _ (h.2.1 p hp)
    · exact List.mem_cons_of_mem _ (RLegal.closed h.2.2 j hj p hp)
theorem RLegal.newer {anc : List Nat} {q : Nat → Bool} {x y : Nat} (hy : q y = true) (hne : y ≠ x) : ∀ {l : List Nat}, RLegal anc l → l.find? q = some x → y ∈ l → ¬ Anc anc y x
  | [], _, h, _ => by simp at h
  | i :: r, hl, h, hm => by
    simp only [List.find?_cons] at h
    split at h
    · simp only [Option.some.injEq] at h
      subst h
      rcases List.mem_cons.1 hm with h1 | h1
      · exact absurd h1 hne
      · intro ha
        exact hl.1 (RLegal.closed hl.2.2 y h1 _ ha)
    · rename_i hq
      rcases List.mem_cons.1 hm with h1 | h1
      · rw [h1, hq] at hy; cases hy
      · exact RLegal.newer hy hne hl.2.2 h h1
theorem find_same {anc : List Nat} {q : Nat → Bool} {l m : List Nat} (hl : RLegal anc l) (hm : RLegal anc m) (hmem : ∀ x, q x = true → (x ∈ l ↔ x ∈ m))
    (hord : ∀ x y, q x = true → q y = true → x ∈ l → y ∈ l → x ≠ y → Anc anc x y ∨ Anc anc y x) : l.find? q = m.find? q := by
  cases hx : l.find? q with
  | none =>
    symm
    rw [List.find?_eq_none] at hx ⊢
    intro x hxm hqx
    exact hx x ((hmem x hqx).2 hxm) hqx
  | some x =>
    have hqx : q x = true := List.find?_some hx
    have hxl : x ∈ l := List.mem_of_find?_eq_some hx
    have hxm := (hmem x hqx).1 hxl
    cases hy : m.find? q with
    | none =>
      rw [List.find?_eq_none] at hy
      exact absurd hqx (hy x hxm)
    | some y =>
      have hqy : q y = true := List.find?_some hy
      have hym : y ∈ m := List.mem_of_find?_eq_some hy
      have hyl := (hmem y hqy).2 hym
      by_cases hxy : x = y
      · rw [hxy]
      · exfalso
        have h1 := RLegal.newer hqy (fun e => hxy e.symm) hl hx hyl
        have h2 := RLegal.newer hqx hxy hm hy hxm
        rcases hord x y hqx hqy hxl hyl hxy with h | h
        · exact h2 h
        · exact h1 h
section
variable (ops : List Oper) (val : Nat → Value) (F0 : Fr)
def Wr : List Nat → Fr
  | [] => F0
  | i :: r => setT (Wr r) (dstOf ops i) (val i)
theorem Wr_n : ∀ l, (Wr ops val F0 l).n = F0.n
  | [] => rfl
  | i :: r => by
    simp only [Wr]
    cases dstOf ops i with
    | none => exact Wr_n r
    | some d => simp only [setT, Fr.n_set]; exact Wr_n r
theorem Wr_at (s : Nat) : ∀ l, (Wr ops val F0 l).at s = match l.find? (fun i => dstOf ops i == some s) with | some i => if s < F0.n then val i else F0.at s | none => F0.at s
  | [] => rfl
  | i :: r => by
    simp only [Wr, List.find?_cons]
    cases hd : dstOf ops i with
    | none => simp only [setT]; exact Wr_at s r
    | some d =>
      simp only [setT, Fr.at_set, Wr_n]
      by_cases hs : s = d
      · subst hs
        simp only [beq_self_eq_true]
        by_cases hn : s < F0.n
        · simp [hn]
        · rw [if_neg (fun h => hn h.2), Wr_at s r]
          split <;> simp [hn]
      · have : (some d == some s) = false := by simpa using fun e => hs e.symm
        rw [this, if_neg (fun h => hs h.1)]
        exact Wr_at s r
end
inductive LightRun (E : Env) (R : DR) (i : Nat) (s s' : DS) (o : Oper) (v : Value) : Option AObj → Prop
  | skip : wantedA R.ops s.F o = some false → v = undefV → s'.H = s.H → LightRun E R i s s' o v none
  | keeps : wantedA R.ops s.F o = some true → isRead o = false → s'.H = s.H → (∀ H', opA E noCall noCall s.F H' o.op = some (v, H')) → LightRun E R i s s' o v none
  | adds {mk : Nat → Value} {obj : AObj} : wantedA R.ops s.F o = some true → isRead o = false → v = mk (R.base + i) → s'.H = s.H.set (R.base + i) obj →
      (∀ H', opA E noCall noCall s.F H' o.op = some (mk H'.next, H'.new obj)) → LightRun E R i s s' o v (some obj)
  | reads : wantedA R.ops s.F o = some true → isRead o = true → s'.H = s.H →
      (∀ H ∈ s.past.take (s.past.length - loOf R.anc R.all i), ∀ n, opA E noCall noCall s.F ⟨n, H.objs⟩ o.op = some (v, ⟨n, H.objs⟩)) → LightRun E R i s s' o v none
structure Base (R : DR) (i : Nat) (s s' : DS) (o : Oper) (v : Value) : Prop where
  op : R.ops[i]? = some o
  new : s.done.testBit i = false
  anc : ∀ p, Anc R.anc i p → s.done.testBit p = true
  done : s'.done = s.bit i
  F : s'.F = setT s.F o.dst v
inductive CStep (E : Env) (call yi : Caller) (R : DR) (i : Nat) (s s' : DS) (o : Oper) (v : Value) (ob : Option AObj) : Prop
  | heavy : Base R i s s' o v → isHeavy o = true → ob = none → s.hs = i :: s'.hs → s'.past = s'.H :: s.past →
      ((wantedA R.ops s.F o = some true ∧ opA E call yi s.F s.H o.op = some (v, s'.H)) ∨ (wantedA R.ops s.F o = some false ∧ v = undefV ∧ s'.H = s.H)) → CStep E call yi R i s s' o v ob
  | light : Base R i s s' o v → isHeavy o = false → lateOk R.anc i s.hs = true → s'.hs = s.hs → s'.past = s.past → LightRun E R i s s' o v ob → CStep E call yi R i s s' o v ob
theorem sameIn_spec {E : Env} {F : Fr} {id : Nat} {op : Op} {v : Value} : ∀ {l : List AHeap}, sameIn E F id op v l = true → ∀ H ∈ l, ∃ p, evalAt E F id H op = some p ∧ p.2.next = id ∧ p.1 = v
  | [], _, H, hm => by simp at hm
  | H0 :: l, h, H, hm => by
    simp only [sameIn, Bool.and_eq_true] at h
    rcases List.mem_cons.1 hm with rfl | hm
    · have h1 := h.1
      split at h1
      · rename_i p hp
        simp only [Bool.and_eq_true, beq_nat] at h1
        exact ⟨p, hp, h1.1, veq_eq _ _ _ h1.2⟩
      · cases h1
    · exact sameIn_spec h.2 H hm
theorem drawStep_spec {E : Env} {call yi : Caller} {R : DR} {i : Nat} {s s' : DS} (h : drawStep E call yi R i s = some s') : ∃ o v ob, CStep E call yi R i s s' o v ob := by
  simp only [drawStep, Option.bind_eq_some_iff, bif_some, Bool.and_eq_true, Bool.not_eq_true', beq_nat] at h
  obtain ⟨o, ho, ⟨hnew, hand⟩, h⟩ := h
  have hanc : ∀ p, Anc R.anc i p → s.done.testBit p = true := by
    intro p hp
    unfold Anc at hp
    rw [← hand] at hp
    have : Nat.testBit (R.anc.getD i 0 &&& s.done) p = true := hp
    rw [Nat.testBit_and, Bool.and_eq_true] at this
    exact this.2
  have mkB : ∀ {s' : DS} {v : Value}, s'.done = s.bit i → s'.F = setT s.F o.dst v → Base R i s s' o v := fun h1 h2 => ⟨ho, hnew, hanc, h1, h2⟩
  cases hh : isHeavy o with
  | true =>
    rw [hh] at h
    simp only [cond_true, drawHeavy, bif_some, Option.bind_eq_some_iff] at h
    obtain ⟨hhead, wt, hwt, h⟩ := h
    have hhs : ∃ r, s.hs = i :: r := by
      cases hs : s.hs with
      | nil => rw [hs] at hhead; simp [isHead] at hhead
      | cons x r => rw [hs] at hhead; simp only [isHead, beq_nat] at hhead; exact ⟨r, by rw [hhead]⟩
    obtain ⟨r, hhs⟩ := hhs
    cases wt with
    | true =>
      simp only [cond_true, Option.map_eq_some_iff] at h
      obtain ⟨p, hp, rfl⟩ := h
      exact ⟨o, p.1, none, .heavy (mkB rfl rfl) hh rfl (by simp [hhs]) rfl (.inl ⟨hwt, hp⟩)⟩
    | false =>
      simp only [cond_false, Option.some.injEq] at h
      subst h
      exact ⟨o, undefV, none, .heavy (mkB rfl rfl) hh rfl (by simp [hhs]) rfl (.inr ⟨hwt, rfl, rfl⟩)⟩
  | false =>
    rw [hh] at h
    simp only [cond_false, drawLight, bif_some, Option.bind_eq_some_iff] at h
    obtain ⟨hlate, wt, hwt, h⟩ := h
    cases wt with
    | false =>
      simp only [cond_false, Option.some.injEq] at h
      subst h
      exact ⟨o, undefV, none, .light (mkB rfl rfl) hh hlate rfl rfl (.skip hwt rfl rfl)⟩
    | true =>
      simp only [cond_true, Option.bind_eq_some_iff, bif_some, Option.some.injEq] at h
      obtain ⟨p, hp, hread, rfl⟩ := h
      cases hr : isRead o with
      | true =>
        simp only [readOk, hr, Bool.not_true, Bool.false_or, Bool.and_eq_true, beq_nat] at hread
        obtain ⟨hn, hsame⟩ := hread
        have hf := read_form (show isReadS (sortOf o.op) = true from hr) hp (by simpa using hn)
        refine ⟨o, p.1, none, .light (mkB rfl rfl) hh hlate rfl rfl (.reads hwt hr (by simp only [hf.1]) ?_)⟩
        intro H hH n
        obtain ⟨p', hp', hn', hv'⟩ := sameIn_spec hsame H hH
        have hf' := read_form (show isReadS (sortOf o.op) = true from hr) hp' (by simpa using hn')
        rw [← hv']
        exact hf'.2 n
      | false =>
        rcases light_abs (show isHeavyS (sortOf o.op) = false from hh) (show isReadS (sortOf o.op) = false from hr) hp with ⟨h1, h2⟩ | ⟨mk, obj, rfl, h2⟩
        · exact ⟨o, p.1, none, .light (mkB rfl rfl) hh hlate rfl rfl (.keeps hwt hr (by simp only [h1]) h2)⟩
        · exact ⟨o, mk (R.base + i), some obj, .light (mkB rfl rfl) hh hlate rfl rfl (.adds hwt hr rfl rfl h2)⟩
theorem drawA_states {E : Env} {call yi : Caller} {R : DR} : ∀ {ord : List Nat} {s0 sN : DS}, drawA E call yi R ord s0 = some sN →
    ∃ st : Nat → DS, st 0 = s0 ∧ st ord.length = sN ∧ ∀ q i, ord[q]? = some i → ∃ o v ob, CStep E call yi R i (st q) (st (q + 1)) o v ob
  | [], s0, sN, h => by
    simp only [drawA, Option.some.injEq] at h
    exact ⟨fun _ => s0, rfl, h, fun q i hq => by simp at hq⟩
  | i :: r, s0, sN, h => by
    simp only [drawA, Option.bind_eq_some_iff] at h
    obtain ⟨s1, h1, h⟩ := h
    obtain ⟨st, k1, k2, k3⟩ := drawA_states h
    refine ⟨fun q => match q with | 0 => s0 | q + 1 => st q, rfl, k2, ?_⟩
    intro q j hq
    cases q with
    | zero =>
      simp at hq
      subst hq
      simp only [k1]
      exact drawStep_spec h1
    | succ q => exact k3 q j (by simpa using hq)
end Go.Eng

namespace Go.Eng
open Go
theorem HRel.add {G : Nat} {φ : Emb} {H : AHeap} {w : World} (h : HRel G φ H w) {id : Nat} {obj : AObj} {ob : Obj} (hd : φ.dom id) (hob : w.heap[(φ id).block]? = some ob) (ho : ORel φ (φ id) obj ob)
    (hb : ∀ j p, H.get j = some p → (φ j).block ≠ (φ id).block) : HRel G φ (H.set id obj) w := by
  refine ⟨h.glob, h.lt, ?_, ?_⟩
  · intro i o hi
    rw [AHeap.get_set] at hi
    split at hi
    · rename_i e
      subst e
      cases hi
      exact ⟨hd, ob, hob, ho⟩
    · exact h.obj i o hi
  · intro i j o p hi hj hij how
    rw [AHeap.get_set] at hi hj
    split at hi <;> split at hj
    · omega
    · rename_i e _
      rw [e]
      exact (hb j p hj).symm
    · rename_i e
      rw [e]
      exact hb i o hi
    · exact h.inj i j o p hi hj hij how
theorem Later.addObj {φ0 φ : Emb} {H0 H : AHeap} {w0 w : World} (h : Later φ0 H0 w0 φ H w) {id : Nat} {obj : AObj} (hb : w0.heap.size ≤ (φ id).block) : Later φ0 H0 w0 φ (H.set id obj) w := by
  refine ⟨h.ids, h.next, h.size, h.same, ?_, h.fresh, ?_, h.os, h.tape, h.output⟩
  · rintro b ⟨i, o, hi, ho, rfl⟩
    rw [AHeap.get_set] at hi
    split at hi
    · rename_i e; subst e; exact .inr hb
    · exact h.foot _ ⟨i, o, hi, ho, rfl⟩
  · intro i o hi
    rw [AHeap.get_set] at hi
    split at hi
    · rename_i e; subst e; exact .inr hb
    · exact h.blocks i o hi
theorem heap_push_old {w : World} {ob : Obj} {d b : Nat} {x : Obj} (h : w.heap[b]? = some x) : ({ w with heap := w.heap.push ob, drawn := d } : World).heap[b]? = some x := by
  have : b < w.heap.size := (Array.getElem?_eq_some_iff.1 h).1
  simp only [Array.getElem?_push]
  rw [if_neg (by omega)]; exact h
theorem HRel.addEmb {G : Nat} {φ : Emb} {H : AHeap} {w : World} (h : HRel G φ H w) {id : Nat} (hid : ¬ φ.dom id) (hlt : id < H.next) (L : Loc) (ob : Obj) (d : Nat) :
    HRel G (extEmb φ id L) H { w with heap := w.heap.push ob, drawn := d } := by
  have hle : φ.le (extEmb φ id L) := extEmb_le hid
  refine ⟨fun g hg => ?_, ?_, ?_, ?_⟩
  · obtain ⟨h1, h2⟩ := h.glob g hg
    rw [hle.loc g h1]; exact ⟨.inl h1, h2⟩
  · intro i hi
    rcases hi with hi | rfl
    · exact h.lt i hi
    · exact hlt
  · intro i o hi
    obtain ⟨h1, x, h2, h3⟩ := h.obj i o hi
    rw [hle.loc i h1]
    exact ⟨.inl h1, x, heap_push_old h2, h3.mono hle⟩
  · intro i j o p hi hj hij how
    rw [hle.loc i (h.obj i o hi).1, hle.loc j (h.obj j p hj).1]
    exact h.inj i j o p hi hj hij how
theorem Later.addEmb {G : Nat} {φ0 φ : Emb} {H0 H : AHeap} {w0 w : World} (h : Later φ0 H0 w0 φ H w) (hr : HRel G φ H w) {id : Nat} (hid : ¬ φ.dom id) (hlt : H0.next ≤ id) (L : Loc) (ob : Obj) (d : Nat) :
    Later φ0 H0 w0 (extEmb φ id L) H { w with heap := w.heap.push ob, drawn := d } := by
  have hle : φ.le (extEmb φ id L) := extEmb_le hid
  refine ⟨h.ids.trans hle, h.next, ?_, ?_, ?_, ?_, ?_, h.os, h.tape, h.output⟩
  · have := h.size; simp; omega
  · intro b hb hf
    rw [← h.same b hb hf]
    simp only [Array.getElem?_push]
    have := h.size
    rw [if_neg (by omega)]
  · rintro b ⟨i, o, hi, ho, rfl⟩
    rw [hle.loc i (hr.obj i o hi).1]
    exact h.foot _ ⟨i, o, hi, ho, rfl⟩
  · intro i hi
    rcases hi with hi | rfl
    · exact h.fresh i hi
    · exact .inr hlt
  · intro i o hi
    rw [hle.loc i (hr.obj i o hi).1]
    exact h.blocks i o hi
structure Run (E : Env) (G : Nat) (call yi : Caller) (ops : Array Oper) (R : DR) (ord : List Nat) (st : Nat → DS) (val : Nat → Value) (obj : Nat → Option AObj) : Prop where
  good : Good E G call yi
  hops : R.ops = ops.toList
  hanc : R.anc = ancA ops.toList []
  hall : R.all = heavies ops.toList 0
  edges : edgesOk ops.toList 0 = true
  chain : chainOk R.anc R.all = true
  tmps : tmpsOk R.ops R.anc R.ops 0 = true
  step : ∀ q i, ord[q]? = some i → ∃ o, CStep E call yi R i (st q) (st (q + 1)) o (val i) (obj i)
  done0 : (st 0).done = 0
  past0 : (st 0).past = [(st 0).H]
  hs0 : (st 0).hs = R.all
  next0 : (st 0).H.next = R.base + ops.size
  all : ∀ i, i < ops.size → i ∈ ord
section
variable {E : Env} {G : Nat} {call yi : Caller} {ops : Array Oper} {R : DR} {ord : List Nat} {st : Nat → DS} {val : Nat → Value} {obj : Nat → Option AObj}
def rp (ord : List Nat) (q : Nat) : List Nat := (ord.take q).reverse
theorem rp_succ {q i : Nat} (h : ord[q]? = some i) : rp ord (q + 1) = i :: rp ord q := by
  unfold rp
  rw [List.take_add_one, h]
  simp
theorem mem_rp {q x : Nat} : x ∈ rp ord q ↔ ∃ p, p < q ∧ ord[p]? = some x := by
  unfold rp
  rw [List.mem_reverse, List.mem_iff_getElem?]
  constructor
  · rintro ⟨p, hp⟩
    rw [List.getElem?_take] at hp
    split at hp
    · exact ⟨p, by assumption, hp⟩
    · cases hp
  · rintro ⟨p, h1, h2⟩
    exact ⟨p, by rw [List.getElem?_take, if_pos h1]; exact h2⟩
theorem Run.base (r : Run E G call yi ops R ord st val obj) {q i : Nat} (h : ord[q]? = some i) : ∃ o, Base R i (st q) (st (q + 1)) o (val i) := by
  obtain ⟨o, hc⟩ := r.step q i h
  cases hc with
  | heavy hb => exact ⟨o, hb⟩
  | light hb => exact ⟨o, hb⟩
theorem Run.doneBits (r : Run E G call yi ops R ord st val obj) : ∀ q, q ≤ ord.length → ∀ p, (st q).done.testBit p = true ↔ p ∈ rp ord q
  | 0, _, p => by simp [r.done0, rp]
  | q + 1, hq, p => by
    have hlt : q < ord.length := by omega
    have ho : ord[q]? = some ord[q] := List.getElem?_eq_getElem hlt
    obtain ⟨o, hb⟩ := r.base ho
    rw [hb.done, rp_succ ho]
    have ih := r.doneBits q (by omega) p
    unfold DS.bit
    have : Nat.testBit ((st q).done ||| 2 ^ ord[q]) p = true ↔ (p ∈ rp ord q ∨ ord[q] = p) := by rw [Nat.testBit_or, Bool.or_eq_true, Nat.testBit_two_pow, ih, decide_eq_true_eq]
    rw [List.mem_cons]
    refine this.trans ?_
    constructor
    · rintro (h | h)
      · exact .inr h
      · exact .inl h.symm
    · rintro (h | h)
      · exact .inr h.symm
      · exact .inl h
theorem Run.rlegal (r : Run E G call yi ops R ord st val obj) : ∀ q, q ≤ ord.length → RLegal R.anc (rp ord q)
  | 0, _ => by simp [rp, RLegal]
  | q + 1, hq => by
    have hlt : q < ord.length := by omega
    have ho : ord[q]? = some ord[q] := List.getElem?_eq_getElem hlt
    obtain ⟨o, hb⟩ := r.base ho
    have hd := r.doneBits q (by omega)
    rw [rp_succ ho]
    refine ⟨?_, fun p hp => (hd p).1 (hb.anc p hp), r.rlegal q (by omega)⟩
    intro hm
    have := (hd _).2 hm
    rw [hb.new] at this; cases this
theorem Run.opAt (r : Run E G call yi ops R ord st val obj) {q i : Nat} (h : ord[q]? = some i) : ∃ o, ops[i]? = some o ∧ Base R i (st q) (st (q + 1)) o (val i) := by
  obtain ⟨o, hb⟩ := r.base h
  refine ⟨o, ?_, hb⟩
  have := hb.op
  rw [r.hops] at this
  simpa using this
theorem Run.pos_unique (r : Run E G call yi ops R ord st val obj) {q p i : Nat} (h : ord[q]? = some i) (k : ord[p]? = some i) : q = p := by
  have key : ∀ {a b : Nat}, ord[a]? = some i → ord[b]? = some i → ¬ a < b := by
    intro a b ha hb hab
    obtain ⟨o, hbb⟩ := r.base hb
    have hm : i ∈ rp ord b := mem_rp.2 ⟨a, hab, ha⟩
    have hbl : b < ord.length := (List.getElem?_eq_some_iff.1 hb).1
    have := (r.doneBits b (by omega) i).2 hm
    rw [hbb.new] at this; cases this
  have h1 := key h k
  have h2 := key k h
  omega
theorem Run.frame (r : Run E G call yi ops R ord st val obj) : ∀ q, q ≤ ord.length → (st q).F = Wr R.ops val (st 0).F (rp ord q)
  | 0, _ => by simp [rp, Wr]
  | q + 1, hq => by
    have hlt : q < ord.length := by omega
    have ho : ord[q]? = some ord[q] := List.getElem?_eq_getElem hlt
    obtain ⟨o, hb⟩ := r.base ho
    rw [rp_succ ho, hb.F, r.frame q (by omega)]
    simp [Wr, dstOf, hb.op]
theorem Run.ordered (r : Run E G call yi ops R ord st val obj) {x j : Nat} {s : Tmp} (hx : dstOf R.ops x = some s) {p : Oper} (hp : R.ops[j]? = some p) (hne : x ≠ j) (hq : p.dst = some s ∨ s ∈ looksA R.ops p) :
    Anc R.anc j x ∨ Anc R.anc x j := by
  unfold dstOf at hx
  cases ho : R.ops[x]? with
  | none => rw [ho] at hx; cases hx
  | some o =>
    rw [ho] at hx
    have := tmpsOk_spec r.tmps (k := 0) ho hx j p hp (by omega) hq
    simpa using this
theorem dstOf_some {l : List Oper} {x : Nat} {s : Tmp} (h : dstOf l x = some s) : ∃ p, l[x]? = some p ∧ p.dst = some s := by
  unfold dstOf at h
  cases ho : l[x]? with
  | none => rw [ho] at h; cases h
  | some o => rw [ho] at h; exact ⟨o, rfl, h⟩
theorem Run.agree (r : Run E G call yi ops R ord st val obj) {i : Nat} {o : Oper} (ho : R.ops[i]? = some o) {l m : List Nat} (hl : RLegal R.anc l) (hm : RLegal R.anc m) (hil : i ∉ l) (him : i ∉ m)
    (hal : ∀ p, Anc R.anc i p → p ∈ l) (ham : ∀ p, Anc R.anc i p → p ∈ m) {s : Tmp} (hs : s ∈ looksA R.ops o) : (Wr R.ops val (st 0).F l).at s = (Wr R.ops val (st 0).F m).at s := by
  rw [Wr_at, Wr_at]
  have : l.find? (fun i => dstOf R.ops i == some s) = m.find? (fun i => dstOf R.ops i == some s) := by
    refine find_same hl hm ?_ ?_
    · intro x hx
      have hx := beq_iff_eq.1 hx
      by_cases hxi : x = i
      · subst hxi; exact ⟨fun h => absurd h hil, fun h => absurd h him⟩
      · rcases r.ordered hx ho hxi (.inr hs) with h | h
        · exact ⟨fun _ => ham x h, fun _ => hal x h⟩
        · exact ⟨fun hh => absurd (hl.closed x hh i h) hil, fun hh => absurd (hm.closed x hh i h) him⟩
    · intro x y hx hy _ _ hxy
      have hx := beq_iff_eq.1 hx
      have hy := beq_iff_eq.1 hy
      obtain ⟨p, hp, hd⟩ := dstOf_some hy
      exact (r.ordered hx hp hxy (.inl hd)).symm
  rw [this]
theorem Run.agreeAll (r : Run E G call yi ops R ord st val obj) {l m : List Nat} (hl : RLegal R.anc l) (hm : RLegal R.anc m) (hml : ∀ x, x < ops.size → (x ∈ l ∧ x ∈ m)) (s : Tmp) : (Wr R.ops val (st 0).F l).at s = (Wr R.ops val (st 0).F m).at s := by
  rw [Wr_at, Wr_at]
  have : l.find? (fun i => dstOf R.ops i == some s) = m.find? (fun i => dstOf R.ops i == some s) := by
    refine find_same hl hm ?_ ?_
    · intro x hx
      obtain ⟨p, hp, _⟩ := dstOf_some (beq_iff_eq.1 hx)
      have hlt : x < ops.size := by
        have := (List.getElem?_eq_some_iff.1 hp).1
        rw [r.hops] at this; simpa using this
      exact ⟨fun _ => (hml x hlt).2, fun _ => (hml x hlt).1⟩
    · intro x y hx hy _ _ hxy
      have hx := beq_iff_eq.1 hx
      have hy := beq_iff_eq.1 hy
      obtain ⟨p, hp, hd⟩ := dstOf_some hy
      exact (r.ordered hx hp hxy (.inl hd)).symm
  rw [this]
theorem Run.queue (r : Run E G call yi ops R ord st val obj) : ∀ q, q ≤ ord.length → ∃ front, R.all = front ++ (st q).hs ∧ (st q).past.length = front.length + 1 ∧ (∀ x ∈ front, x ∈ rp ord q) ∧
    (∀ x, x ∈ rp ord q → (∃ o, R.ops[x]? = some o ∧ isHeavy o = true) → x ∈ front)
  | 0, _ => ⟨[], by simp [r.hs0], by simp [r.past0], by simp, fun x hx => by simp [rp] at hx⟩
  | q + 1, hq => by
    have hlt : q < ord.length := by omega
    have ho : ord[q]? = some ord[q] := List.getElem?_eq_getElem hlt
    obtain ⟨front, h1, h2, h3, h4⟩ := r.queue q (by omega)
    obtain ⟨o, hc⟩ := r.step q _ ho
    cases hc with
    | heavy hb hh _ hhs hpast _ =>
      refine ⟨front ++ [ord[q]], by rw [h1, hhs]; simp, by rw [hpast]; simp [h2], ?_, ?_⟩
      · intro x hx
        rw [rp_succ ho]
        rcases List.mem_append.1 hx with hx | hx
        · exact List.mem_cons_of_mem _ (h3 x hx)
        · simp at hx; subst hx; exact List.mem_cons_self
      · intro x hx hxo
        rw [rp_succ ho] at hx
        rcases List.mem_cons.1 hx with rfl | hx
        · simp
        · exact List.mem_append.2 (.inl (h4 x hx hxo))
    | light hb hh _ hhs hpast _ =>
      refine ⟨front, by rw [hhs]; exact h1, by rw [hpast]; exact h2, ?_, ?_⟩
      · intro x hx; rw [rp_succ ho]; exact List.mem_cons_of_mem _ (h3 x hx)
      · intro x hx ⟨o', ho', hh'⟩
        rw [rp_succ ho] at hx
        rcases List.mem_cons.1 hx with rfl | hx
        · rw [hb.op] at ho'; cases ho'; rw [hh] at hh'; cases hh'
        · exact h4 x hx ⟨o', ho', hh'⟩
theorem Run.pastGrows (r : Run E G call yi ops R ord st val obj) {p : Nat} : ∀ d, p + d ≤ ord.length → ∃ newer, (st (p + d)).past = newer ++ (st p).past
  | 0, _ => ⟨[], by simp⟩
  | d + 1, hq => by
    have hlt : p + d < ord.length := by omega
    have ho : ord[p + d]? = some ord[p + d] := List.getElem?_eq_getElem hlt
    obtain ⟨newer, hn⟩ := r.pastGrows (p := p) d (by omega)
    obtain ⟨o, hc⟩ := r.step (p + d) _ ho
    cases hc with
    | heavy hb hh _ hhs hpast _ => exact ⟨(st (p + d + 1)).H :: newer, by show (st (p + d + 1)).past = _; rw [hpast, hn]; simp⟩
    | light hb hh _ hhs hpast _ => exact ⟨newer, by show (st (p + d + 1)).past = _; rw [hpast, hn]⟩
theorem Run.hsShrinks (r : Run E G call yi ops R ord st val obj) {p : Nat} : ∀ d, p + d ≤ ord.length → ∃ pre, (st p).hs = pre ++ (st (p + d)).hs
  | 0, _ => ⟨[], by simp⟩
  | d + 1, hq => by
    have hlt : p + d < ord.length := by omega
    have ho : ord[p + d]? = some ord[p + d] := List.getElem?_eq_getElem hlt
    obtain ⟨pre, hn⟩ := r.hsShrinks (p := p) d (by omega)
    obtain ⟨o, hc⟩ := r.step (p + d) _ ho
    cases hc with
    | heavy hb hh _ hhs hpast _ => exact ⟨pre ++ [ord[p + d]], by rw [hn, hhs]; simp [Nat.add_assoc]⟩
    | light hb hh _ hhs hpast _ => exact ⟨pre, by rw [hn]; show _ = pre ++ (st (p + d + 1)).hs; rw [hhs]⟩
end
theorem heavies_ge : ∀ (l : List Oper) (k x : Nat), x ∈ heavies l k → k ≤ x ∧ ∃ o, l[x - k]? = some o ∧ isHeavy o = true
  | [], k, x, h => by simp [heavies] at h
  | o :: l, k, x, h => by
    simp only [heavies] at h
    cases ho : isHeavy o with
    | true =>
      rw [ho] at h
      simp only [cond_true] at h
      rcases List.mem_cons.1 h with rfl | h
      · exact ⟨Nat.le_refl _, o, by simp, ho⟩
      · obtain ⟨h1, o', h2, h3⟩ := heavies_ge l (k + 1) x h
        refine ⟨by omega, o', ?_, h3⟩
        rw [show x - k = (x - (k + 1)) + 1 by omega]; simpa using h2
    | false =>
      rw [ho] at h
      simp only [cond_false] at h
      obtain ⟨h1, o', h2, h3⟩ := heavies_ge l (k + 1) x h
      refine ⟨by omega, o', ?_, h3⟩
      rw [show x - k = (x - (k + 1)) + 1 by omega]; simpa using h2
theorem heavies_mem {l : List Oper} {x : Nat} (h : x ∈ heavies l 0) : ∃ o, l[x]? = some o ∧ isHeavy o = true := by
  obtain ⟨_, h1⟩ := heavies_ge l 0 x h
  simpa using h1
theorem heavies_nodup : ∀ (l : List Oper) (k : Nat), (heavies l k).Nodup
  | [], k => by simp [heavies]
  | o :: l, k => by
    simp only [heavies]
    cases isHeavy o with
    | true =>
      simp only [cond_true, List.nodup_cons]
      refine ⟨fun h => ?_, heavies_nodup l (k + 1)⟩
      have := (heavies_ge l (k + 1) k h).1
      omega
    | false => exact heavies_nodup l (k + 1)
theorem chain_spec {anc : List Nat} : ∀ {l : List Nat}, chainOk anc l = true → ∀ {pre r : List Nat} {x i : Nat}, l = pre ++ x :: r → i ∈ r → Anc anc i x
  | [], _, pre, r, x, i, h, _ => by simp at h
  | a :: l, hc, pre, r, x, i, h, hi => by
    simp only [chainOk, Bool.and_eq_true, List.all_eq_true] at hc
    cases pre with
    | nil =>
      simp only [List.nil_append, List.cons.injEq] at h
      obtain ⟨rfl, rfl⟩ := h
      exact hc.1 i hi
    | cons b pre =>
      simp only [List.cons_append, List.cons.injEq] at h
      exact chain_spec hc.2 h.2 hi
end Go.Eng

namespace Go.Eng
open Go
section
variable {E : Env} {G : Nat} {call yi : Caller} {ops : Array Oper} {R : DR} {ord : List Nat} {st : Nat → DS} {val : Nat → Value} {obj : Nat → Option AObj}
structure Pend (φ : Emb) (H : AHeap) (w : World) (n0 id : Nat) (ob : AObj) : Prop where
  dom : φ.dom id
  at_ : ∃ obc, w.heap[(φ id).block]? = some obc ∧ ORel φ (φ id) ob obc
  young : n0 ≤ (φ id).block
  apart : ∀ j p, H.get j = some p → (φ j).block ≠ (φ id).block
theorem Pend.later {φ φ' : Emb} {H H' : AHeap} {w w' : World} {n0 id : Nat} {ob : AObj} (h : Pend φ H w n0 id ob) (l : Later φ H w φ' H' w') : Pend φ' H' w' n0 id ob := by
  obtain ⟨hd, ⟨obc, h1, h2⟩, h3, h4⟩ := h
  have hloc := l.ids.loc id hd
  have hlt : (φ id).block < w.heap.size := (Array.getElem?_eq_some_iff.1 h1).1
  refine ⟨l.ids.dom id hd, ⟨obc, ?_, ?_⟩, by rw [hloc]; exact h3, ?_⟩
  · rw [hloc, l.same _ hlt, h1]
    rintro ⟨i, o, hi, _, hb⟩
    exact h4 i o hi hb
  · rw [hloc]; exact h2.mono l.ids
  · intro j p hj
    rw [hloc]
    rcases l.blocks j p hj with ⟨k, q, hk, hb⟩ | hb
    · rw [← hb]; exact h4 k q hk
    · omega
structure Mid (r : Run E G call yi ops R ord st val obj) (φ0 : Emb) (H0 : AHeap) (w0 : World) (L : List Nat) (m : Nat) (φ : Emb) (w : World) : Prop where
  rel : HRel G φ (st m).H w
  later : Later φ0 H0 w0 φ (st m).H w
  next : R.base + ops.size ≤ (st m).H.next
  pend : ∀ x, x ∈ L → x ∉ rp ord m → ∀ ob, obj x = some ob → Pend φ (st m).H w w0.heap.size (R.base + x) ob
  pair : ∀ x y, x ∈ L → y ∈ L → x ∉ rp ord m → y ∉ rp ord m → x ≠ y → ∀ ox oy, obj x = some ox → obj y = some oy → (φ (R.base + x)).block ≠ (φ (R.base + y)).block
structure Inv (r : Run E G call yi ops R ord st val obj) (φ0 : Emb) (H0 : AHeap) (w0 : World) (L : List Nat) (p : Nat) (φ : Emb) (w : World) (a : Act) : Prop where
  legal : RLegal R.anc L
  behind : ∀ x, x ∈ rp ord p → x ∈ L
  heavy : ∀ i o, i ∈ L → R.ops[i]? = some o → isHeavy o = true → i ∈ rp ord p
  ple : p ≤ ord.length
  bound : ∃ r, (st p).past = (st p).H :: r
  mid : Mid r φ0 H0 w0 L p φ w
  frame : FrRel φ (Wr R.ops val (st 0).F L) a.tmps
  res : ∀ i, i < ops.size → φ.dom (R.base + i) → i ∈ L
variable {r : Run E G call yi ops R ord st val obj} {φ0 φ : Emb} {H0 : AHeap} {w0 w : World} {L : List Nat} {p : Nat} {a : Act}
theorem Mid.go {m : Nat} (h : Mid r φ0 H0 w0 L m φ w) {y : Nat} (hy : ord[m]? = some y) (hyL : y ∈ L) {o : Oper} {ob : Option AObj} (hl : LightRun E R y (st m) (st (m + 1)) o (val y) ob) (hob : obj y = ob) : Mid r φ0 H0 w0 L (m + 1) φ w := by
  have hmlt : m < ord.length := (List.getElem?_eq_some_iff.1 hy).1
  have hyn : y ∉ rp ord m := by
    have := r.rlegal (m + 1) (by omega)
    rw [rp_succ hy] at this
    exact this.1
  have hsub : ∀ x, x ∉ rp ord (m + 1) → x ∉ rp ord m ∧ x ≠ y := by
    intro x hx
    rw [rp_succ hy] at hx
    exact ⟨fun h => hx (List.mem_cons_of_mem _ h), fun h => hx (h ▸ List.mem_cons_self)⟩
  have same : (st (m + 1)).H = (st m).H → Mid r φ0 H0 w0 L (m + 1) φ w := by
    intro e
    refine ⟨by rw [e]; exact h.rel, by rw [e]; exact h.later, by rw [e]; exact h.next, ?_, ?_⟩
    · intro x hx hx1 ob hob
      rw [e]; exact h.pend x hx (hsub x hx1).1 ob hob
    · intro x z hx hz hx1 hz1
      exact h.pair x z hx hz (hsub x hx1).1 (hsub z hz1).1
  cases hl with
  | skip _ _ e => exact same e
  | keeps _ _ e _ => exact same e
  | reads _ _ e _ => exact same e
  | @adds mk ob _ _ _ e _ =>
    have hp := h.pend y hyL hyn ob hob
    obtain ⟨hd, ⟨obc, h1, h2⟩, h3, h4⟩ := hp
    refine ⟨by rw [e]; exact h.rel.add hd h1 h2 h4, by rw [e]; exact h.later.addObj h3, by rw [e]; exact h.next, ?_, ?_⟩
    · intro x hx hx1 ob' hob'
      obtain ⟨hx2, hxy⟩ := hsub x hx1
      obtain ⟨k1, k2, k3, k4⟩ := h.pend x hx hx2 ob' hob'
      refine ⟨k1, k2, k3, ?_⟩
      intro j q hj
      rw [e, AHeap.get_set] at hj
      split at hj
      · rename_i ej
        rw [ej]
        exact h.pair y x hyL hx hyn hx2 (fun e => hxy e.symm) ob ob' hob hob'
      · exact k4 j q hj
    · intro x z hx hz hx1 hz1
      exact h.pair x z hx hz (hsub x hx1).1 (hsub z hz1).1
theorem Mid.goTo {m : Nat} (h : Mid r φ0 H0 w0 L m φ w) : ∀ d, m + d ≤ ord.length → (∀ k x, m ≤ k → k < m + d → ord[k]? = some x → x ∈ L ∧ ∃ o, R.ops[x]? = some o ∧ isHeavy o = false) → Mid r φ0 H0 w0 L (m + d) φ w
  | 0, _, _ => h
  | d + 1, hd, hx => by
    have ih := h.goTo d (by omega) fun k x h1 h2 h3 => hx k x h1 (by omega) h3
    have hlt : m + d < ord.length := by omega
    have ho : ord[m + d]? = some ord[m + d] := List.getElem?_eq_getElem hlt
    obtain ⟨hL, o', ho', hh'⟩ := hx (m + d) _ (by omega) (by omega) ho
    obtain ⟨o, hc⟩ := r.step (m + d) _ ho
    cases hc with
    | heavy hb hh => rw [hb.op] at ho'; cases ho'; rw [hh] at hh'; cases hh'
    | light hb hh _ _ _ hl => exact ih.go ho hL hl rfl
theorem isHeavy_of_step {q i : Nat} (hq : ord[q]? = some i) {o : Oper} (ho : R.ops[i]? = some o) (r : Run E G call yi ops R ord st val obj) :
    (isHeavy o = true ∧ Base R i (st q) (st (q + 1)) o (val i) ∧ (st q).hs = i :: (st (q + 1)).hs ∧ (st (q + 1)).past = (st (q + 1)).H :: (st q).past ∧ obj i = none ∧
      ((wantedA R.ops (st q).F o = some true ∧ opA E call yi (st q).F (st q).H o.op = some (val i, (st (q + 1)).H)) ∨ (wantedA R.ops (st q).F o = some false ∧ val i = undefV ∧ (st (q + 1)).H = (st q).H))) ∨
    (isHeavy o = false ∧ Base R i (st q) (st (q + 1)) o (val i) ∧ lateOk R.anc i (st q).hs = true ∧ (st (q + 1)).hs = (st q).hs ∧ LightRun E R i (st q) (st (q + 1)) o (val i) (obj i)) := by
  obtain ⟨o', hc⟩ := r.step q i hq
  cases hc with
  | heavy hb hh h1 h2 h3 h4 =>
    have : o' = o := by have := hb.op; rw [ho] at this; cases this; rfl
    subst this
    exact .inl ⟨hh, hb, h2, h3, h1, h4⟩
  | light hb hh h1 h2 h3 h4 =>
    have : o' = o := by have := hb.op; rw [ho] at this; cases this; rfl
    subst this
    exact .inr ⟨hh, hb, h1, h2, h4⟩
theorem Inv.stretch (h : Inv r φ0 H0 w0 L p φ w a) {q i : Nat} (hq : ord[q]? = some i) {o : Oper} (ho : R.ops[i]? = some o) (hh : isHeavy o = true) (hpq : p ≤ q) (hanc : ∀ x, Anc R.anc i x → x ∈ L) :
    ∀ k x, p ≤ k → k < q → ord[k]? = some x → x ∈ L ∧ ∃ o, R.ops[x]? = some o ∧ isHeavy o = false := by
  have hql : q < ord.length := (List.getElem?_eq_some_iff.1 hq).1
  have hlight : ∀ k x, p ≤ k → k < q → ord[k]? = some x → ∃ o, R.ops[x]? = some o ∧ isHeavy o = false := by
    intro k x hpk hkq hk
    obtain ⟨o', hc⟩ := r.step k x hk
    cases hc with
    | light hb hh' => exact ⟨o', hb.op, hh'⟩
    | heavy hb hh' _ hhs _ _ =>
      exfalso
      obtain ⟨front, h1, _⟩ := r.queue k (by omega)
      obtain ⟨pre, h2⟩ := r.hsShrinks (p := k + 1) (q - (k + 1)) (by omega)
      rw [show k + 1 + (q - (k + 1)) = q by omega] at h2
      have hiq : ∃ t, (st q).hs = i :: t := by
        rcases isHeavy_of_step hq ho r with h3 | h3
        · exact ⟨_, h3.2.2.1⟩
        · rw [hh] at h3; cases h3.1
      obtain ⟨t, hiq⟩ := hiq
      have hmem : i ∈ (st (k + 1)).hs := by rw [h2, hiq]; simp
      have ha : Anc R.anc i x := chain_spec r.chain (pre := front) (r := (st (k + 1)).hs) (by rw [h1, hhs]) hmem
      have hxL := hanc x ha
      have := h.heavy x o' hxL hb.op hh'
      obtain ⟨k', hk', hk2⟩ := mem_rp.1 this
      have := r.pos_unique hk hk2
      omega
  have hhs : ∀ d, p + d ≤ q → (st p).hs = (st (p + d)).hs := by
    intro d
    induction d with
    | zero => intro _; rfl
    | succ d ih =>
      intro hd
      rw [ih (by omega)]
      have hlt : p + d < ord.length := by omega
      have hk : ord[p + d]? = some ord[p + d] := List.getElem?_eq_getElem hlt
      obtain ⟨o', ho', hh'⟩ := hlight (p + d) _ (by omega) (by omega) hk
      rcases isHeavy_of_step hk ho' r with h3 | h3
      · rw [hh'] at h3; cases h3.1
      · exact h3.2.2.2.1.symm
  intro k x hpk hkq hk
  obtain ⟨o', ho', hh'⟩ := hlight k x hpk hkq hk
  refine ⟨?_, o', ho', hh'⟩
  rcases isHeavy_of_step hk ho' r with h3 | h3
  · rw [hh'] at h3; cases h3.1
  · have hl := h3.2.2.1
    have e1 : (st k).hs = (st q).hs := by
      have a1 := hhs (k - p) (by omega)
      have a2 := hhs (q - p) (by omega)
      rw [show p + (k - p) = k by omega] at a1
      rw [show p + (q - p) = q by omega] at a2
      rw [← a1, a2]
    rcases isHeavy_of_step hq ho r with h4 | h4
    · rw [e1, h4.2.2.1] at hl
      exact hanc x hl
    · rw [hh] at h4; cases h4.1
end
end Go.Eng

namespace Go.Eng
open Go
section
variable {E : Env} {G : Nat} {call yi : Caller} {ops : Array Oper} {R : DR} {ord : List Nat} {st : Nat → DS} {val : Nat → Value} {obj : Nat → Option AObj}
variable {r : Run E G call yi ops R ord st val obj} {φ0 φ : Emb} {H0 : AHeap} {w0 w : World} {L : List Nat} {p : Nat} {a : Act}
theorem looks_guard {o : Oper} {t : Nat} (h : t ∈ guardDst R.ops o) : t ∈ looksA R.ops o := List.mem_append.2 (.inl h)
theorem looks_names {o : Oper} {t : Nat} (h : t ∈ o.op.operands.toList.filterMap tmpO) : t ∈ looksA R.ops o := List.mem_append.2 (.inr h)
theorem Wr_cons {i : Nat} {o : Oper} (ho : R.ops[i]? = some o) (F0 : Fr) (l : List Nat) : Wr R.ops val F0 (i :: l) = setT (Wr R.ops val F0 l) o.dst (val i) := by
  simp [Wr, dstOf, ho]
theorem Mid.next' (h : Mid r φ0 H0 w0 L p φ w) {φ' : Emb} {w' : World} (hr : HRel G φ' (st p).H w') (hl : Later φ (st p).H w φ' (st p).H w') : Mid r φ0 H0 w0 L p φ' w' := by
  refine ⟨hr, h.later.trans hl, h.next, fun x hx hx1 ob hob => (h.pend x hx hx1 ob hob).later hl, ?_⟩
  intro x y hx hy hx1 hy1 hxy ox oy hox hoy
  rw [hl.ids.loc _ (h.pend x hx hx1 ox hox).dom, hl.ids.loc _ (h.pend y hy hy1 oy hoy).dom]
  exact h.pair x y hx hy hx1 hy1 hxy ox oy hox hoy
theorem Mid.more (h : Mid r φ0 H0 w0 L p φ w) {i : Nat} (hi : obj i = none) : Mid r φ0 H0 w0 (i :: L) p φ w := by
  refine ⟨h.rel, h.later, h.next, ?_, ?_⟩
  · intro x hx hx1 ob hob
    rcases List.mem_cons.1 hx with rfl | hx
    · rw [hi] at hob; cases hob
    · exact h.pend x hx hx1 ob hob
  · intro x y hx hy hx1 hy1 hxy ox oy hox hoy
    rcases List.mem_cons.1 hx with rfl | hx
    · rw [hi] at hox; cases hox
    rcases List.mem_cons.1 hy with rfl | hy
    · rw [hi] at hoy; cases hoy
    exact h.pair x y hx hy hx1 hy1 hxy ox oy hox hoy
theorem Inv.light (h : Inv r φ0 H0 w0 L p φ w a) (hH0 : H0.next = R.base) {q i : Nat} (hq : ord[q]? = some i) {o : Oper} (ho : R.ops[i]? = some o) (hh : isHeavy o = false) (hiL : i ∉ L) (hanc : ∀ x, Anc R.anc i x → x ∈ L)
    (b : Frame) (k : List Item) (cs : List Frame) (rest : List Nat) :
    ∃ a' w' φ', Steps E.P (lone (b.atR a (.inRegion ops (i :: rest) :: k)) cs w) (lone (b.atR a' (.inRegion ops rest :: k)) cs w') ∧ Inv r φ0 H0 w0 (i :: L) p φ' w' a' ∧ a'.defers = a.defers := by
  have hql : q < ord.length := (List.getElem?_eq_some_iff.1 hq).1
  have hoo : ops[i]? = some o := by have := ho; rw [r.hops] at this; simpa using this
  have hin : i < ops.size := (Array.getElem?_eq_some_iff.1 hoo).1
  have hpq : p ≤ q := by
    rcases Nat.lt_or_ge q p with hlt | hge
    · exact absurd (h.behind i (mem_rp.2 ⟨q, hlt, hq⟩)) hiL
    · exact hge
  rcases isHeavy_of_step hq ho r with h3 | ⟨_, hb, hlate, _, hrun⟩
  · rw [hh] at h3; cases h3.1
  have hrpq := r.rlegal q (by omega)
  have hrpq1 := r.rlegal (q + 1) (by omega)
  rw [rp_succ hq] at hrpq1
  have hagree : ∀ s, s ∈ looksA R.ops o → (Wr R.ops val (st 0).F L).at s = (st q).F.at s := by
    intro s hs
    rw [r.frame q (by omega)]
    exact r.agree ho h.legal hrpq hiL hrpq1.1 hanc hrpq1.2.1 hs
  have hwant : wantedA R.ops (Wr R.ops val (st 0).F L) o = wantedA R.ops (st q).F o := wantedA_congr fun t ht => hagree t (looks_guard ht)
  have hopA : ∀ (c y : Caller) (H : AHeap), opA E c y (Wr R.ops val (st 0).F L) H o.op = opA E c y (st q).F H o.op := fun c y H => opA_congr fun t ht => hagree t (looks_names ht)
  have hlegal : RLegal R.anc (i :: L) := ⟨hiL, hanc, h.legal⟩
  have hbehind : ∀ x, x ∈ rp ord p → x ∈ i :: L := fun x hx => List.mem_cons_of_mem _ (h.behind x hx)
  have hheavy : ∀ j o', j ∈ i :: L → R.ops[j]? = some o' → isHeavy o' = true → j ∈ rp ord p := by
    intro j o' hj ho' hh'
    rcases List.mem_cons.1 hj with rfl | hj
    · rw [ho] at ho'; cases ho'; rw [hh] at hh'; cases hh'
    · exact h.heavy j o' hj ho' hh'
  have wsound : ∀ {wt : Bool}, wantedA R.ops (st q).F o = some wt → Region.wanted o (yielded ops a.tmps) = wt := by
    intro wt hwt
    rw [← hwant, r.hops] at hwt
    have := h.frame
    rw [r.hops] at this
    exact wantedA_sound this hwt
  have keep : obj i = none → wantedA R.ops (st q).F o = some true → opA E noCall noCall (st q).F (st p).H o.op = some (val i, (st p).H) →
      ∃ a' w' φ', Steps E.P (lone (b.atR a (.inRegion ops (i :: rest) :: k)) cs w) (lone (b.atR a' (.inRegion ops rest :: k)) cs w') ∧ Inv r φ0 H0 w0 (i :: L) p φ' w' a' ∧ a'.defers = a.defers := by
    intro hobj hwt hop
    rw [← hopA] at hop
    obtain ⟨v', w', φ', h1, h2, h3, h4⟩ := opA_sound r.good.noCall h.mid.rel h.frame hop (b.atR a (.inRegion ops (i :: rest) :: k)) cs
    refine ⟨a.put o.dst v', w', φ', region_op hoo (wsound hwt) (opA_noDefer hop) h1, ?_, put_defers _ _ _⟩
    refine ⟨hlegal, hbehind, hheavy, h.ple, h.bound, (h.mid.next' h2 h3).more hobj, ?_, ?_⟩
    · rw [Wr_cons ho]; exact (h3.f h.frame).setT h4 _
    · intro j hj hd
      rcases h3.fresh _ hd with hd | hd
      · exact List.mem_cons_of_mem _ (h.res j hj hd)
      · have := h.mid.next
        omega
  generalize hobj : obj i = ob at hrun
  cases hrun with
  | skip hwt hv _ =>
    refine ⟨a.put o.dst undef, w, φ, ?_, ?_, put_defers _ _ _⟩
    · have := stepR_op_skip (P := E.P) (b := b) (a := a) (k := k) (cs := cs) (w := w) (ops := ops) (i := i) (rest := rest) (by simp [hoo, wsound hwt])
      rw [hoo] at this
      exact .one this
    · refine ⟨hlegal, hbehind, hheavy, h.ple, h.bound, h.mid.more hobj, ?_, fun j hj hd => List.mem_cons_of_mem _ (h.res j hj hd)⟩
      rw [Wr_cons ho, hv]; exact h.frame.setT undef_rel _
  | keeps hwt _ _ hop => exact keep hobj hwt (hop _)
  | reads hwt hrd _ hop =>
    refine keep hobj hwt ?_
    have hmem : (st p).H ∈ (st q).past.take ((st q).past.length - loOf R.anc R.all i) := by
      obtain ⟨newer, hn⟩ := r.pastGrows (p := p) (q - p) (by omega)
      rw [show p + (q - p) = q by omega] at hn
      obtain ⟨t, ht⟩ := h.bound
      obtain ⟨front, h1, h2, h3, h4⟩ := r.queue p h.ple
      have hlo : loOf R.anc R.all i ≤ front.length := by
        unfold loOf
        rw [h1, List.filter_append]
        have : (List.filter (fun x => Nat.testBit (R.anc.getD i 0) x) (st p).hs) = [] := by
          rw [List.filter_eq_nil_iff]
          intro x hx hax
          have hxL := hanc x hax
          have hxall : x ∈ R.all := by rw [h1]; exact List.mem_append.2 (.inr hx)
          have hxh : ∃ o, R.ops[x]? = some o ∧ isHeavy o = true := by
            rw [r.hall, ← r.hops] at hxall
            exact heavies_mem hxall
          obtain ⟨o', ho', hh'⟩ := hxh
          have hxrp := h.heavy x o' hxL ho' hh'
          have hxf := h4 x hxrp ⟨o', ho', hh'⟩
          have hnd := heavies_nodup R.ops 0
          rw [r.hops, ← r.hall, h1, List.nodup_append] at hnd
          exact hnd.2.2 x hxf x hx rfl
        rw [this, List.append_nil]
        exact List.length_filter_le _ _
      have hlen : (st q).past.length = newer.length + (front.length + 1) := by rw [hn, List.length_append, h2]
      rw [List.mem_iff_getElem?]
      refine ⟨newer.length, ?_⟩
      rw [List.getElem?_take, if_pos (by omega), hn, List.getElem?_append_right (Nat.le_refl _), ht]
      simp
    have := hop _ hmem (st p).H.next
    exact this
  | @adds mk ob hwt hrd hv _ hop =>
    have hF := h.frame
    have hop' := hop ⟨R.base + i, (st p).H.objs⟩
    rw [← hopA] at hop'
    rcases light_form r.good.hG h.mid.rel hF hh hrd hop' with ⟨h1, _⟩ | ⟨mk', ob', h1, h2, s, hs, hal⟩
    · exfalso
      have := congrArg AHeap.next h1
      simp [AHeap.new] at this
    simp only [Prod.mk.injEq] at h1
    obtain ⟨h1, h1'⟩ := h1
    have hobe : ob' = ob := by
      have := congrArg (fun H => AHeap.get H (R.base + i)) h1'
      simp only [AHeap.get_new] at this
      simpa using this.symm
    subst hobe
    obtain ⟨obc, Lc, u, d, k1, k2, k3, k4⟩ := hal
    have hnd : ¬ φ.dom (R.base + i) := fun hd => hiL (h.res i hin hd)
    have hlt : R.base + i < (st p).H.next := by have := h.mid.next; omega
    have hle : φ.le (extEmb φ (R.base + i) Lc) := extEmb_le hnd
    refine ⟨a.put o.dst u, _, extEmb φ (R.base + i) Lc, region_op hoo (wsound hwt) (opA_noDefer hop') (.inl (by rw [hs]; simp only [Sem.run_bind, k1, Result.andThen_ok]; rfl)), ?_, put_defers _ _ _⟩
    have holdLt : ∀ x, x ∈ L → x ∉ rp ord p → ∀ ox, obj x = some ox → (φ (R.base + x)).block < w.heap.size := by
      intro x hx hx1 ox hox
      obtain ⟨obx, hbx, _⟩ := (h.mid.pend x hx hx1 ox hox).at_
      exact (Array.getElem?_eq_some_iff.1 hbx).1
    refine ⟨hlegal, hbehind, hheavy, h.ple, h.bound, ⟨h.mid.rel.addEmb hnd hlt Lc obc d, h.mid.later.addEmb h.mid.rel hnd (by omega) Lc obc d, h.mid.next, ?_, ?_⟩, ?_, ?_⟩
    · intro x hx hx1 ox hox
      rcases List.mem_cons.1 hx with rfl | hx
      · rw [hobj] at hox
        cases hox
        refine ⟨extEmb_dom, ⟨obc, ?_, ?_⟩, ?_, ?_⟩
        · rw [extEmb_self, k2]; simp
        · rw [extEmb_self]; exact k3.mono hle
        · rw [extEmb_self, k2]; exact h.mid.later.size
        · intro j pp hj
          obtain ⟨hdj, x2, hx2, _⟩ := h.mid.rel.obj j pp hj
          have := (Array.getElem?_eq_some_iff.1 hx2).1
          rw [extEmb_self, k2, hle.loc j hdj]; omega
      · obtain ⟨p1, ⟨obx, p2, p3⟩, p4, p5⟩ := h.mid.pend x hx hx1 ox hox
        refine ⟨.inl p1, ⟨obx, ?_, ?_⟩, ?_, ?_⟩
        · rw [hle.loc _ p1]; exact heap_push_old p2
        · rw [hle.loc _ p1]; exact p3.mono hle
        · rw [hle.loc _ p1]; exact p4
        · intro j pp hj
          rw [hle.loc _ p1, hle.loc j (h.mid.rel.obj j pp hj).1]; exact p5 j pp hj
    · intro x y hx hy hx1 hy1 hxy ox oy hox hoy
      by_cases hxi : x = i
      · by_cases hyi : y = i
        · exact absurd (hxi.trans hyi.symm) hxy
        · have hyL := (List.mem_cons.1 hy).resolve_left hyi
          rw [hxi, extEmb_self, hle.loc _ (h.mid.pend y hyL hy1 oy hoy).dom, k2]
          have := holdLt y hyL hy1 oy hoy
          omega
      · have hxL := (List.mem_cons.1 hx).resolve_left hxi
        by_cases hyi : y = i
        · rw [hyi, extEmb_self, hle.loc _ (h.mid.pend x hxL hx1 ox hox).dom, k2]
          have := holdLt x hxL hx1 ox hox
          omega
        · have hyL := (List.mem_cons.1 hy).resolve_left hyi
          rw [hle.loc _ (h.mid.pend x hxL hx1 ox hox).dom, hle.loc _ (h.mid.pend y hyL hy1 oy hoy).dom]
          exact h.mid.pair x y hxL hyL hx1 hy1 hxy ox oy hox hoy
    · rw [Wr_cons ho, hv, h1]
      exact (hF.mono hle).setT (k4 _ _ extEmb_dom extEmb_self) _
    · intro j hj hd
      rcases hd with hd | hd
      · exact List.mem_cons_of_mem _ (h.res j hj hd)
      · have : j = i := by omega
        rw [this]; exact List.mem_cons_self
theorem Inv.heavyStep (h : Inv r φ0 H0 w0 L p φ w a) {q i : Nat} (hq : ord[q]? = some i) {o : Oper} (ho : R.ops[i]? = some o) (hh : isHeavy o = true) (hiL : i ∉ L) (hanc : ∀ x, Anc R.anc i x → x ∈ L)
    (b : Frame) (k : List Item) (cs : List Frame) (rest : List Nat) :
    ∃ a' w' φ', Steps E.P (lone (b.atR a (.inRegion ops (i :: rest) :: k)) cs w) (lone (b.atR a' (.inRegion ops rest :: k)) cs w') ∧ Inv r φ0 H0 w0 (i :: L) (q + 1) φ' w' a' ∧ a'.defers = a.defers := by
  have hql : q < ord.length := (List.getElem?_eq_some_iff.1 hq).1
  have hoo : ops[i]? = some o := by have := ho; rw [r.hops] at this; simpa using this
  have hin : i < ops.size := (Array.getElem?_eq_some_iff.1 hoo).1
  have hpq : p ≤ q := by
    rcases Nat.lt_or_ge q p with hlt | hge
    · exact absurd (h.behind i (mem_rp.2 ⟨q, hlt, hq⟩)) hiL
    · exact hge
  rcases isHeavy_of_step hq ho r with ⟨_, hb, hhs, hpast, hobj, hrun⟩ | h3
  rotate_left
  · rw [hh] at h3; cases h3.1
  have hst := h.stretch hq ho hh hpq hanc
  have hm := h.mid.goTo (q - p) (by omega) (fun k x h1 h2 h3 => hst k x h1 (by omega) h3)
  rw [show p + (q - p) = q by omega] at hm
  have hrpq := r.rlegal q (by omega)
  have hrpq1 := r.rlegal (q + 1) (by omega)
  rw [rp_succ hq] at hrpq1
  have hagree : ∀ s, s ∈ looksA R.ops o → (Wr R.ops val (st 0).F L).at s = (st q).F.at s := by
    intro s hs
    rw [r.frame q (by omega)]
    exact r.agree ho h.legal hrpq hiL hrpq1.1 hanc hrpq1.2.1 hs
  have hwant : wantedA R.ops (Wr R.ops val (st 0).F L) o = wantedA R.ops (st q).F o := wantedA_congr fun t ht => hagree t (looks_guard ht)
  have hlegal : RLegal R.anc (i :: L) := ⟨hiL, hanc, h.legal⟩
  have hbehind : ∀ x, x ∈ rp ord (q + 1) → x ∈ i :: L := by
    intro x hx
    rw [rp_succ hq] at hx
    rcases List.mem_cons.1 hx with rfl | hx
    · exact List.mem_cons_self
    · obtain ⟨m, hm1, hm2⟩ := mem_rp.1 hx
      rcases Nat.lt_or_ge m p with hlt | hge
      · exact List.mem_cons_of_mem _ (h.behind x (mem_rp.2 ⟨m, hlt, hm2⟩))
      · exact List.mem_cons_of_mem _ (hst m x hge hm1 hm2).1
  have hheavy : ∀ j o', j ∈ i :: L → R.ops[j]? = some o' → isHeavy o' = true → j ∈ rp ord (q + 1) := by
    intro j o' hj ho' hh'
    rcases List.mem_cons.1 hj with rfl | hj
    · exact mem_rp.2 ⟨q, Nat.lt_succ_self _, hq⟩
    · obtain ⟨m, hm1, hm2⟩ := mem_rp.1 (h.heavy j o' hj ho' hh')
      exact mem_rp.2 ⟨m, by omega, hm2⟩
  have wsound : ∀ {wt : Bool}, wantedA R.ops (st q).F o = some wt → Region.wanted o (yielded ops a.tmps) = wt := by
    intro wt hwt
    rw [← hwant, r.hops] at hwt
    have := h.frame
    rw [r.hops] at this
    exact wantedA_sound this hwt
  have hsub : ∀ x, x ∉ rp ord (q + 1) → x ∉ rp ord q ∧ x ≠ i := by
    intro x hx
    rw [rp_succ hq] at hx
    exact ⟨fun h => hx (List.mem_cons_of_mem _ h), fun h => hx (h ▸ List.mem_cons_self)⟩
  have hL : ∀ {x}, x ∈ i :: L → x ≠ i → x ∈ L := fun hx hne => (List.mem_cons.1 hx).resolve_left hne
  rcases hrun with ⟨hwt, hop⟩ | ⟨hwt, hv, he⟩
  · rw [← opA_congr (F := Wr R.ops val (st 0).F L) fun t ht => hagree t (looks_names ht)] at hop
    obtain ⟨v', w', φ', h1, h2, h3, h4⟩ := opA_sound r.good hm.rel h.frame hop (b.atR a (.inRegion ops (i :: rest) :: k)) cs
    refine ⟨a.put o.dst v', w', φ', region_op hoo (wsound hwt) (opA_noDefer hop) h1, ?_, put_defers _ _ _⟩
    refine ⟨hlegal, hbehind, hheavy, by omega, ⟨_, hpast⟩, ⟨h2, hm.later.trans h3, Nat.le_trans hm.next h3.next, ?_, ?_⟩, ?_, ?_⟩
    · intro x hx hx1 ox hox
      obtain ⟨hx2, hxi⟩ := hsub x hx1
      exact (hm.pend x (hL hx hxi) hx2 ox hox).later h3
    · intro x y hx hy hx1 hy1 hxy ox oy hox hoy
      obtain ⟨hx2, hxi⟩ := hsub x hx1
      obtain ⟨hy2, hyi⟩ := hsub y hy1
      rw [h3.ids.loc _ (hm.pend x (hL hx hxi) hx2 ox hox).dom, h3.ids.loc _ (hm.pend y (hL hy hyi) hy2 oy hoy).dom]
      exact hm.pair x y (hL hx hxi) (hL hy hyi) hx2 hy2 hxy ox oy hox hoy
    · rw [Wr_cons ho]; exact (h3.f h.frame).setT h4 _
    · intro j hj hd
      rcases h3.fresh _ hd with hd | hd
      · exact List.mem_cons_of_mem _ (h.res j hj hd)
      · have := hm.next
        omega
  · refine ⟨a.put o.dst undef, w, φ, ?_, ?_, put_defers _ _ _⟩
    · have := stepR_op_skip (P := E.P) (b := b) (a := a) (k := k) (cs := cs) (w := w) (ops := ops) (i := i) (rest := rest) (by simp [hoo, wsound hwt])
      rw [hoo] at this
      exact .one this
    · refine ⟨hlegal, hbehind, hheavy, by omega, ⟨_, hpast⟩, ⟨by rw [he]; exact hm.rel, by rw [he]; exact hm.later, by rw [he]; exact hm.next, ?_, ?_⟩, ?_, fun j hj hd => List.mem_cons_of_mem _ (h.res j hj hd)⟩
      · intro x hx hx1 ox hox
        obtain ⟨hx2, hxi⟩ := hsub x hx1
        rw [he]; exact hm.pend x (hL hx hxi) hx2 ox hox
      · intro x y hx hy hx1 hy1 hxy ox oy hox hoy
        obtain ⟨hx2, hxi⟩ := hsub x hx1
        obtain ⟨hy2, hyi⟩ := hsub y hy1
        exact hm.pair x y (hL hx hxi) (hL hy hyi) hx2 hy2 hxy ox oy hox hoy
      · rw [Wr_cons ho, hv]; exact h.frame.setT undef_rel _
end
end Go.Eng

namespace Go.Eng
open Go
section
variable {E : Env} {G : Nat} {call yi : Caller} {ops : Array Oper} {R : DR} {ord : List Nat} {st : Nat → DS} {val : Nat → Value} {obj : Nat → Option AObj}
variable {r : Run E G call yi ops R ord st val obj} {φ0 : Emb} {H0 : AHeap} {w0 : World}
theorem Inv.runs (hH0 : H0.next = R.base) (b : Frame) (k : List Item) (cs : List Frame) : ∀ (l L : List Nat) (p : Nat) (φ : Emb) (w : World) (a : Act), Legal ops L l → (∀ x, x < ops.size → x ∈ L ∨ x ∈ l) → Inv r φ0 H0 w0 L p φ w a →
    ∃ a' w' φ', Steps E.P (lone (b.atR a (.inRegion ops l :: k)) cs w) (lone (b.atR a' k) cs w') ∧ HRel G φ' (st ord.length).H w' ∧ Later φ0 H0 w0 φ' (st ord.length).H w' ∧ FrRel φ' (st ord.length).F a'.tmps ∧ a'.defers = a.defers
  | [], L, p, φ, w, a, _, hall, h => by
    have hallL : ∀ x, x < ops.size → x ∈ L := fun x hx => (hall x hx).resolve_right (by simp)
    have hlt : ∀ k x : Nat, ord[k]? = some x → x < ops.size := by
      intro k x hk
      obtain ⟨o, ho, _⟩ := r.opAt hk
      exact (Array.getElem?_eq_some_iff.1 ho).1
    have hm := h.mid.goTo (ord.length - p) (by have := h.ple; omega) (fun k x h1 h2 h3 => by
      have hxL := hallL x (hlt k x h3)
      refine ⟨hxL, ?_⟩
      obtain ⟨o, hc⟩ := r.step k x h3
      cases hc with
      | light hb hh => exact ⟨o, hb.op, hh⟩
      | heavy hb hh =>
        exfalso
        obtain ⟨m, hm1, hm2⟩ := mem_rp.1 (h.heavy x o hxL hb.op hh)
        have := r.pos_unique h3 hm2
        omega)
    rw [show p + (ord.length - p) = ord.length by have := h.ple; omega] at hm
    refine ⟨a, w, φ, .one stepR_region_end, hm.rel, hm.later, ?_, rfl⟩
    rw [r.frame ord.length (Nat.le_refl _)]
    have hf := h.frame
    refine ⟨?_, fun i => ?_⟩
    · have := hf.1
      rw [Wr_n] at this ⊢
      exact this
    · rw [r.agreeAll (l := rp ord ord.length) (m := L) (r.rlegal _ (Nat.le_refl _)) h.legal (fun x hx => ⟨?_, hallL x hx⟩) i]
      · exact hf.2 i
      · obtain ⟨q, hq⟩ := List.mem_iff_getElem?.1 (r.all x hx)
        exact mem_rp.2 ⟨q, (List.getElem?_eq_some_iff.1 hq).1, hq⟩
  | i :: l, L, p, φ, w, a, hl, hall, h => by
    have hc : Closed (ancA ops.toList []) L := by rw [← r.hanc]; exact h.legal.closed
    obtain ⟨hiL, hanc, _⟩ := hl.head r.edges hc
    rw [← r.hanc] at hanc
    obtain ⟨_, ⟨o, ho, _⟩, hl'⟩ := hl
    have hin : i < ops.size := (Array.getElem?_eq_some_iff.1 ho).1
    obtain ⟨q, hq⟩ := List.mem_iff_getElem?.1 (r.all i hin)
    have ho' : R.ops[i]? = some o := by rw [r.hops]; simpa using ho
    have hall' : ∀ x, x < ops.size → x ∈ i :: L ∨ x ∈ l := by
      intro x hx
      rcases hall x hx with h | h
      · exact .inl (List.mem_cons_of_mem _ h)
      · rcases List.mem_cons.1 h with rfl | h
        · exact .inl List.mem_cons_self
        · exact .inr h
    cases hh : isHeavy o with
    | true =>
      obtain ⟨a1, w1, φ1, s1, h1, d1⟩ := h.heavyStep hq ho' hh hiL hanc b k cs l
      obtain ⟨a2, w2, φ2, s2, h2, h3, h4, d2⟩ := Inv.runs hH0 b k cs l (i :: L) (q + 1) φ1 w1 a1 hl' hall' h1
      exact ⟨a2, w2, φ2, s1.trans s2, h2, h3, h4, d2.trans d1⟩
    | false =>
      obtain ⟨a1, w1, φ1, s1, h1, d1⟩ := h.light hH0 hq ho' hh hiL hanc b k cs l
      obtain ⟨a2, w2, φ2, s2, h2, h3, h4, d2⟩ := Inv.runs hH0 b k cs l (i :: L) p φ1 w1 a1 hl' hall' h1
      exact ⟨a2, w2, φ2, s1.trans s2, h2, h3, h4, d2.trans d1⟩
end
theorem CStep.base {E : Env} {call yi : Caller} {R : DR} {i : Nat} {s s' : DS} {o : Oper} {v : Value} {ob : Option AObj} (h : CStep E call yi R i s s' o v ob) : Base R i s s' o v := by
  cases h with
  | heavy hb => exact hb
  | light hb => exact hb
theorem testBit_bit (s : DS) (i p : Nat) : (s.bit i).testBit p = true ↔ s.done.testBit p = true ∨ i = p := by
  unfold DS.bit
  show Nat.testBit (s.done ||| 2 ^ i) p = true ↔ _
  rw [Nat.testBit_or, Bool.or_eq_true, Nat.testBit_two_pow, decide_eq_true_eq]
theorem states_unique {E : Env} {call yi : Caller} {R : DR} {ord : List Nat} {st : Nat → DS} (h : ∀ q i, ord[q]? = some i → ∃ o v ob, CStep E call yi R i (st q) (st (q + 1)) o v ob) {q p i : Nat} (hq : ord[q]? = some i) (hp : ord[p]? = some i) : q = p := by
  have stays : ∀ d a, a + d ≤ ord.length → (st a).done.testBit i = true → (st (a + d)).done.testBit i = true := by
    intro d
    induction d with
    | zero => intro a _ h; exact h
    | succ d ih =>
      intro a hle hb
      have := ih a (by omega) hb
      obtain ⟨o, v, ob, hc⟩ := h (a + d) _ (List.getElem?_eq_getElem (show a + d < ord.length by omega))
      show (st (a + d + 1)).done.testBit i = true
      rw [hc.base.done, testBit_bit]
      exact .inl this
  have key : ∀ {a b : Nat}, ord[a]? = some i → ord[b]? = some i → ¬ a < b := by
    intro a b ha hb hab
    obtain ⟨o, v, ob, hc⟩ := h a i ha
    obtain ⟨o', v', ob', hc'⟩ := h b i hb
    have hbl : b < ord.length := (List.getElem?_eq_some_iff.1 hb).1
    have h1 : (st (a + 1)).done.testBit i = true := by rw [hc.base.done, testBit_bit]; exact .inr rfl
    have h2 := stays (b - (a + 1)) (a + 1) (by omega) h1
    rw [show a + 1 + (b - (a + 1)) = b by omega, hc'.base.new] at h2
    cases h2
  have h1 := key hq hp
  have h2 := key hp hq
  omega
theorem states_bits {E : Env} {call yi : Caller} {R : DR} {ord : List Nat} {st : Nat → DS} (h : ∀ q i, ord[q]? = some i → ∃ o v ob, CStep E call yi R i (st q) (st (q + 1)) o v ob) (h0 : (st 0).done = 0) :
    ∀ q, q ≤ ord.length → ∀ i, (st q).done.testBit i = true → i ∈ ord
  | 0, _, i, hi => by rw [h0] at hi; simp at hi
  | q + 1, hq, i, hi => by
    have hk : ord[q]? = some ord[q] := List.getElem?_eq_getElem (by omega)
    obtain ⟨o, v, ob, hc⟩ := h q _ hk
    rw [hc.base.done, testBit_bit] at hi
    rcases hi with hi | hi
    · exact states_bits h h0 q (by omega) i hi
    · exact hi ▸ List.getElem_mem _
theorem region_draw {E : Env} {G : Nat} {call yi : Caller} (g : Good E G call yi) (id : Nat) (ops : Array Oper) : RegionOK E G call yi id ops true := by
  intro b k cs φ H w F a res h hF e
  simp only [regionA, cond_true, drawR, bif_some, Option.bind_eq_some_iff] at e
  obtain ⟨hchk, sN, hrun, hend⟩ := e
  simp only [drawChecks, Bool.and_eq_true] at hchk
  obtain ⟨⟨hed, hch⟩, htm⟩ := hchk
  simp only [drawEnd, bif_some, Bool.and_eq_true, beq_nat, Option.some.injEq] at hend
  obtain ⟨⟨hdone, hhs⟩, rfl⟩ := hend
  obtain ⟨st, hs0, hsN, hstep⟩ := drawA_states hrun
  generalize hord : canon ops.toList.length (ancA ops.toList []) (heavies ops.toList 0) (heavies ops.toList 0) 0 = ord at hrun hsN hstep
  have huniq := fun {q p i} => states_unique (q := q) (p := p) (i := i) hstep
  have hex : ∀ i : Nat, ∃ vo : Value × Option AObj, ∀ q : Nat, ord[q]? = some i → ∃ o, CStep E call yi ⟨ops.toList, ancA ops.toList [], heavies ops.toList 0, H.next⟩ i (st q) (st (q + 1)) o vo.1 vo.2 := by
    intro i
    by_cases hq : ∃ q : Nat, ord[q]? = some i
    · obtain ⟨q, hq⟩ := hq
      obtain ⟨o, v, ob, hc⟩ := hstep q i hq
      refine ⟨(v, ob), fun p hp => ⟨o, ?_⟩⟩
      rw [← huniq hq hp]; exact hc
    · exact ⟨(undefV, none), fun q hq' => absurd ⟨q, hq'⟩ hq⟩
  have hall : ∀ i, i < ops.size → i ∈ ord := by
    intro i hi
    refine states_bits hstep (by rw [hs0]) ord.length (Nat.le_refl _) i ?_
    rw [hsN, hdone]
    have : i < ops.toList.length := by simpa using hi
    rw [Nat.testBit_two_pow_sub_one]
    simpa using this
  let r : Run E G call yi ops ⟨ops.toList, ancA ops.toList [], heavies ops.toList 0, H.next⟩ ord st (fun i => (Classical.choose (hex i)).1) (fun i => (Classical.choose (hex i)).2) :=
    { good := g, hops := rfl, hanc := rfl, hall := rfl, edges := hed, chain := hch, tmps := htm, step := fun q i hq => Classical.choose_spec (hex i) q hq,
      done0 := by rw [hs0], past0 := by rw [hs0], hs0 := by rw [hs0], next0 := by rw [hs0]; simp, all := hall }
  have hw1 := h.drawn (w.drawn + 1)
  have hst0H : (st 0).H = ⟨H.next + ops.toList.length, H.objs⟩ := by rw [hs0]
  have hst0F : (st 0).F = F := by rw [hs0]
  have hrel0 : HRel G φ (st 0).H { w with drawn := w.drawn + 1 } := by
    rw [hst0H]
    exact ⟨hw1.1.glob, fun i hi => Nat.lt_of_lt_of_le (hw1.1.lt i hi) (Nat.le_add_right _ _), hw1.1.obj, hw1.1.inj⟩
  have hlat0 : Later φ H w φ (st 0).H { w with drawn := w.drawn + 1 } := by
    rw [hst0H]
    exact ⟨φ.le_refl, Nat.le_add_right _ _, Nat.le_refl _, fun _ _ _ => rfl, fun _ h => .inl h, fun _ h => .inl h, fun i o h => .inl ⟨i, o, h, rfl⟩, rfl, rfl, rfl⟩
  have hinv : Inv r φ H w [] 0 φ { w with drawn := w.drawn + 1 } a := by
    refine ⟨trivial, fun x hx => by simp [rp] at hx, fun i o hi => by simp at hi, Nat.zero_le _, ⟨[], by rw [hs0]⟩, ⟨hrel0, hlat0, ?_, fun x hx => by simp at hx, fun x y hx => by simp at hx⟩, ?_, ?_⟩
    · rw [hst0H]; simp
    · simp only [Wr]; rw [hst0F]; exact hF
    · intro i hi hd
      have h1 : H.next + i < H.next := h.lt _ hd
      omega
  obtain ⟨hleg, hcomp⟩ := schedule_legal ops hed (w.tape w.drawn (.order b.fn id))
  obtain ⟨a', w', φ', s1, h1, h2, h3, h4⟩ := Inv.runs (r := r) rfl b k cs _ [] 0 φ _ a hleg (fun x hx => .inr (hcomp x hx)) hinv
  rw [hsN] at h1 h2 h3
  refine ⟨a', w', φ', .head ?_ s1, h1, h2, h3, h4⟩
  have := stepR_region_draw (P := E.P) (b := b) (a := a) (k := k) (cs := cs) (w := w) (ops := ops) (id := id)
  rw [g.mixed] at this
  exact this
theorem region_ok {E : Env} {G : Nat} {call yi : Caller} (g : Good E G call yi) (id : Nat) (ops : Array Oper) : ∀ d, RegionOK E G call yi id ops d
  | true => region_draw g id ops
  | false => region_text g id ops
end Go.Eng

namespace Go.Eng
open Go
structure AFRel (φ : Emb) (F : AF) (b : Frame) (a : Act) : Prop where
  tmps : FrRel φ F.tmps a.tmps
  fn : b.fn = F.fn
  kind : b.kind = .normal
  round : (F.round = none ∧ b.roundOf = none) ∨ ∃ l, F.round = some l ∧ φ.dom l ∧ b.roundOf = some (φ l).block
  defs : a.defers = F.defs.map (fun d => ({ target := .collected (φ d).block, args := #[] } : Deferred))
  defdom : ∀ d ∈ F.defs, φ.dom d
theorem AFRel.mono {φ φ' : Emb} (h : φ.le φ') {F : AF} {b : Frame} {a : Act} (r : AFRel φ F b a) : AFRel φ' F b a := by
  refine ⟨r.tmps.mono h, r.fn, r.kind, ?_, ?_, fun d hd => h.dom d (r.defdom d hd)⟩
  · rcases r.round with h1 | ⟨l, h1, h2, h3⟩
    · exact .inl h1
    · exact .inr ⟨l, h1, h.dom l h2, by rw [h.loc l h2]; exact h3⟩
  · rw [r.defs]
    refine List.map_congr_left fun d hd => ?_
    rw [h.loc d (r.defdom d hd)]
theorem AFRel.setTmps {φ : Emb} {F : AF} {b : Frame} {a a' : Act} (r : AFRel φ F b a) {T : Fr} (h : FrRel φ T a'.tmps) (hd : a'.defers = a.defers) : AFRel φ ⟨F.fn, T, F.defs, F.round⟩ b a' :=
  ⟨h, r.fn, r.kind, r.round, by rw [hd]; exact r.defs, r.defdom⟩
def Ends (P : Program) (m : Machine) (b : Frame) (k : List Item) (cs : List Frame) (a : Act) (w : World) : AExit → Prop
  | .normal => Steps P m (lone (b.atR a k) cs w)
  | .exit id => ∃ k1, exitTo id k1 = exitTo id k ∧ Steps P m (lone (b.atR a (.code (.exit id) :: k1)) cs w)
  | .ret => ∃ k1, Steps P m (lone (b.atR a (.code .ret :: k1)) cs w)
theorem Ends.of_steps {P : Program} {m m1 : Machine} {b : Frame} {k : List Item} {cs : List Frame} {a : Act} {w : World} {e : AExit} (h : Steps P m m1) (h' : Ends P m1 b k cs a w e) : Ends P m b k cs a w e := by
  cases e with
  | normal => exact h.trans h'
  | exit id => obtain ⟨k1, h1, h2⟩ := h'; exact ⟨k1, h1, h.trans h2⟩
  | ret => obtain ⟨k1, h2⟩ := h'; exact ⟨k1, h.trans h2⟩
theorem Ends.pass {P : Program} {m : Machine} {b : Frame} {x : Item} {k : List Item} {cs : List Frame} {a : Act} {w : World} {e : AExit} (hx : ∀ id, exitTo id (x :: k) = exitTo id k) (hn : e ≠ .normal) (h : Ends P m b (x :: k) cs a w e) : Ends P m b k cs a w e := by
  cases e with
  | normal => exact absurd rfl hn
  | exit id => obtain ⟨k1, h1, h2⟩ := h; exact ⟨k1, h1.trans (hx id), h2⟩
  | ret => exact h
theorem stepR_scope {P : Program} {b : Frame} {a : Act} {k : List Item} {cs : List Frame} {w : World} {c : Code} :
    step P (lone (b.atR a (.code (.scope c) :: k)) cs w) = .next (lone (b.atR a (.code c :: .inScope c :: k)) cs w) :=
  step_lone_go (by simp [stepG, stepG.exec, Frame.atR])
theorem stepR_inScope {P : Program} {b : Frame} {a : Act} {k : List Item} {cs : List Frame} {w : World} {c : Code} :
    step P (lone (b.atR a (.inScope c :: k)) cs w) = .next (lone (b.atR a k) cs w) :=
  step_lone_go (by simp [stepG, stepG.exec, Frame.atR])
def Starts (b : Frame) (a : Act) (c : Code) (k : List Item) (cs : List Frame) (w : World) (m : Machine) : Prop :=
  m = lone (b.atR a (.code c :: k)) cs w ∨ ∃ c', c = .loop c' ∧ m = lone (b.atR a (.inLoop c' :: k)) cs w
def RecOK (P : Program) (G : Nat) (again : Rec) : Prop :=
  ∀ c F H o, again c F H = some o → ∀ φ w b a, AFRel φ F b a → HRel G φ H w → ∀ k cs m, Starts b a c k cs w m →
    ∃ a' w' φ', Ends P m b k cs a' w' o.e ∧ HRel G φ' o.H w' ∧ Later φ H w φ' o.H w' ∧ AFRel φ' o.F b a'
theorem getLoop_some {H : AHeap} {l : Nat} {r : ALoop} (h : Eng.getLoop H l = some r) : H.get l = some r.obj := by
  simp only [Eng.getLoop, Option.bind_eq_some_iff] at h
  obtain ⟨o, ho, hr⟩ := h
  cases o <;> simp [loopOf] at hr
  subst hr
  exact ho
theorem HRel.loopAt {G : Nat} {φ : Emb} {H : AHeap} {w : World} (h : HRel G φ H w) {l : Nat} {r : ALoop} (hl : Eng.getLoop H l = some r) :
    φ.dom l ∧ ∃ rc : Loop, w.heap[(φ l).block]? = some (.loop rc) ∧ rc.state = r.state ∧ rc.pending = r.pending ∧ rc.fn = r.fn ∧ FrRel φ r.tmps rc.tmps ∧ rc.params.toList = r.params ∧ rc.assign = r.assign ∧ rc.body = r.body ∧
      rc.defers = (φ r.defers).block ∧ φ.dom r.defers := by
  obtain ⟨hd, ob, hob, ho⟩ := h.obj l _ (getLoop_some hl)
  cases ho with
  | aloop h1 h2 h3 h4 h5 h6 h7 h8 h9 => exact ⟨hd, _, hob, h1, h2, h3, h4, h5, h6, h7, h8, h9⟩
theorem run_getLoop {P : Program} {w : World} {l : Nat} {rc : Loop} (h : w.heap[l]? = some (.loop rc)) : (Instr.getLoop l).run P w = .ok rc w := by
  simp [Instr.getLoop, getObj, Sem.run, h]
theorem run_setObj_loop {P : Program} {w : World} {l : Nat} {rc : Loop} (h : w.heap[l]? = some (.loop rc)) (o : Obj) : (setObj l o).run P w = .ok () (World.put w l o) := by
  simp [setObj, Sem.run, h, World.put]
theorem HRel.setLoop {G : Nat} {φ : Emb} {H : AHeap} {w : World} (h : HRel G φ H w) {l : Nat} {r : ALoop} (hl : Eng.getLoop H l = some r) {rc : Loop} (hob : w.heap[(φ l).block]? = some (.loop rc)) (st : LoopState) (pd : Option Code) :
    HRel G φ (H.set l ({ r with state := st, pending := pd } : ALoop).obj) (World.put w (φ l).block (.loop { rc with state := st, pending := pd })) ∧
      Later φ H w φ (H.set l ({ r with state := st, pending := pd } : ALoop).obj) (World.put w (φ l).block (.loop { rc with state := st, pending := pd })) := by
  obtain ⟨hd, ob, hob', ho⟩ := h.obj l _ (getLoop_some hl)
  rw [hob] at hob'
  cases hob'
  cases ho with
  | aloop h1 h2 h3 h4 h5 h6 h7 h8 h9 => exact h.upd (getLoop_some hl) rfl _ _ (.aloop rfl rfl h3 h4 h5 h6 h7 h8 h9) (.inr trivial)
section
variable {E : Env} {G : Nat} {call yi : Caller} {again : Rec}
theorem rangeCode_sound (g : Good E G call yi) (f : Operand) (ps : Array Tmp) (asg bd : Code) {F : AF} {H : AHeap} {o : Out} (e : rangeCode E call f ps.toList asg bd F H = some o) {φ : Emb} {w : World} {b : Frame} {a : Act}
    (hF : AFRel φ F b a) (h : HRel G φ H w) (k : List Item) (cs : List Frame) :
    ∃ a' w' φ', Ends E.P (lone (b.atR a (.code (.rangeFunc f ps asg bd) :: k)) cs w) b k cs a' w' o.e ∧ HRel G φ' o.H w' ∧ Later φ H w φ' o.H w' ∧ AFRel φ' o.F b a' := by
  simp only [rangeCode, Option.bind_eq_some_iff] at e
  obtain ⟨fv, hfv, v, hv, bk, hbk, e⟩ := e
  have hfr := aval_sound h hF.tmps (by rw [← g.hG]; exact hfv)
  rw [vFunc_some hv] at hfr
  obtain ⟨fn', a1, b1, hfe, hfn, hla, hlb⟩ := hfr.func_inv
  simp only [rangeGo, Option.bind_eq_some_iff, bif_some] at e
  obtain ⟨gf, hgf, hext, p, hp, e⟩ := e
  have hvf : v.fn = .func gf := by
    revert hgf; cases v.fn <;> simp [fnFunc]
  rw [hvf] at hfn
  cases hfn
  obtain ⟨w1, φ1, dblk, mark, hB, hB1, hB2, hB3, hB4, hB5⟩ : ∃ w1 φ1 dblk mark, (Instr.enterLoop b.fn a.tmps ps asg bd b.roundOf).run E.P w = .ok (w1.heap.size, mark) { w1 with heap := w1.heap.push (.loop { state := .ready, pending := none, fn := b.fn, tmps := a.tmps, params := ps, assign := asg, body := bd, defers := dblk }) } ∧ HRel G φ1 bk.H w1 ∧ Later φ H w φ1 bk.H w1 ∧ φ1.dom bk.d ∧ dblk = (φ1 bk.d).block ∧
        AFRel φ1 ⟨F.fn, F.tmps, bk.defs, F.round⟩ b { a with defers := mark ++ a.defers } := by
    rcases hF.round with ⟨h1, h2⟩ | ⟨l, h1, h2, h3⟩
    · simp only [bookFor, h1, Option.some.injEq] at hbk
      subst hbk
      obtain ⟨k1, k2⟩ := h.new (.adefs true) (.deferred (some [])) ⟨w.heap.size, 0, 0⟩ rfl .adefs
      refine ⟨_, _, w.heap.size, [{ target := .collected w.heap.size, args := #[] }], by rw [h2]; simp [Instr.enterLoop]; rfl, k1, k2, extEmb_dom, by rw [extEmb_self], ?_⟩
      have hm := hF.mono k2.ids
      refine ⟨hm.tmps, hm.fn, hm.kind, .inl ⟨h1, h2⟩, ?_, ?_⟩
      · simp only [List.map_cons, extEmb_self, List.singleton_append]
        rw [hm.defs]
      · intro d hd
        rcases List.mem_cons.1 hd with rfl | hd
        · exact extEmb_dom
        · exact hm.defdom d hd
    · simp only [bookFor, h1, Option.map_eq_some_iff] at hbk
      obtain ⟨rl, hrl, rfl⟩ := hbk
      obtain ⟨_, rc, hrc, _, _, _, _, _, _, _, h8, h9⟩ := h.loopAt hrl
      refine ⟨w, φ, (φ rl.defers).block, [], by rw [h3]; simp [Instr.enterLoop, run_getLoop hrc, h8], h, Later.refl _ _ _, h9, rfl, ?_⟩
      exact ⟨hF.tmps, hF.fn, hF.kind, .inr ⟨l, h1, h2, h3⟩, hF.defs, hF.defdom⟩
  obtain ⟨k1, k2⟩ := hB1.new (ALoop.obj ⟨.ready, none, F.fn, F.tmps, ps.toList, asg, bd, bk.d⟩) (.loop { state := .ready, pending := none, fn := b.fn, tmps := a.tmps, params := ps, assign := asg, body := bd, defers := dblk }) ⟨w1.heap.size, 0, 0⟩ rfl
    (.aloop rfl rfl hF.fn (hB2.f hF.tmps) rfl rfl rfl hB4 hB3)
  generalize hφ2 : extEmb φ1 bk.H.next ⟨w1.heap.size, 0, 0⟩ = φ2 at k1 k2
  have hφl : (φ2 bk.H.next).block = w1.heap.size := by rw [← hφ2, extEmb_self]
  have hφd : φ2.dom bk.H.next := by rw [← hφ2]; exact extEmb_dom
  have hle2 : φ.le φ2 := hB2.ids.trans k2.ids
  have hargs : LRel φ2 (v.first ++ (Value.func (.yield bk.H.next) #[] #[] :: v.cap)) (a1 ++ #[Value.func (.yield w1.heap.size) #[] #[]] ++ b1).toList := by
    simp only [Array.toList_append, List.append_assoc, List.singleton_append]
    refine (LRel.mono hle2 hla).append (.cons ?_ (LRel.mono hle2 hlb))
    have := FnRel.yield (φ := φ2) bk.H.next hφd
    rw [hφl] at this
    exact VRel.fn this rfl rfl (by simp) (by simp)
  obtain ⟨⟨fn, hfnn, hbody⟩, hcall⟩ := g.call gf _ _ p hp
  obtain ⟨fr, v', w3, φ3, s1, hfn3, hleave, q1, q2, q3⟩ := hcall φ2 _ _ hargs k1 (b.atR { a with defers := mark ++ a.defers } (.inRangeFunc w1.heap.size :: k) :: cs)
  simp only [rangeEnd, Option.bind_eq_some_iff, bif_none_some, Option.map_eq_some_iff] at e
  obtain ⟨rl, hrl, hbusy, ex, hex, rfl⟩ := e
  obtain ⟨hdl, rc, hrc, hst, hpd, _⟩ := q1.loopAt hrl
  have hloc3 : (φ3 bk.H.next).block = w1.heap.size := by rw [q2.ids.loc _ hφd, hφl]
  obtain ⟨t1, t2⟩ := q1.setLoop hrl hrc .exhausted rl.pending
  have hAF := ((hB5.mono k2.ids).mono q2.ids).mono t2.ids
  refine ⟨{ a with defers := mark ++ a.defers }, _, φ3, ?_, t1, hB2.trans (k2.trans (q2.trans t2)), hAF⟩
  have hres : ∀ W : World, (resolve a.eval (rangeCall f w1.heap.size) 0).run E.P W = .ok { target := .fn (.func gf) b1, args := a1 ++ #[.func (.yield w1.heap.size) #[] #[]] } W := by
    intro W
    have em : Array.map a.eval #[Operand.const (Value.func (.yield w1.heap.size) #[] #[])] = #[Value.func (.yield w1.heap.size) #[] #[]] := by simp [Act.eval]
    simp only [resolve, hfe, Deferred.ofValue, em]
    rfl
  have hinv : ∀ W : World, (invoke (.fn (.func gf) b1) (a1 ++ #[Value.func (.yield w1.heap.size) #[] #[]])).run E.P W = .ok (.enter gf (a1 ++ #[Value.func (.yield w1.heap.size) #[] #[]] ++ b1)) W := by
    intro W
    simp only [invoke]
    exact run_callFunc g.names hfnn hbody
  have st1 := stepR_rangeFunc (P := E.P) (b := b) (a := a) (k := k) (cs := cs) (w := w) hB (hres _) (hinv _)
  have st2 : Steps E.P (lone fr (b.atR { a with defers := mark ++ a.defers } (.inRangeFunc w1.heap.size :: k) :: cs) w3) (lone (b.atR { a with defers := mark ++ a.defers } (.endRangeFunc w1.heap.size :: k)) cs w3) := by
    rw [← finish_atR_inRangeFunc w1.heap.size v']
    exact .one (step_leave_returned hleave)
  have hend : (Instr.endLoop w1.heap.size).run E.P w3 = .ok rl.pending (World.put w3 (φ3 bk.H.next).block (.loop { rc with state := .exhausted, pending := rl.pending })) := by
    rw [hloc3] at hrc ⊢
    have hb : (rc.state == LoopState.busy) = false := by
      rw [hst]; revert hbusy; cases rl.state <;> simp [isBusy]
    simp only [Instr.endLoop, Sem.run_bind, run_getLoop hrc, Result.andThen_ok, hb, Bool.false_eq_true, if_false, run_setObj_loop hrc, Sem.run_pure, ← hpd]
  have st3 := stepR_endRangeFunc (P := E.P) (b := b) (a := { a with defers := mark ++ a.defers }) (k := k) (cs := cs) hend
  have all := Steps.head st1 (s1.trans (st2.trans (.one st3)))
  cases hpend : rl.pending with
  | none =>
    rw [hpend] at hex all
    simp only [ofCode, Option.some.injEq] at hex
    subst hex
    simpa [Ends, hpend] using all
  | some c =>
    rw [hpend] at hex all
    cases c <;> simp only [ofCode, Option.some.injEq, reduceCtorEq] at hex
    · subst hex
      exact ⟨k, rfl, by simpa [hpend] using all⟩
    · subst hex
      exact ⟨k, by simpa [hpend] using all⟩
theorem codeA_sound (g : Good E G call yi) (ih : RecOK E.P G again) : RecOK E.P G fun c F H => codeA E call yi again F H c := by
  intro c F H o e φ w b a hF h k cs m hm
  have m0 : (∀ c', c ≠ .loop c') → m = lone (b.atR a (.code c :: k)) cs w := by
    intro hne
    rcases hm with rfl | ⟨c', rfl, _⟩
    · rfl
    · exact absurd rfl (hne c')
  cases c <;> simp only [codeA, Option.some.injEq, reduceCtorEq] at e
  case skip =>
    subst e
    rw [m0 (by simp)]
    exact ⟨a, w, φ, .one stepR_skip, h, Later.refl _ _ _, hF⟩
  case label l =>
    subst e
    rw [m0 (by simp)]
    exact ⟨a, w, φ, .one stepR_label, h, Later.refl _ _ _, hF⟩
  case ret =>
    subst e
    rw [m0 (by simp)]
    exact ⟨a, w, φ, ⟨k, .refl _ _⟩, h, Later.refl _ _ _, hF⟩
  case exit id =>
    subst e
    rw [m0 (by simp)]
    exact ⟨a, w, φ, ⟨k, rfl, .refl _ _⟩, h, Later.refl _ _ _, hF⟩
  case region id ops d =>
    rw [m0 (by simp)]
    simp only [regCode, Option.map_eq_some_iff] at e
    obtain ⟨p, hp, rfl⟩ := e
    obtain ⟨a', w', φ', s1, h1, h2, h3, h4⟩ := region_ok g id ops d b k cs h hF.tmps hp
    exact ⟨a', w', φ', s1, h1, h2, (hF.mono h2.ids).setTmps h3 h4⟩
  case seq c1 c2 =>
    rw [m0 (by simp)]
    simp only [Option.bind_eq_some_iff] at e
    obtain ⟨o1, he, e⟩ := e
    obtain ⟨a1, w1, φ1, s1, h1, h2, h3⟩ := ih c1 F H o1 he φ w b a hF h (.code c2 :: k) cs _ (.inl rfl)
    have s1 := s1.of_steps (.one stepR_seq)
    cases hx : o1.e with
    | normal =>
      simp only [thenA, hx] at e
      rw [hx] at s1
      obtain ⟨a2, w2, φ2, s2, k1, k2, k3⟩ := ih c2 o1.F o1.H o e φ1 w1 b a1 h3 h1 k cs _ (.inl rfl)
      exact ⟨a2, w2, φ2, s2.of_steps s1, k1, h2.trans k2, k3⟩
    | exit id =>
      simp only [thenA, hx, Option.some.injEq] at e
      subst e
      exact ⟨a1, w1, φ1, s1.pass (fun _ => rfl) (by rw [hx]; simp), h1, h2, h3⟩
    | ret =>
      simp only [thenA, hx, Option.some.injEq] at e
      subst e
      exact ⟨a1, w1, φ1, s1.pass (fun _ => rfl) (by rw [hx]; simp), h1, h2, h3⟩
  case cond x c1 c2 =>
    rw [m0 (by simp)]
    simp only [condA, Option.bind_eq_some_iff] at e
    obtain ⟨v, hv, t, ht, e⟩ := e
    obtain rfl := vBool_some ht
    have hev := (aval_sound h hF.tmps (by rw [← g.hG]; exact hv)).bool_inv
    have st := stepR_cond (P := E.P) (b := b) (k := k) (cs := cs) (w := w) (x := c1) (y := c2) hev
    cases t with
    | true =>
      obtain ⟨a1, w1, φ1, s1, h1⟩ := ih c1 F H o e φ w b a hF h k cs _ (.inl rfl)
      exact ⟨a1, w1, φ1, s1.of_steps (.one st), h1⟩
    | false =>
      obtain ⟨a1, w1, φ1, s1, h1⟩ := ih c2 F H o e φ w b a hF h k cs _ (.inl rfl)
      exact ⟨a1, w1, φ1, s1.of_steps (.one st), h1⟩
  case block id c1 =>
    rw [m0 (by simp)]
    simp only [Option.map_eq_some_iff] at e
    obtain ⟨o1, he, rfl⟩ := e
    obtain ⟨a1, w1, φ1, s1, h1, h2, h3⟩ := ih c1 F H o1 he φ w b a hF h (.inBlock id :: k) cs _ (.inl rfl)
    have s1 := s1.of_steps (.one stepR_block)
    cases hx : o1.e with
    | normal =>
      rw [hx] at s1
      have : leaveA id o1 = o1 := by simp [leaveA, hx]
      rw [this]
      exact ⟨a1, w1, φ1, by rw [hx]; exact Steps.trans s1 (.one stepR_inBlock), h1, h2, h3⟩
    | ret =>
      rw [hx] at s1
      have : leaveA id o1 = o1 := by simp [leaveA, hx]
      rw [this]
      exact ⟨a1, w1, φ1, by rw [hx]; exact s1, h1, h2, h3⟩
    | exit id' =>
      rw [hx] at s1
      obtain ⟨k1, hk1, s1⟩ := s1
      by_cases hid : id' = id
      · subst hid
        have : leaveA id' o1 = ⟨.normal, o1.F, o1.H⟩ := by simp [leaveA, hx]
        rw [this]
        refine ⟨a1, w1, φ1, ?_, h1, h2, h3⟩
        refine Steps.trans s1 (.one (stepR_exit ?_))
        rw [hk1]
        simp [exitTo]
      · have : leaveA id o1 = o1 := by simp [leaveA, hx, beq_nat_false.2 hid]
        rw [this]
        refine ⟨a1, w1, φ1, ?_, h1, h2, h3⟩
        rw [hx]
        refine ⟨k1, ?_, s1⟩
        rw [hk1]
        have : ¬ id = id' := fun e => hid e.symm
        simp [exitTo, this]
  case loop c1 =>
    simp only [Option.bind_eq_some_iff] at e
    obtain ⟨o1, he, e⟩ := e
    have st : step E.P m = .next (lone (b.atR a (.code c1 :: .inLoop c1 :: k)) cs w) := by
      rcases hm with rfl | ⟨c', hc, rfl⟩
      · exact stepR_loop
      · cases hc; exact stepR_inLoop
    obtain ⟨a1, w1, φ1, s1, h1, h2, h3⟩ := ih c1 F H o1 he φ w b a hF h (.inLoop c1 :: k) cs _ (.inl rfl)
    have s1 := s1.of_steps (.one st)
    cases hx : o1.e with
    | normal =>
      simp only [thenA, hx] at e
      rw [hx] at s1
      obtain ⟨a2, w2, φ2, s2, k1, k2, k3⟩ := ih (.loop c1) o1.F o1.H o e φ1 w1 b a1 h3 h1 k cs _ (.inr ⟨c1, rfl, rfl⟩)
      exact ⟨a2, w2, φ2, s2.of_steps s1, k1, h2.trans k2, k3⟩
    | exit id =>
      simp only [thenA, hx, Option.some.injEq] at e
      subst e
      exact ⟨a1, w1, φ1, s1.pass (fun _ => rfl) (by rw [hx]; simp), h1, h2, h3⟩
    | ret =>
      simp only [thenA, hx, Option.some.injEq] at e
      subst e
      exact ⟨a1, w1, φ1, s1.pass (fun _ => rfl) (by rw [hx]; simp), h1, h2, h3⟩
  case scope c1 =>
    rw [m0 (by simp)]
    obtain ⟨a1, w1, φ1, s1, h1, h2, h3⟩ := ih c1 F H o e φ w b a hF h (.inScope c1 :: k) cs _ (.inl rfl)
    have s1 := s1.of_steps (.one stepR_scope)
    cases hx : o.e with
    | normal =>
      rw [hx] at s1
      exact ⟨a1, w1, φ1, Steps.trans s1 (.one stepR_inScope), h1, h2, h3⟩
    | exit id => exact ⟨a1, w1, φ1, by have := s1.pass (fun _ => rfl) (by rw [hx]; simp); rwa [hx] at this, h1, h2, h3⟩
    | ret => exact ⟨a1, w1, φ1, by have := s1.pass (fun _ => rfl) (by rw [hx]; simp); rwa [hx] at this, h1, h2, h3⟩
  case rangeFunc f ps asg bd =>
    rw [m0 (by simp)]
    exact rangeCode_sound g f ps asg bd e hF h k cs
end
end Go.Eng

namespace Go.Eng
open Go
theorem putArgs_get : ∀ (args : List Value) (i : Nat) (t : Tr Value) (j : Nat), (putArgs args i t).get j = if i ≤ j ∧ j < i + args.length then args[j - i]? else t.get j
  | [], i, t, j => by
    simp only [putArgs, List.length_nil, Nat.add_zero]
    rw [if_neg (by omega)]
  | v :: r, i, t, j => by
    simp only [putArgs, List.length_cons]
    rw [putArgs_get r (Nat.succ i) _ j, Tr.get_put _ _ _ _ _ (Nat.lt_succ_self i)]
    by_cases h1 : j = i
    · subst h1
      rw [if_neg (by omega), if_pos rfl, if_pos (by omega)]
      simp
    · by_cases h2 : i ≤ j ∧ j < i + (r.length + 1)
      · rw [if_pos (by omega), if_pos h2]
        have : j - i = (j - Nat.succ i) + 1 := by omega
        rw [this]; simp
      · rw [if_neg (by omega), if_neg h1, if_neg h2]
theorem frame0_rel {φ : Emb} {args : List Value} {args' : Array Value} (h : LRel φ args args'.toList) (n : Nat) : FrRel φ (frame0 args n) (args' ++ Array.replicate (n - args'.size) undef) := by
  have hl := h.length
  simp only [Array.length_toList] at hl
  refine ⟨?_, fun i => ?_⟩
  · simp only [frame0, maxN, Array.size_append, Array.size_replicate]
    by_cases hn : args.length ≤ n
    · rw [ble_nat.2 hn]; simp; omega
    · rw [ble_nat_false.2 (by omega)]; simp; omega
  · simp only [frame0, Fr.at, putArgs_get, Nat.zero_le, Nat.zero_add, true_and, Nat.sub_zero]
    by_cases hi : i < args.length
    · rw [if_pos hi]
      obtain ⟨v', h1, h2⟩ := h.get (List.getElem?_eq_getElem hi)
      rw [List.getElem?_eq_getElem hi]
      have : (args' ++ Array.replicate (n - args'.size) undef).getD i undef = v' := by
        have hi' : i < args'.size := by omega
        simp only [Array.getElem?_toList] at h1
        rw [Array.getD_eq_getD_getElem?, Array.getElem?_append, if_pos hi', h1]
        rfl
      rw [this]; exact h2
    · rw [if_neg hi]
      have : (args' ++ Array.replicate (n - args'.size) undef).getD i undef = undef := by
        simp only [Array.getD_eq_getD_getElem?, Array.getElem?_append]
        rw [if_neg (by omega)]
        cases hq : (Array.replicate (n - args'.size) undef)[i - args'.size]? with
        | none => rfl
        | some x =>
          rw [Array.getElem?_replicate] at hq
          split at hq
          · simp at hq; simp [hq]
          · cases hq
      rw [this]
      exact undef_rel
theorem setParams_rel {φ : Emb} : ∀ {ps : List Tmp} {args args' : List Value}, LRel φ args args' → ∀ {F : Fr} {t : Array Value}, FrRel φ F t →
    FrRel φ (setParams (ps.zip args) F) ((ps.zip args').foldl (fun tmps (p : Tmp × Value) => tmps.setIfInBounds p.1 p.2) t)
  | [], _, _, _, F, t, h => by simpa [setParams] using h
  | p :: ps, _, _, .nil, F, t, h => by simpa [setParams] using h
  | p :: ps, _, _, .cons hv hl, F, t, h => by
    simp only [List.zip_cons_cons, setParams, List.foldl_cons]
    exact setParams_rel hl (h.set hv p)
theorem step_takeDeferred {P : Program} {fr : Frame} {cs : List Frame} {w : World} {blk : Nat} {ds : List Deferred} (hm : fr.mode = .returning) (hd : fr.defers = { target := .collected blk, args := #[] } :: ds)
    (hb : w.heap[blk]? = some (.deferred (some []))) : step P (lone fr cs w) = .next (lone { fr with defers := ds } cs (World.put w blk (.deferred none))) := by
  have ht : (Instr.takeDeferred blk).run P w = .ok [] (World.put w blk (.deferred none)) := by
    simp [Instr.takeDeferred, getObj, setObj, Sem.run, hb, World.put]
  exact step_lone_go (by simp [stepG, unwind, hm, hd, Sem.runT_eq, ht])
theorem closeDefs_sound {P : Program} {G : Nat} : ∀ {ds : List Nat} {H H' : AHeap}, closeDefs ds H = some H' → ∀ {φ : Emb} {w : World} (fr : Frame) (cs : List Frame), HRel G φ H w → fr.mode = .returning →
    fr.defers = ds.map (fun d => ({ target := .collected (φ d).block, args := #[] } : Deferred)) →
    ∃ w', Steps P (lone fr cs w) (lone { fr with defers := [] } cs w') ∧ HRel G φ H' w' ∧ Later φ H w φ H' w'
  | [], H, H', e, φ, w, fr, cs, h, hm, hd => by
    simp only [closeDefs, Option.some.injEq] at e
    subst e
    simp only [List.map_nil] at hd
    have : { fr with defers := [] } = fr := by cases fr; simp_all
    exact ⟨w, by rw [this]; exact .refl _ _, h, Later.refl _ _ _⟩
  | d :: ds, H, H', e, φ, w, fr, cs, h, hm, hd => by
    simp only [closeDefs, Option.bind_eq_some_iff, bif_some] at e
    obtain ⟨o, ho, hopen, e⟩ := e
    have ho' : o = .adefs true := by cases o <;> simp_all [dOpen]
    subst ho'
    obtain ⟨hdd, ob, hob, hr⟩ := h.obj d _ ho
    cases hr with
    | adefs =>
    have hob : w.heap[(φ d).block]? = some (.deferred (some [])) := by simpa using hob
    obtain ⟨h1, h2⟩ := h.upd ho rfl (.adefs false) (.deferred none) .adefs (.inr trivial)
    have s1 := step_takeDeferred (P := P) (cs := cs) hm (by simpa using hd) hob
    obtain ⟨w', s2, k1, k2⟩ := closeDefs_sound (P := P) e { fr with defers := ds.map (fun d => ({ target := .collected (φ d).block, args := #[] } : Deferred)) } cs h1 hm rfl
    exact ⟨w', .head s1 s2, k1, h2.trans k2⟩
def readRes (tmps : Array Value) : ResultVar → Sem Value
  | .tmp t => pure (tmps.getD t undef)
  | .cell a t => do loadVar t (← asAddr (tmps.getD a undef))
theorem results_eq (fn : Func) (tmps : Array Value) : results fn tmps = (do
    let vs ← fn.results.mapM (readRes tmps)
    pure (if h : vs.size = 1 then vs[0] else .tuple vs)) := by
  have : (fun (x : ResultVar) => match x with
    | .tmp t => (pure (tmps.getD t undef) : Sem Value)
    | .cell a t => do loadVar t (← asAddr (tmps.getD a undef))) = readRes tmps := by
    funext x; cases x <;> rfl
  unfold results
  rw [← this]
  rfl
theorem resultA_sound {P : Program} {G : Nat} {φ : Emb} {H : AHeap} {w : World} (h : HRel G φ H w) {F : Fr} {tmps : Array Value} (hF : FrRel φ F tmps) {x : ResultVar} {v : Value} (e : resultA P F H x = some v) :
    ∃ v', (readRes tmps x).run P w = .ok v' w ∧ VRel φ v v' := by
  cases x with
  | tmp t =>
    simp only [resultA, Option.some.injEq] at e
    subst e
    exact ⟨_, rfl, hF.2 t⟩
  | cell a t =>
    simp only [resultA] at e
    have ha := hF.2 a
    obtain ⟨v', h1, h2⟩ := loadA_sound (P := P) h ha e
    refine ⟨v', ?_, h2⟩
    simp only [loadA, Option.bind_eq_some_iff] at e
    obtain ⟨p, hp, _⟩ := e
    obtain ⟨_, _, h4⟩ := ha.addr hp
    rw [h4] at h1
    simp only [readRes, h4]
    simpa [Instr.loadAt, Instr.sureAddr, asAddr] using h1
theorem resultsA_sound {P : Program} {G : Nat} {φ : Emb} {H : AHeap} {w : World} (h : HRel G φ H w) {F : Fr} {tmps : Array Value} (hF : FrRel φ F tmps) : ∀ {xs : List ResultVar} {vs : List Value}, resultsA P F H xs = some vs →
    ∃ vs', (xs.mapM (readRes tmps)).run P w = .ok vs' w ∧ LRel φ vs vs'
  | [], vs, e => by simp only [resultsA, Option.some.injEq] at e; subst e; exact ⟨[], by simp, .nil⟩
  | x :: xs, vs, e => by
    simp only [resultsA, Option.bind_eq_some_iff, Option.map_eq_some_iff] at e
    obtain ⟨v, hv, r, hr, rfl⟩ := e
    obtain ⟨v', h1, h2⟩ := resultA_sound (P := P) h hF hv
    obtain ⟨r', h3, h4⟩ := resultsA_sound h hF hr
    refine ⟨v' :: r', ?_, .cons h2 h4⟩
    rw [List.mapM_cons]
    simp only [Sem.run_bind, h1, Result.andThen_ok, h3, Sem.run_pure]
theorem results_sound {P : Program} {G : Nat} {φ : Emb} {H : AHeap} {w : World} (h : HRel G φ H w) {F : Fr} {tmps : Array Value} (hF : FrRel φ F tmps) (fn : Func) {vs : List Value} (e : resultsA P F H fn.results.toList = some vs) :
    ∃ v', (results fn tmps).run P w = .ok v' w ∧ VRel φ (pack vs) v' := by
  obtain ⟨vs', h1, h2⟩ := resultsA_sound h hF e
  have hl := h2.length
  refine ⟨if h : vs'.toArray.size = 1 then vs'.toArray[0] else .tuple vs'.toArray, ?_, ?_⟩
  · rw [results_eq, Array.mapM_eq_mapM_toList]
    simp only [Sem.run_bind, Sem.run_map, h1, Result.andThen_ok]
    rfl
  · match vs, vs', h2 with
    | [], [], _ => exact .tupleL .nil
    | [v], [v'], .cons hv .nil => exact hv
    | v1 :: v2 :: r, v1' :: v2' :: r', hr =>
      have : ¬ ((v1' :: v2' :: r').toArray.size = 1) := by simp
      rw [dif_neg this]
      exact .tupleL (by simpa using hr)
section
variable {E : Env} {G : Nat} {again : Rec}
theorem funcA0_sound (ih : RecOK E.P G again) : CallOK E.P G (funcA0 E again) := by
  intro f args H r e
  simp only [funcA0, Option.bind_eq_some_iff] at e
  obtain ⟨fn, hfn, c, hc, e⟩ := e
  refine ⟨⟨fn, hfn, by rw [hc]; rfl⟩, ?_⟩
  intro φ w args' hargs h cs
  simp only [funcBody, Option.bind_eq_some_iff] at e
  obtain ⟨o, ho, e⟩ := e
  simp only [funcEnd, bif_none_some, Option.bind_eq_some_iff, Option.map_eq_some_iff] at e
  obtain ⟨hex, H2, hcl, vs, hvs, rfl⟩ := e
  let b : Frame := { (default : Frame) with fn := f, kind := .normal, roundOf := none }
  have henter : Frame.enter E.P f args' .normal = b.atR ⟨args' ++ Array.replicate (fn.ntmps - args'.size) undef, []⟩ [.code c] := by
    simp [Frame.enter, hfn, hc, Frame.atR, b]
  have hF : AFRel φ ⟨f, frame0 args fn.ntmps, [], none⟩ b ⟨args' ++ Array.replicate (fn.ntmps - args'.size) undef, []⟩ :=
    ⟨frame0_rel hargs _, rfl, rfl, .inl ⟨rfl, rfl⟩, rfl, fun d hd => by simp at hd⟩
  obtain ⟨a1, w1, φ1, s1, h1, h2, h3⟩ := ih c _ H o ho φ w b _ hF h [] cs _ (.inl rfl)
  rw [← henter] at s1
  have hb : b.roundOf = none := rfl
  obtain ⟨k1, s2⟩ : ∃ k1, Steps E.P (lone (Frame.enter E.P f args' .normal) cs w) (lone { b.atR a1 k1 with mode := .returning } cs w1) := by
    cases hx : o.e with
    | normal => rw [hx] at s1; exact ⟨[], Steps.trans s1 (.one (stepR_end hb))⟩
    | ret => rw [hx] at s1; obtain ⟨k1, s1⟩ := s1; exact ⟨_, Steps.trans s1 (.one (stepR_ret hb))⟩
    | exit id => rw [hx] at hex; simp [isExit] at hex
  obtain ⟨w2, s3, k1', k2⟩ := closeDefs_sound (P := E.P) hcl { b.atR a1 k1 with mode := .returning } cs h1 rfl h3.defs
  obtain ⟨v', hv, hvr⟩ := results_sound (P := E.P) k1' (k2.f h3.tmps) fn hvs
  refine ⟨_, v', w2, φ1, s2.trans s3, rfl, ⟨rfl, rfl, rfl, fn, hfn, ?_⟩, k1', h2.trans k2, hvr⟩
  exact hv
theorem yieldA_sound (ih : RecOK E.P G again) : YiOK E.P G (yieldA again) := by
  intro l args H r e φ w args' hargs h hdl
  simp only [yieldA, Option.bind_eq_some_iff, bif_some, beq_nat] at e
  obtain ⟨rl, hrl, hlen, o, ho, e⟩ := e
  obtain ⟨_, rc, hrc, hst, hpd, hfn, htm, hps, has, hbd, hdf, hdd⟩ := h.loopAt hrl
  refine ⟨rc.fn, (rc.params.zip args').foldl (fun tmps (t, a) => tmps.setIfInBounds t a) rc.tmps, rc.assign, rc.body, ?_, ?_⟩
  · have hsz : ¬ (args'.size ≠ rc.params.size) := by
      have h1 := hargs.length
      have h2 := congrArg List.length hps
      simp only [Array.length_toList] at h1 h2
      omega
    simp only [Instr.yield, Sem.run_bind, run_getLoop hrc, Result.andThen_ok, if_neg hsz]
    rfl
  · intro c cs
    simp only [roundBody, roundBody.thenOnly] at e
    let b : Frame := { (default : Frame) with fn := rc.fn, kind := .normal, roundOf := some (φ l).block }
    let a0 : Act := ⟨(rc.params.zip args').foldl (fun tmps (t, a) => tmps.setIfInBounds t a) rc.tmps, []⟩
    have hb0 : Frame.round (φ l).block rc.fn ((rc.params.zip args').foldl (fun tmps (t, a) => tmps.setIfInBounds t a) rc.tmps) rc.assign rc.body .normal = b.atR a0 [.code rc.assign, .beginRound, .code rc.body] := by
      simp [Frame.round, Frame.atR, b, a0]
    have htmps : FrRel φ (setParams (rl.params.zip args) rl.tmps) a0.tmps := by
      have := setParams_rel (ps := rl.params) hargs htm
      rw [← hps] at this
      have e1 : a0.tmps = (rc.params.toList.zip args'.toList).foldl (fun tmps (p : Tmp × Value) => tmps.setIfInBounds p.1 p.2) rc.tmps := by
        simp only [a0]
        rw [← Array.foldl_toList, Array.toList_zip]
      rw [e1]; rw [← hps]; exact this
    have hF : AFRel φ ⟨rl.fn, setParams (rl.params.zip args) rl.tmps, [], some l⟩ b a0 :=
      ⟨htmps, hfn, rfl, .inr ⟨l, rfl, hdl, rfl⟩, rfl, fun d hd => by simp at hd⟩
    rw [← has] at ho
    obtain ⟨a1, w1, φ1, s1, h1, h2, h3⟩ := ih rc.assign _ H o ho φ w b a0 hF h [.beginRound, .code rc.body] (c :: cs) _ (.inl rfl)
    have hnorm : o.e = .normal := by
      cases hx : o.e <;> rw [hx] at e <;> simp at e ⊢
    rw [hnorm] at s1 e
    simp only [Option.bind_eq_some_iff, bif_some] at e
    obtain ⟨rl1, hrl1, hready, o2, ho2, e⟩ := e
    obtain ⟨_, rc1, hrc1, hst1, _⟩ := h1.loopAt hrl1
    obtain ⟨t1, t2⟩ := h1.setLoop hrl1 hrc1 .busy rl1.pending
    have hl1 : (φ1 l).block = (φ l).block := by rw [h2.ids.loc l hdl]
    have hpd1 : rc1.pending = rl1.pending := by
      obtain ⟨_, rc1', hrc1', _, hp, _⟩ := h1.loopAt hrl1
      rw [hrc1] at hrc1'; cases hrc1'; exact hp
    have hbegin : (Instr.beginRound (φ l).block).run E.P w1 = .ok () (World.put w1 (φ1 l).block (.loop { rc1 with state := .busy, pending := rl1.pending })) := by
      rw [hl1] at hrc1 ⊢
      have hrd : rc1.state = .ready := by
        rw [hst1]; revert hready; cases rl1.state <;> simp [isReady]
      simp only [Instr.beginRound, Sem.run_bind, run_getLoop hrc1, Result.andThen_ok, run_setObj_loop hrc1, hrd, ← hpd1]
      rfl
    have s2 := stepR_beginRound (P := E.P) (b := b) (a := a1) (k := [.code rc.body]) (cs := c :: cs) (l := (φ l).block) rfl hbegin
    rw [← hbd] at ho2
    obtain ⟨a2, w2, φ2, s3, k1, k2, k3⟩ := ih rc.body o.F _ o2 ho2 φ1 _ b a1 (h3.mono t2.ids) t1 [] (c :: cs) _ (.inl rfl)
    simp only [roundEnd, bif_some, Option.map_eq_some_iff] at e
    obtain ⟨_, rl2, hrl2, rfl⟩ := e
    obtain ⟨_, rc2, hrc2, _⟩ := k1.loopAt hrl2
    obtain ⟨u1, u2⟩ := k1.setLoop hrl2 hrc2 (bif isNone (asCode o2.e) then .ready else .done) (asCode o2.e)
    have hl2 : (φ2 l).block = (φ l).block := by rw [k2.ids.loc l (h2.ids.dom l hdl), hl1]
    have hendR : ∀ jump : Option Code, jump = asCode o2.e → (Instr.endRound (φ l).block jump).run E.P w2 = .ok (.bool (isNone (asCode o2.e))) (World.put w2 (φ2 l).block (.loop { rc2 with state := bif isNone (asCode o2.e) then .ready else .done, pending := asCode o2.e })) := by
      rintro jump rfl
      rw [hl2] at hrc2 ⊢
      have hn : (asCode o2.e).isNone = isNone (asCode o2.e) := by cases asCode o2.e <;> rfl
      simp only [Instr.endRound, Sem.run_bind, run_getLoop hrc2, Result.andThen_ok, run_setObj_loop hrc2, Sem.run_pure, hn, cond_eq_ite]
    have s1' : Steps E.P _ _ := s1
    rw [← hb0] at s1'
    have pre := s1'.trans (.one s2)
    refine ⟨.bool (isNone (asCode o2.e)), _, φ2, ?_, u1, h2.trans (t2.trans (k2.trans u2)), .base rfl⟩
    refine pre.trans ?_
    cases hx : o2.e with
    | normal =>
      rw [hx] at s3
      have := hendR none (by rw [hx]; rfl)
      rw [hx] at this
      exact Steps.trans s3 (.one (stepR_round_end (b := b) rfl rfl this))
    | ret =>
      rw [hx] at s3
      obtain ⟨k1', s3⟩ := s3
      have := hendR (some .ret) (by rw [hx]; rfl)
      rw [hx] at this
      exact Steps.trans s3 (.one (stepR_round_ret (b := b) rfl rfl this))
    | exit id =>
      rw [hx] at s3
      obtain ⟨k1', hk, s3⟩ := s3
      have := hendR (some (.exit id)) (by rw [hx]; rfl)
      rw [hx] at this
      exact Steps.trans s3 (.one (stepR_round_exit (b := b) rfl rfl (by rw [hk]; rfl) this))
def SumOK (P : Program) (G : Nat) (s : FuncId → Option (List Value → AHeap → Option (Value × AHeap))) : Prop := ∀ f v, s f = some v → CallOK P G (fun g args H => bif Nat.beq g f then v args H else none)
def known (v : Value) (args : List Value) (H : AHeap) : Option (Value × AHeap) := bif args.isEmpty then some (v, H) else none
theorem funcA_sound (hs : SumOK E.P G E.sum) (ih : RecOK E.P G again) : CallOK E.P G (funcA E again) := by
  intro f args H r e
  unfold funcA at e
  cases hv : E.sum f with
  | none => rw [hv] at e; exact funcA0_sound ih f args H r e
  | some v =>
    rw [hv] at e
    exact hs f v hv f args H r (by simpa using e)
structure Okay (E : Env) (G : Nat) : Prop where
  ext : ExtOK E.P E.ext
  names : NoCount E.P
  mixed : E.P.follows .mixedOrders = true
  hG : E.G = G
  sum : SumOK E.P G E.sum
theorem run_ok (h : Okay E G) : ∀ n, RecOK E.P G (run E n)
  | 0 => fun c F H o e => by simp [run] at e
  | n + 1 => by
    have ih := run_ok h n
    exact codeA_sound ⟨funcA_sound h.sum ih, yieldA_sound ih, h.ext, h.names, h.mixed, h.hG⟩ ih
theorem callA_ok (h : Okay E G) (n : Nat) : CallOK E.P G (callA E n) := funcA_sound h.sum (run_ok h n)
end
end Go.Eng

namespace Go.Eng
open Go
theorem find_count {fn : Func} (h : fn.name = "internal/bytealg.CountString") : Extern.find fn = some Extern.BytealgCount.count := by
  have h1 : Extern.allGenericRows.lookup "internal/bytealg.CountString" = none := by kernel_rfl
  have h2 : Extern.allTypedRows.lookup "internal/bytealg.CountString" = none := by kernel_rfl
  have h3 : Extern.allRows.lookup "internal/bytealg.CountString" = some Extern.BytealgCount.count := by kernel_rfl
  simp only [Extern.find, h, h1, h2, h3]; rfl
theorem find_index {fn : Func} (h : fn.name = "internal/bytealg.IndexByteString") : Extern.find fn = some Extern.BytealgIndexByte.indexByte := by
  have h1 : Extern.allGenericRows.lookup "internal/bytealg.IndexByteString" = none := by kernel_rfl
  have h2 : Extern.allTypedRows.lookup "internal/bytealg.IndexByteString" = none := by kernel_rfl
  have h3 : Extern.allRows.lookup "internal/bytealg.IndexByteString" = some Extern.BytealgIndexByte.indexByte := by kernel_rfl
  simp only [Extern.find, h, h1, h2, h3]; rfl
theorem find_noesc {fn : Func} (h : fn.name = "internal/abi.NoEscape") : Extern.find fn = some Extern.AbiNoEscape.same := by
  have h1 : Extern.allGenericRows.lookup "internal/abi.NoEscape" = none := by kernel_rfl
  have h2 : Extern.allTypedRows.lookup "internal/abi.NoEscape" = none := by kernel_rfl
  have h3 : Extern.allRows.lookup "internal/abi.NoEscape" = some Extern.AbiNoEscape.same := by kernel_rfl
  simp only [Extern.find, h, h1, h2, h3]; rfl
theorem find_make {fn : Func} (h : fn.name = "internal/bytealg.MakeNoZero") : Extern.find fn = some (Extern.BytealgMakeNoZero.makeNoZero fn.params fn.resultTypes) := by
  have h1 : Extern.allGenericRows.lookup "internal/bytealg.MakeNoZero" = none := by kernel_rfl
  have h2 : Extern.allTypedRows.lookup "internal/bytealg.MakeNoZero" = some Extern.BytealgMakeNoZero.makeNoZero := by kernel_rfl
  simp only [Extern.find, h, h1, h2]; rfl
theorem next_none {fn : Func} (ho : fn.origin = "") (h : fn.name = "internal/bytealg.CountString" ∨ fn.name = "internal/bytealg.IndexByteString" ∨ fn.name = "internal/abi.NoEscape" ∨ fn.name = "internal/bytealg.MakeNoZero") : Extern.findNext fn = none := by
  have h0 : Extern.allNextRows.lookup "" = none := by kernel_rfl
  have h1 : Extern.allNextRows.lookup "internal/bytealg.CountString" = none := by kernel_rfl
  have h2 : Extern.allNextRows.lookup "internal/bytealg.IndexByteString" = none := by kernel_rfl
  have h3 : Extern.allNextRows.lookup "internal/abi.NoEscape" = none := by kernel_rfl
  have h4 : Extern.allNextRows.lookup "internal/bytealg.MakeNoZero" = none := by kernel_rfl
  rcases h with h | h | h | h <;> simp only [Extern.findNext, h, ho, h0, h1, h2, h3, h4] <;> rfl
section
variable {P : Program} {w : World} {φ : Emb} {G : Nat} {H : AHeap}
theorem run_callExt {f : FuncId} {fn : Func} {args : Array Value} {e : Array Value → Sem Value} (hf : P.funcs[f]? = some fn) (hn : fn.name ≠ "runtime.NumGoroutine") (hb : fn.body = none) (hx : Extern.findNext fn = none) (he : Extern.find fn = some e) :
    (callFunc f args).run P w = (do pure (.value (← e args)) : Sem Next).run P w := by
  simp [callFunc, hf, hn, hb, hx, he, mark, Sem.run]
theorem loop_eq {β : Type} (f : β → UInt8 → β) (s : ByteArray) : ∀ (i j : Nat) (b : β), j + i ≥ s.size → ∀ (h : s.size ≤ s.size), 
   ByteArray.foldlM.loop (m := _root_.Id) f s s.size h i j b = ((s.data.toList.drop j).foldl f b) := by
  intro i
  induction i with
  | zero =>
    intro j b hj h
    have hn : List.drop j s.data.toList = [] := List.drop_eq_nil_of_le (by show s.size ≤ j; omega)
    unfold ByteArray.foldlM.loop
    rw [hn]
    simp; rfl
  | succ i ih =>
    intro j b hj h
    unfold ByteArray.foldlM.loop
    by_cases hlt : j < s.size
    · simp only [hlt, dif_pos]
      have hd : List.drop j s.data.toList = s.data.toList[j]'hlt :: List.drop (j+1) s.data.toList := List.drop_eq_getElem_cons hlt
      rw [hd]
      simp only [List.foldl_cons]
      exact ih (j+1) _ (by omega) h
    · have hn : List.drop j s.data.toList = [] := List.drop_eq_nil_of_le (by show s.size ≤ j; omega)
      rw [hn]
      simp [hlt]; rfl
theorem ba_foldl {β : Type} (f : β → UInt8 → β) (s : ByteArray) (b : β) : s.foldl f b = s.data.toList.foldl f b := by
  unfold ByteArray.foldl ByteArray.foldlM
  simp only [Nat.le_refl, dif_pos]
  have := loop_eq f s (s.size - 0) 0 b (by omega) (Nat.le_refl _)
  rw [List.drop_zero] at this
  exact this
theorem idxByte_spec (c : UInt8) (d : List UInt8) : ∀ (l : List UInt8) (i : Nat), d.drop i = l →
    idxByte c.toNat l i = match (List.range' i l.length).find? (fun j => d.getD j 0 == c) with | some j => Int.ofNat j | none => -1
  | [], i, _ => by simp [idxByte]
  | x :: l, i, h => by
    have hx : d.getD i 0 = x := by
      have := congrArg (fun l => l.getD 0 0) h
      simpa [List.getD] using this
    have hr := idxByte_spec c d l (i + 1) (by rw [← List.drop_drop, h]; rfl)
    simp only [idxByte, List.length_cons, List.range'_succ, List.find?_cons, hx]
    by_cases hc : x = c
    · subst hc; simp
    · have h1 : (x == c) = false := by simpa using hc
      have h2 : Nat.beq x.toNat c.toNat = false := beq_nat_false.2 fun e => hc (UInt8.toNat_inj.1 e)
      rw [h1, h2]
      simpa using hr
theorem cntByte_spec (c : UInt8) : ∀ (l : List UInt8) (k : Int), l.foldl (fun n x => if x == c then n + 1 else n) k = k + cntByte c.toNat l
  | [], k => by simp [cntByte]
  | x :: l, k => by
    simp only [List.foldl_cons, cntByte]
    rw [cntByte_spec c l]
    by_cases hc : x = c
    · subst hc; simp; omega
    · have h1 : (x == c) = false := by simpa using hc
      have h2 : Nat.beq x.toNat c.toNat = false := beq_nat_false.2 fun e => hc (UInt8.toNat_inj.1 e)
      simp [h1, h2]
theorem strByte_some {args : List Value} {p : List UInt8 × Nat} (h : strByte args = some p) : ∃ (s : ByteArray) (c : UInt8), args = [.string s, .int .u8 c.toNat] ∧ p = (bytesL s, c.toNat) := by
  simp only [strByte, Option.bind_eq_some_iff, bif_some, beq_nat, Option.some.injEq] at h
  obtain ⟨x, hx, y, hy, s, hs, c, hc, hl, rfl⟩ := h
  refine ⟨s, c, ?_, rfl⟩
  match args, hl with
  | [a, b], _ =>
    simp at hx hy
    subst hx; subst hy
    rw [vStr_some hs, vByte_some hc]
theorem strByte_rel {s : ByteArray} {c : UInt8} {l : List Value} (h : LRel φ [.string s, .int .u8 c.toNat] l) : l = [.string s, .int .u8 c.toNat] := by
  cases h with
  | cons h1 h2 => cases h2 with
    | cons h3 h4 => cases h4; rw [h1.string_inv, h3.int_inv]
theorem count_sound (h : HRel G φ H w) {args : List Value} {args' : Array Value} {r : Value × AHeap} (ha : LRel φ args args'.toList) (e : extA .count args H = some r) :
    ∃ v' w' φ', (Extern.BytealgCount.count args').run P w = .ok v' w' ∧ HRel G φ' r.2 w' ∧ Later φ H w φ' r.2 w' ∧ VRel φ' r.1 v' := by
  simp only [extA, Option.map_eq_some_iff] at e
  obtain ⟨p, hp, rfl⟩ := e
  obtain ⟨s, c, rfl, rfl⟩ := strByte_some hp
  have hargs : args' = #[.string s, .int .u8 c.toNat] := by apply Array.ext'; exact strByte_rel ha
  refine ⟨goI (cntByte c.toNat (bytesL s)), w, φ, ?_, h, Later.refl _ _ _, .base rfl⟩
  have hc : ((c.toNat : Int).toNat).toUInt8 = c := by simp
  have hf : s.foldl (fun (n : Int) x => if x == c then n + 1 else n) (((0 : Nat) : Int)) = cntByte c.toNat (bytesL s) := by
    have := cntByte_spec c (bytesL s) 0
    simp only [Int.zero_add] at this
    rw [← this]
    exact ba_foldl _ s _
  subst hargs
  have hdef : ∀ b c : Value, Extern.BytealgCount.count #[b, c] = (do
      let b ← Extern.Bytes.bytesOf b
      let c ← Extern.Bytes.asByte c
      pure (goInt (b.foldl (fun n x => if x == c then n + 1 else n) (0 : Nat)))) := fun _ _ => rfl
  rw [hdef]
  simp only [Extern.Bytes.bytesOf, Extern.Bytes.asByte, Sem.run_bind, Sem.run_pure, Result.andThen_ok, hc, hf]
  rfl
theorem index_sound (h : HRel G φ H w) {args : List Value} {args' : Array Value} {r : Value × AHeap} (ha : LRel φ args args'.toList) (e : extA .indexByte args H = some r) :
    ∃ v' w' φ', (Extern.BytealgIndexByte.indexByte args').run P w = .ok v' w' ∧ HRel G φ' r.2 w' ∧ Later φ H w φ' r.2 w' ∧ VRel φ' r.1 v' := by
  simp only [extA, Option.map_eq_some_iff] at e
  obtain ⟨p, hp, rfl⟩ := e
  obtain ⟨s, c, rfl, rfl⟩ := strByte_some hp
  have hargs : args' = #[.string s, .int .u8 c.toNat] := by apply Array.ext'; exact strByte_rel ha
  refine ⟨.int .i64 (idxByte c.toNat (bytesL s) 0), w, φ, ?_, h, Later.refl _ _ _, .base rfl⟩
  have hc : ((c.toNat : Int).toNat).toUInt8 = c := by simp
  have hi := idxByte_spec c (bytesL s) (bytesL s) 0 rfl
  have hr : (List.range s.size).find? (fun i => s[i]! == c) = (List.range' 0 (bytesL s).length).find? (fun j => (bytesL s).getD j 0 == c) := by
    rw [List.range_eq_range']
    have : (bytesL s).length = s.size := rfl
    rw [this]
    congr 1
    funext i
    congr 1
    simp only [List.getD_eq_getElem?_getD]
    by_cases hi : i < s.size
    · rw [getElem!_pos s i hi, List.getElem?_eq_getElem (show i < (bytesL s).length from hi)]
      rfl
    · rw [getElem!_neg s i hi, List.getElem?_eq_none (show (bytesL s).length ≤ i by show s.size ≤ i; omega)]
      rfl
  subst hargs
  have hdef : ∀ b c : Value, Extern.BytealgIndexByte.indexByte #[b, c] = (do
      let b ← Extern.Bytes.bytesOf b
      let c ← Extern.Bytes.asByte c
      match (List.range b.size).find? fun i => b[i]! == c with
      | some i => pure (goInt i)
      | none => pure (goInt (-1))) := fun _ _ => rfl
  rw [hdef]
  simp only [Extern.Bytes.bytesOf, Extern.Bytes.asByte, Sem.run_bind, Sem.run_pure, Result.andThen_ok, hc, hr]
  rw [hi]
  cases (List.range' 0 (bytesL s).length).find? (fun j => (bytesL s).getD j 0 == c) <;> rfl
theorem same_sound (h : HRel G φ H w) {args : List Value} {args' : Array Value} {r : Value × AHeap} (ha : LRel φ args args'.toList) (e : extA .same args H = some r) :
    ∃ v' w' φ', (Extern.AbiNoEscape.same args').run P w = .ok v' w' ∧ HRel G φ' r.2 w' ∧ Later φ H w φ' r.2 w' ∧ VRel φ' r.1 v' := by
  simp only [extA, Option.bind_eq_some_iff, bif_some, beq_nat, Option.some.injEq] at e
  obtain ⟨v, hv, hl, rfl⟩ := e
  obtain ⟨x', rfl, hx⟩ := one_arg ha hv hl
  exact ⟨x', w, φ, rfl, h, Later.refl _ _ _, hx⟩
theorem digits_one : ∀ (n t : Nat) (acc : Array Value), (∀ v ∈ acc.toList, oneC v = true) → ∀ v ∈ (Extern.BytealgMakeNoZero.digits n t acc).toList, oneC v = true
  | 0, _, acc, h => h
  | n + 1, t, acc, h => by
    simp only [Extern.BytealgMakeNoZero.digits]
    refine digits_one n _ _ ?_
    intro v hv
    simp only [Array.toList_push, List.mem_append, List.mem_singleton] at hv
    rcases hv with hv | rfl
    · exact h v hv
    · rfl
theorem digits_size : ∀ (n t : Nat) (acc : Array Value), (Extern.BytealgMakeNoZero.digits n t acc).size = acc.size + n
  | 0, _, acc => rfl
  | n + 1, t, acc => by
    simp only [Extern.BytealgMakeNoZero.digits, digits_size n]
    simp; omega
theorem anys_rel : ∀ {n : Nat} {l : List Value}, l.length = n → (∀ v ∈ l, oneC v = true) → LRel φ (anys n) l
  | 0, [], _, _ => .nil
  | 0, _ :: _, h, _ => by simp at h
  | n + 1, [], h, _ => by simp at h
  | n + 1, v :: l, h, k => .cons (.any (k v List.mem_cons_self)) (anys_rel (by simpa using h) fun u hu => k u (List.mem_cons_of_mem _ hu))
theorem anys_length : ∀ n, (anys n).length = n
  | 0 => rfl
  | n + 1 => by simp [anys, anys_length n]
theorem make_sound (h : HRel G φ H w) {e t : TypeId} {ps : Array TypeId} {args : List Value} {args' : Array Value} {r : Value × AHeap} (ht : P.underlying t = some (.slice e)) (ha : LRel φ args args'.toList) (he : extA (.makeNoZero e) args H = some r) :
    ∃ v' w' φ', (Extern.BytealgMakeNoZero.makeNoZero ps #[t] args').run P w = .ok v' w' ∧ HRel G φ' r.2 w' ∧ Later φ H w φ' r.2 w' ∧ VRel φ' r.1 v' := by
  simp only [extA, extNoZero, Option.bind_eq_some_iff, bif_some, Bool.and_eq_true, beq_nat, ble_nat, Option.some.injEq] at he
  obtain ⟨v, hv, p, hp, n, hn, ⟨⟨hl, hk⟩, h6⟩, rfl⟩ := he
  obtain ⟨x', rfl, hx⟩ := one_arg ha hv hl
  obtain rfl := vInt_some hp
  have h64 := ik_eq hk
  have hpn := iNat_some hn
  rw [h64, hpn] at hx
  obtain rfl := hx.int_inv
  have hdef : Extern.BytealgMakeNoZero.makeNoZero ps #[t] #[.int .i64 n] =
      (do
        let .slice elem ← underlying t | stuck "bytealg.MakeNoZero: slice type expected"
        if (n : Int) < 0 || (n : Int) > 2 ^ 48 then runtimePanic (.error "makeslice: len out of range")
        let cap ← choose (.appendCap (n : Int).toNat 0 elem)
        askRoom cap
        let bytes ← choose (.extern "internal/bytealg.MakeNoZero.bytes" 0)
        let a ← newRow elem (Extern.BytealgMakeNoZero.digits cap bytes #[])
        pure (.slice (some a) (n : Int).toNat cap)) := rfl
  have h1 : ¬ (n : Int) < 0 := by omega
  have h2 : ¬ (281474976710656 : Int) < (n : Int) := by omega
  have hge : n ≤ grownCap w n 0 e := drawnCap_ge w n 0 e
  generalize hD : Extern.BytealgMakeNoZero.digits (grownCap w n 0 e) ((Question.extern "internal/bytealg.MakeNoZero.bytes" 0).cut (w.tape (w.drawn + 1) (.extern "internal/bytealg.MakeNoZero.bytes" 0))) #[] = D
  have hDs : D.size = grownCap w n 0 e := by rw [← hD, digits_size]; simp
  have hD1 : ∀ v ∈ D.toList, oneC v = true := by rw [← hD]; exact digits_one _ _ _ (by simp)
  have hrun : (Extern.BytealgMakeNoZero.makeNoZero ps #[t] #[.int .i64 n]).run P w = .ok (.slice (some ⟨w.heap.size, 0, none⟩) n (grownCap w n 0 e)) { w with heap := w.heap.push (.cells D e), drawn := w.drawn + 2 } := by
    rw [hdef, ← hD]
    simp [run_underlying ht, h1, h2, Question.forced, newRow, grownCap]
    rfl
  have hdr := h.drawn (w.drawn + 2)
  have hro : ORel φ ⟨w.heap.size, 0, D.size⟩ (.cells e false true (anys n)) (.cells D e) := by
    refine .cells rfl (by simp [anys_length]; omega) ?_ (fun _ => rfl) (by simp)
    rw [anys_length, List.drop_zero]
    exact anys_rel (by simp; omega) fun v hv => hD1 v (List.mem_of_mem_take hv)
  obtain ⟨k1, k2⟩ := hdr.1.new (.cells e false true (anys n)) (.cells D e) ⟨w.heap.size, 0, D.size⟩ rfl hro
  refine ⟨_, _, _, hrun, k1, hdr.2.trans k2, ?_⟩
  have := VRel.isl (φ := extEmb φ H.next ⟨w.heap.size, 0, D.size⟩) (i := H.next) (o := 0) (l := n) (c := n) (e := 1) (c' := grownCap w n 0 e) extEmb_dom ⟨hge, drawnCap_le w _ _ _ (by omega)⟩ (by
    rw [extEmb_self]; show 0 + 0 + grownCap w n 0 e * 1 ≤ D.size; omega)
  rw [extEmb_self] at this
  exact this
end
end Go.Eng

namespace Go.Eng
open Go
def ExtRow (P : Program) (f : FuncId) : Ext → Prop
  | .count => ∃ fn, P.funcs[f]? = some fn ∧ fn.name = "internal/bytealg.CountString" ∧ fn.origin = "" ∧ fn.body = none
  | .indexByte => ∃ fn, P.funcs[f]? = some fn ∧ fn.name = "internal/bytealg.IndexByteString" ∧ fn.origin = "" ∧ fn.body = none
  | .same => ∃ fn, P.funcs[f]? = some fn ∧ fn.name = "internal/abi.NoEscape" ∧ fn.origin = "" ∧ fn.body = none
  | .makeNoZero e => ∃ fn t, P.funcs[f]? = some fn ∧ fn.name = "internal/bytealg.MakeNoZero" ∧ fn.origin = "" ∧ fn.body = none ∧ fn.resultTypes = #[t] ∧ P.underlying t = some (.slice e)
def lookF (l : List (FuncId × Ext)) (f : FuncId) : Option Ext :=
  match l with
  | [] => none
  | p :: r => bif Nat.beq p.1 f then some p.2 else lookF r f
theorem lookF_mem : ∀ {l : List (FuncId × Ext)} {f : FuncId} {e : Ext}, lookF l f = some e → (f, e) ∈ l
  | [], _, _, h => by simp [lookF] at h
  | p :: r, f, e, h => by
    simp only [lookF] at h
    cases hb : Nat.beq p.1 f with
    | true =>
      rw [hb] at h
      simp only [cond_true, Option.some.injEq] at h
      rw [beq_nat] at hb
      rw [← hb, ← h]; exact List.mem_cons_self
    | false =>
      rw [hb] at h
      exact List.mem_cons_of_mem _ (lookF_mem h)
theorem fin_ext {P : Program} {w : World} {φ : Emb} {G : Nat} {H : AHeap} {s : Sem Value} {r : Value × AHeap} {n : Sem Next} (h : ∃ v' w' φ', s.run P w = .ok v' w' ∧ HRel G φ' r.2 w' ∧ Later φ H w φ' r.2 w' ∧ VRel φ' r.1 v')
    (hn : n.run P w = (do pure (.value (← s)) : Sem Next).run P w) : ∃ v' w' φ', n.run P w = .ok (.value v') w' ∧ HRel G φ' r.2 w' ∧ Later φ H w φ' r.2 w' ∧ VRel φ' r.1 v' := by
  obtain ⟨v', w', φ', h1, h2⟩ := h
  exact ⟨v', w', φ', by rw [hn]; simp [h1], h2⟩
theorem extOK_of {P : Program} {l : List (FuncId × Ext)} (h : ∀ p ∈ l, ExtRow P p.1 p.2) : ExtOK P (lookF l) := by
  intro f e he args H r hr G φ w args' ha hH
  have hrow := h _ (lookF_mem he)
  have nm : ∀ {s : String}, s ≠ "runtime.NumGoroutine" → ∀ {fn : Func}, fn.name = s → fn.name ≠ "runtime.NumGoroutine" := fun hs _ hn => hn ▸ hs
  cases e with
  | count =>
    obtain ⟨fn, hf, hn, ho, hb⟩ := hrow
    exact fin_ext (count_sound hH ha hr) (run_callExt hf (nm (by decide) hn) hb (next_none ho (.inl hn)) (find_count hn))
  | indexByte =>
    obtain ⟨fn, hf, hn, ho, hb⟩ := hrow
    exact fin_ext (index_sound hH ha hr) (run_callExt hf (nm (by decide) hn) hb (next_none ho (.inr (.inl hn))) (find_index hn))
  | same =>
    obtain ⟨fn, hf, hn, ho, hb⟩ := hrow
    exact fin_ext (same_sound hH ha hr) (run_callExt hf (nm (by decide) hn) hb (next_none ho (.inr (.inr (.inl hn)))) (find_noesc hn))
  | makeNoZero el =>
    obtain ⟨fn, t, hf, hn, ho, hb, ht, hu⟩ := hrow
    have := find_make hn
    rw [ht] at this
    exact fin_ext (make_sound hH hu ha hr) (run_callExt hf (nm (by decide) hn) hb (next_none ho (.inr (.inr (.inr hn)))) this)
def noCount (P : Program) : Bool := P.funcs.toList.all fun fn => fn.body.isNone || !(fn.name == "runtime.NumGoroutine")
theorem noCount_of {P : Program} (h : noCount P = true) : NoCount P := by
  intro f fn hf hb
  unfold noCount at h
  rw [List.all_eq_true] at h
  have hm : fn ∈ P.funcs.toList := by
    have := Array.getElem?_eq_some_iff.1 hf
    obtain ⟨hlt, rfl⟩ := this
    simp
  have := h fn hm
  cases hc : fn.body with
  | none => rw [hc] at hb; cases hb
  | some c => simpa [hc] using this
def emb0 (G : Nat) : Emb := ⟨fun g => ⟨g, 0, 0⟩, fun g => g < G, fun _ => .nilIface⟩
def heap0 (G : Nat) : AHeap := ⟨G, .lf⟩
theorem rel0 (G : Nat) (w : World) : HRel G (emb0 G) (heap0 G) w :=
  ⟨fun g hg => ⟨hg, rfl, rfl⟩, fun i hi => hi, fun i o hi => by simp [heap0, AHeap.get, Tr.get] at hi, fun i j o p hi => by simp [heap0, AHeap.get, Tr.get] at hi⟩
def answersTrue (E : Env) (n : Nat) (f : FuncId) : Bool :=
  match callA E n f [] (heap0 E.G) with
  | some p => (vBool p.1).getD false
  | none => false
theorem sum_ok {E : Env} (h : Okay E E.G) {n : Nat} {f : FuncId} (ha : answersTrue E n f = true) : CallOK E.P E.G (fun g args H => bif Nat.beq g f && args.isEmpty then some (.bool true, H) else none) := by
  unfold answersTrue at ha
  split at ha
  · rename_i p hp
    have hv : p.1 = .bool true := by
      cases hb : vBool p.1 with
      | none => rw [hb] at ha; simp at ha
      | some b => rw [hb] at ha; simp at ha; rw [vBool_some hb, ha]
    obtain ⟨hfn, hc⟩ := callA_ok h n f [] (heap0 E.G) p hp
    intro g args H r e
    simp only [bif_some, Bool.and_eq_true, beq_nat, List.isEmpty_iff, Option.some.injEq] at e
    obtain ⟨⟨rfl, rfl⟩, rfl⟩ := e
    refine ⟨hfn, fun φ w args' hargs hH cs => ?_⟩
    have hargs0 : LRel (emb0 E.G) [] args'.toList := by
      generalize args'.toList = l at hargs
      cases hargs; exact .nil
    obtain ⟨fr, v', w', φ', s1, h1, h2, h3, h4, h5⟩ := hc (emb0 E.G) w args' hargs0 (rel0 E.G w) cs
    rw [hv] at h5
    have := h5.bool_inv
    subst this
    have hsame : ∀ b, b < w.heap.size → w'.heap[b]? = w.heap[b]? := fun b hb => h4.same b hb (by rintro ⟨i, o, hi, _⟩; simp [heap0, AHeap.get, Tr.get] at hi)
    refine ⟨fr, .bool true, w', φ, s1, h1, h2, ?_, ?_, .base rfl⟩
    · refine ⟨hH.glob, hH.lt, fun i o hi => ?_, hH.inj⟩
      obtain ⟨k1, ob, k2, k3⟩ := hH.obj i o hi
      exact ⟨k1, ob, by rw [hsame _ (Array.getElem?_eq_some_iff.1 k2).1]; exact k2, k3⟩
    · exact ⟨φ.le_refl, Nat.le_refl _, h4.size, fun b hb _ => hsame b hb, fun b hb => .inl hb, fun i hi => .inl hi, fun i o hi => .inl ⟨i, o, hi, rfl⟩, h4.os, h4.tape, h4.output⟩
  · cases ha
end Go.Eng

namespace Go.Eng
open Go
def CLe (c c' : Caller) : Prop := ∀ f a H r, c f a H = some r → c' f a H = some r
def RLe (r r' : Rec) : Prop := ∀ c F H o, r c F H = some o → r' c F H = some o
section
variable {E : Env} {call call' yi yi' : Caller}
theorem opA_mono (hc : CLe call call') (hy : CLe yi yi') {F : Fr} {H : AHeap} {op : Op} {r : Value × AHeap} (e : opA E call yi F H op = some r) : opA E call' yi' F H op = some r := by
  cases op <;> try exact e
  case call c =>
    simp only [opA, callOpA, Option.bind_eq_some_iff] at e ⊢
    obtain ⟨args, ha, e⟩ := e
    refine ⟨args, ha, ?_⟩
    cases hcal : c.callee with
    | builtin b => rw [hcal] at e; exact e
    | invoke x n => rw [hcal] at e; exact e
    | value f =>
      rw [hcal] at e
      simp only [calleeA, Option.bind_eq_some_iff] at e ⊢
      obtain ⟨fv, hfv, v, hv, e⟩ := e
      refine ⟨fv, hfv, v, hv, ?_⟩
      simp only [callVal] at e ⊢
      cases hf : fnFunc v.fn with
      | some f =>
        simp only [hf, callFn] at e ⊢
        cases hx : E.ext f with
        | some x => simp only [hx] at e ⊢; exact e
        | none => simp only [hx] at e ⊢; exact hc _ _ _ _ e
      | none =>
        simp only [hf, Option.bind_eq_some_iff, bif_some] at e ⊢
        obtain ⟨l, hl, h1, e⟩ := e
        exact ⟨l, hl, h1, hy _ _ _ _ e⟩
theorem oneA_mono (hc : CLe call call') (hy : CLe yi yi') {ops : List Oper} {o : Oper} {F : Fr} {H : AHeap} {r : Fr × AHeap} (e : oneA E call yi ops o F H = some r) : oneA E call' yi' ops o F H = some r := by
  simp only [oneA, Option.bind_eq_some_iff] at e ⊢
  obtain ⟨w, hw, e⟩ := e
  refine ⟨w, hw, ?_⟩
  cases w with
  | true =>
    simp only [cond_true, Option.map_eq_some_iff] at e ⊢
    obtain ⟨p, hp, rfl⟩ := e
    exact ⟨p, opA_mono hc hy hp, rfl⟩
  | false => exact e
theorem opsA_mono (hc : CLe call call') (hy : CLe yi yi') {ops : List Oper} : ∀ {l : List Oper} {F : Fr} {H : AHeap} {r : Fr × AHeap}, opsA E call yi ops l F H = some r → opsA E call' yi' ops l F H = some r
  | [], _, _, _, e => e
  | o :: l, F, H, r, e => by
    simp only [opsA, Option.bind_eq_some_iff] at e ⊢
    obtain ⟨p, hp, e⟩ := e
    exact ⟨p, oneA_mono hc hy hp, opsA_mono hc hy e⟩
theorem drawStep_mono (hc : CLe call call') (hy : CLe yi yi') {R : DR} {i : Nat} {s s' : DS} (e : drawStep E call yi R i s = some s') : drawStep E call' yi' R i s = some s' := by
  simp only [drawStep, Option.bind_eq_some_iff, bif_some] at e ⊢
  obtain ⟨o, ho, h1, e⟩ := e
  refine ⟨o, ho, h1, ?_⟩
  cases hh : isHeavy o with
  | false => rw [hh] at e; exact e
  | true =>
    rw [hh] at e
    simp only [cond_true, drawHeavy, bif_some, Option.bind_eq_some_iff] at e ⊢
    obtain ⟨h2, w, hw, e⟩ := e
    refine ⟨h2, w, hw, ?_⟩
    cases w with
    | true =>
      simp only [cond_true, Option.map_eq_some_iff] at e ⊢
      obtain ⟨p, hp, rfl⟩ := e
      exact ⟨p, opA_mono hc hy hp, rfl⟩
    | false => exact e
theorem drawA_mono (hc : CLe call call') (hy : CLe yi yi') {R : DR} : ∀ {l : List Nat} {s s' : DS}, drawA E call yi R l s = some s' → drawA E call' yi' R l s = some s'
  | [], _, _, e => e
  | i :: l, s, s', e => by
    simp only [drawA, Option.bind_eq_some_iff] at e ⊢
    obtain ⟨p, hp, e⟩ := e
    exact ⟨p, drawStep_mono hc hy hp, drawA_mono hc hy e⟩
theorem regionA_mono (hc : CLe call call') (hy : CLe yi yi') {ops : List Oper} {d : Bool} {F : Fr} {H : AHeap} {r : Fr × AHeap} (e : regionA E call yi ops d F H = some r) : regionA E call' yi' ops d F H = some r := by
  cases d with
  | false => exact opsA_mono hc hy e
  | true =>
    simp only [regionA, cond_true, drawR, bif_some, Option.bind_eq_some_iff] at e ⊢
    obtain ⟨h1, s, hs, e⟩ := e
    exact ⟨h1, s, drawA_mono hc hy hs, e⟩
theorem codeA_mono (hc : CLe call call') (hy : CLe yi yi') {again again' : Rec} (hr : RLe again again') {F : AF} {H : AHeap} {c : Code} {o : Out} (e : codeA E call yi again F H c = some o) : codeA E call' yi' again' F H c = some o := by
  have then_ : ∀ {o1 : Out} {k k' : AF → AHeap → Option Out}, (∀ F H r, k F H = some r → k' F H = some r) → thenA o1 k = some o → thenA o1 k' = some o := by
    intro o1 k k' hk h
    simp only [thenA] at h ⊢
    cases hx : o1.e with
    | normal => simp only [hx] at h ⊢; exact hk _ _ _ h
    | exit id => simp only [hx] at h ⊢; exact h
    | ret => simp only [hx] at h ⊢; exact h
  cases c <;> try exact e
  case region id ops d =>
    simp only [codeA, regCode, Option.map_eq_some_iff] at e ⊢
    obtain ⟨p, hp, rfl⟩ := e
    exact ⟨p, regionA_mono hc hy hp, rfl⟩
  case seq a b =>
    simp only [codeA, Option.bind_eq_some_iff] at e ⊢
    obtain ⟨o1, h1, e⟩ := e
    exact ⟨o1, hr _ _ _ _ h1, then_ (fun F H r h => hr _ _ _ _ h) e⟩
  case cond x a b =>
    simp only [codeA, condA, Option.bind_eq_some_iff] at e ⊢
    obtain ⟨v, hv, t, ht, e⟩ := e
    refine ⟨v, hv, t, ht, ?_⟩
    cases t
    · exact hr _ _ _ _ e
    · exact hr _ _ _ _ e
  case block id c =>
    simp only [codeA, Option.map_eq_some_iff] at e ⊢
    obtain ⟨o1, h1, rfl⟩ := e
    exact ⟨o1, hr _ _ _ _ h1, rfl⟩
  case loop b =>
    simp only [codeA, Option.bind_eq_some_iff] at e ⊢
    obtain ⟨o1, h1, e⟩ := e
    exact ⟨o1, hr _ _ _ _ h1, then_ (fun F H r h => hr _ _ _ _ h) e⟩
  case scope b => exact hr _ _ _ _ e
  case rangeFunc f ps a b =>
    simp only [codeA, rangeCode, Option.bind_eq_some_iff] at e ⊢
    obtain ⟨fv, h1, v, h2, bk, h3, e⟩ := e
    refine ⟨fv, h1, v, h2, bk, h3, ?_⟩
    simp only [rangeGo, Option.bind_eq_some_iff, bif_some] at e ⊢
    obtain ⟨g, h4, h5, p, h6, e⟩ := e
    exact ⟨g, h4, h5, p, hc _ _ _ _ h6, e⟩
end
theorem funcA_mono {E : Env} {again again' : Rec} (hr : RLe again again') : CLe (funcA E again) (funcA E again') := by
  intro f args H r e
  unfold funcA at e ⊢
  cases hv : E.sum f with
  | some v => simp only [hv] at e ⊢; exact e
  | none =>
  simp only [hv] at e ⊢
  simp only [funcA0, funcBody, Option.bind_eq_some_iff] at e ⊢
  obtain ⟨fn, h1, c, h2, o, h3, e⟩ := e
  exact ⟨fn, h1, c, h2, o, hr _ _ _ _ h3, e⟩
theorem yieldA_mono {again again' : Rec} (hr : RLe again again') : CLe (yieldA again) (yieldA again') := by
  intro l args H r e
  simp only [yieldA, Option.bind_eq_some_iff, bif_some] at e ⊢
  obtain ⟨rl, h1, h2, o, h3, e⟩ := e
  refine ⟨rl, h1, h2, o, hr _ _ _ _ h3, ?_⟩
  simp only [roundBody, roundBody.thenOnly] at e ⊢
  cases hx : o.e with
  | normal =>
    simp only [hx, Option.bind_eq_some_iff, bif_some] at e ⊢
    obtain ⟨r1, h4, h5, o2, h6, e⟩ := e
    exact ⟨r1, h4, h5, o2, hr _ _ _ _ h6, e⟩
  | exit id => simp only [hx] at e; cases e
  | ret => simp only [hx] at e; cases e
theorem run_step (E : Env) : ∀ n, RLe (run E n) (run E (n + 1))
  | 0 => fun c F H o e => by simp [run] at e
  | n + 1 => fun c F H o e => by
    have ih := run_step E n
    exact codeA_mono (funcA_mono ih) (yieldA_mono ih) ih e
theorem run_le (E : Env) {n m : Nat} (h : n ≤ m) : RLe (run E n) (run E m) := by
  induction h with
  | refl => exact fun _ _ _ _ e => e
  | step _ ih => exact fun c F H o e => run_step E _ c F H o (ih c F H o e)
theorem callA_le (E : Env) {n m : Nat} (h : n ≤ m) : CLe (callA E n) (callA E m) := funcA_mono (run_le E h)
def Go (E : Env) (c : Code) (F : AF) (H : AHeap) (o : Out) : Prop := ∃ n, run E n c F H = some o
end Go.Eng

namespace Go.Eng
open Go
end Go.Eng

namespace Go.Eng
open Go
def W {α : Type} (x : Option α) (Q : α → Prop) : Prop := ∃ a, x = some a ∧ Q a
theorem W.mono {α : Type} {x : Option α} {Q Q' : α → Prop} (h : W x Q) (hq : ∀ a, Q a → Q' a) : W x Q' := by
  obtain ⟨a, h1, h2⟩ := h; exact ⟨a, h1, hq a h2⟩
theorem at_self {F : Fr} {d : Nat} {v : Value} (h : d < F.n) : (F.set d v).at d = v := by rw [Fr.at_set, if_pos ⟨rfl, h⟩]
theorem at_ne {F : Fr} {d i : Nat} {v : Value} (h : i ≠ d) : (F.set d v).at i = F.at i := by rw [Fr.at_set, if_neg (fun x => h x.1)]
def WC (E : Env) (c : Code) (F : AF) (H : AHeap) (Q : Out → Prop) : Prop := ∃ n, W (run E n c F H) Q
def WF (E : Env) (f : FuncId) (args : List Value) (H : AHeap) (Q : Value × AHeap → Prop) : Prop := ∃ n, W (callA E n f args H) Q
section
variable {E : Env} {F : AF} {H : AHeap} {Q : Out → Prop}
theorem run_succ (n : Nat) (c : Code) : run E (n + 1) c F H = codeA E (funcA E (run E n)) (yieldA (run E n)) (run E n) F H c := rfl
theorem WC.mono {c : Code} {Q' : Out → Prop} (h : WC E c F H Q) (hq : ∀ o, Q o → Q' o) : WC E c F H Q' := by
  obtain ⟨n, h⟩ := h; exact ⟨n, h.mono hq⟩
theorem WF.mono {f : FuncId} {args : List Value} {Q Q' : Value × AHeap → Prop} (h : WF E f args H Q) (hq : ∀ o, Q o → Q' o) : WF E f args H Q' := by
  obtain ⟨n, h⟩ := h; exact ⟨n, h.mono hq⟩
theorem WC.skip (h : Q ⟨.normal, F, H⟩) : WC E .skip F H Q := ⟨1, _, rfl, h⟩
theorem WC.ret (h : Q ⟨.ret, F, H⟩) : WC E .ret F H Q := ⟨1, _, rfl, h⟩
theorem WC.exit {id : Nat} (h : Q ⟨.exit id, F, H⟩) : WC E (.exit id) F H Q := ⟨1, _, rfl, h⟩
theorem WC.seq {a b : Code} (h : WC E a F H fun o => match o.e with | .normal => WC E b o.F o.H Q | _ => Q o) : WC E (.seq a b) F H Q := by
  obtain ⟨n, o, h1, h2⟩ := h
  cases hx : o.e with
  | normal =>
    rw [hx] at h2
    obtain ⟨m, o2, h3, h4⟩ := h2
    refine ⟨max n m + 1, o2, ?_, h4⟩
    simp only [run_succ, codeA, run_le E (Nat.le_max_left n m) _ _ _ _ h1, Option.bind_some, thenA, hx]
    exact run_le E (Nat.le_max_right n m) _ _ _ _ h3
  | exit id =>
    rw [hx] at h2
    refine ⟨n + 1, o, ?_, h2⟩
    simp only [run_succ, codeA, h1, Option.bind_some, thenA, hx]
  | ret =>
    rw [hx] at h2
    refine ⟨n + 1, o, ?_, h2⟩
    simp only [run_succ, codeA, h1, Option.bind_some, thenA, hx]
theorem WC.cond {x : Operand} {a b : Code} {t : Bool} (hx : aval E.G F.tmps x = some (.bool t)) (h : WC E (if t then a else b) F H Q) : WC E (.cond x a b) F H Q := by
  obtain ⟨n, o, h1, h2⟩ := h
  refine ⟨n + 1, o, ?_, h2⟩
  simp only [run_succ, codeA, condA, hx, Option.bind_some, vBool]
  cases t <;> exact h1
theorem WC.block {id : Nat} {c : Code} (h : WC E c F H fun o => Q (leaveA id o)) : WC E (.block id c) F H Q := by
  obtain ⟨n, o, h1, h2⟩ := h
  refine ⟨n + 1, leaveA id o, ?_, h2⟩
  simp only [run_succ, codeA, h1, Option.map_some]
theorem WC.loop {c : Code} (h : WC E c F H fun o => match o.e with | .normal => WC E (.loop c) o.F o.H Q | _ => Q o) : WC E (.loop c) F H Q := by
  obtain ⟨n, o, h1, h2⟩ := h
  cases hx : o.e with
  | normal =>
    rw [hx] at h2
    obtain ⟨m, o2, h3, h4⟩ := h2
    refine ⟨max n m + 1, o2, ?_, h4⟩
    simp only [run_succ, codeA, run_le E (Nat.le_max_left n m) _ _ _ _ h1, Option.bind_some, thenA, hx]
    exact run_le E (Nat.le_max_right n m) _ _ _ _ h3
  | exit id =>
    rw [hx] at h2
    refine ⟨n + 1, o, ?_, h2⟩
    simp only [run_succ, codeA, h1, Option.bind_some, thenA, hx]
  | ret =>
    rw [hx] at h2
    refine ⟨n + 1, o, ?_, h2⟩
    simp only [run_succ, codeA, h1, Option.bind_some, thenA, hx]
end
end Go.Eng

namespace Go.Eng
open Go
abbrev CN (E : Env) (n : Nat) : Caller := funcA E (run E n)
abbrev YN (E : Env) (n : Nat) : Caller := yieldA (run E n)
theorem CN_le (E : Env) {n m : Nat} (h : n ≤ m) : CLe (CN E n) (CN E m) := funcA_mono (run_le E h)
theorem YN_le (E : Env) {n m : Nat} (h : n ≤ m) : CLe (YN E n) (YN E m) := yieldA_mono (run_le E h)
def WO (E : Env) (ops l : List Oper) (F : Fr) (H : AHeap) (Q : Fr → AHeap → Prop) : Prop := ∃ n, W (opsA E (CN E n) (YN E n) ops l F H) fun p => Q p.1 p.2
def WP (E : Env) (op : Op) (F : Fr) (H : AHeap) (Q : Value → AHeap → Prop) : Prop := ∃ n, W (opA E (CN E n) (YN E n) F H op) fun p => Q p.1 p.2
section
variable {E : Env} {ops l : List Oper} {F : Fr} {H : AHeap} {Q : Fr → AHeap → Prop}
theorem WO.nil (h : Q F H) : WO E ops [] F H Q := ⟨0, _, rfl, h⟩
theorem WO.guard {o : Oper} {w : Bool} (hg : wantedA ops F o = some w) (h : if w then WP E o.op F H fun v H1 => WO E ops l (setT F o.dst v) H1 Q else WO E ops l (setT F o.dst undefV) H Q) : WO E ops (o :: l) F H Q := by
  cases w with
  | true =>
    obtain ⟨n, p, h1, m, q, h2, h3⟩ := h
    refine ⟨max n m, q, ?_, h3⟩
    have k1 := opA_mono (CN_le E (Nat.le_max_left n m)) (YN_le E (Nat.le_max_left n m)) h1
    have k2 := opsA_mono (CN_le E (Nat.le_max_right n m)) (YN_le E (Nat.le_max_right n m)) h2
    simp only [opsA, oneA, hg, Option.bind_some, cond_true, k1, Option.map_some]
    exact k2
  | false =>
    obtain ⟨m, q, h2, h3⟩ := h
    refine ⟨m, q, ?_, h3⟩
    simp only [opsA, oneA, hg, Option.bind_some, cond_false]
    exact h2
theorem WP.of {op : Op} {v : Value} {H1 : AHeap} {Q : Value → AHeap → Prop} (h : ∀ c y, opA E c y F H op = some (v, H1)) (hq : Q v H1) : WP E op F H Q := ⟨0, _, h _ _, hq⟩
theorem WP.call {c : Call} {f : FuncId} {args : List Value} {Q : Value → AHeap → Prop} (hc : c.callee = .value (.func f)) (hx : E.ext f = none) (ha : avals E.G F c.args.toList = some args) (h : WF E f args H fun r => Q r.1 r.2) : WP E (.call c) F H Q := by
  obtain ⟨n, r, h1, h2⟩ := h
  refine ⟨n, r, ?_, h2⟩
  have hv : ∀ l : List Value, [] ++ (l ++ []) = l := fun l => by simp
  simp only [opA, callOpA, ha, Option.bind_some, hc, calleeA, aval, vFunc, callVal, fnFunc, callFn, hx, hv]
  exact h1
theorem WP.callV {c : Call} {t : Tmp} {f : FuncId} {a b : Array Value} {args : List Value} {Q : Value → AHeap → Prop} (hc : c.callee = .value (.tmp t)) (ht : F.at t = .func (.func f) a b) (hx : E.ext f = none) (ha : avals E.G F c.args.toList = some args)
    (h : WF E f (a.toList ++ (args ++ b.toList)) H fun r => Q r.1 r.2) : WP E (.call c) F H Q := by
  obtain ⟨n, r, h1, h2⟩ := h
  refine ⟨n, r, ?_, h2⟩
  simp only [opA, callOpA, ha, Option.bind_some, hc, calleeA, aval, ht, vFunc, callVal, fnFunc, callFn, hx]
  exact h1
end
section
variable {E : Env} {F : AF} {H : AHeap} {Q : Out → Prop}
theorem WC.region {id : Nat} {ops : Array Oper} (h : WO E ops.toList ops.toList F.tmps H fun T H1 => Q ⟨.normal, ⟨F.fn, T, F.defs, F.round⟩, H1⟩) : WC E (.region id ops false) F H Q := by
  obtain ⟨n, p, h1, h2⟩ := h
  refine ⟨n + 1, _, ?_, h2⟩
  simp only [run_succ, codeA, regCode, regionA, cond_false, h1, Option.map_some]
theorem WF.of {E : Env} {f : FuncId} {fn : Func} {c : Code} {args : List Value} {H : AHeap} {Q : Value × AHeap → Prop} (hs : E.sum f = none) (hf : E.P.funcs[f]? = some fn) (hb : fn.body = some c)
    (h : WC E c ⟨f, frame0 args fn.ntmps, [], none⟩ H fun o => W (funcEnd E.P fn.results.toList o) Q) : WF E f args H Q := by
  obtain ⟨n, o, h1, h2⟩ := h
  obtain ⟨r, h3, h4⟩ := h2
  refine ⟨n, r, ?_, h4⟩
  simp only [callA, funcA, hs, funcA0, hf, Option.bind_some, hb, funcBody, h1, h3]
theorem WF.sum {E : Env} {f : FuncId} {v : Value} {H : AHeap} {Q : Value × AHeap → Prop} (hs : E.sum f = some (known v)) (h : Q (v, H)) : WF E f [] H Q :=
  ⟨0, _, by simp only [callA, funcA, hs]; rfl, h⟩
theorem WF.told {E : Env} {f : FuncId} {s : List Value → AHeap → Option (Value × AHeap)} {args : List Value} {r : Value × AHeap} {H : AHeap} {Q : Value × AHeap → Prop} (hs : E.sum f = some s) (hr : s args H = some r) (h : Q r) : WF E f args H Q :=
  ⟨0, _, by simp only [callA, funcA, hs]; exact hr, h⟩
end
end Go.Eng

namespace Go.Eng
open Go
def WD (E : Env) (R : DR) (l : List Nat) (s : DS) (Q : DS → Prop) : Prop := ∃ n, W (drawA E (CN E n) (YN E n) R l s) Q
def stepOk (R : DR) (i : Nat) (o : Oper) (done : Nat) (hs : List Nat) : Bool :=
  !Nat.testBit done i && Nat.beq (Nat.land (R.anc.getD i 0) done) (R.anc.getD i 0) && (bif isHeavy o then isHead i hs else lateOk R.anc i hs)
section
variable {E : Env} {R : DR} {l : List Nat} {s : DS} {Q : DS → Prop} {i : Nat} {o : Oper}
theorem WD.nil (h : Q s) : WD E R [] s Q := ⟨0, _, rfl, h⟩
theorem WD.light (ho : R.ops[i]? = some o) (hh : isHeavy o = false) (hk : stepOk R i o s.done s.hs = true) (hw : wantedA R.ops s.F o = some true) {p : Value × AHeap} (he : evalAt E s.F (R.base + i) s.H o.op = some p) (hr : readOk E R i o s p = true)
    (h : WD E R l ⟨setT s.F o.dst p.1, ⟨s.H.next, p.2.objs⟩, s.past, s.bit i, s.hs⟩ Q) : WD E R (i :: l) s Q := by
  obtain ⟨n, r, h1, h2⟩ := h
  refine ⟨n, r, ?_, h2⟩
  simp only [stepOk, hh, cond_false, Bool.and_eq_true] at hk
  have hk1 : (!Nat.testBit s.done i && Nat.beq (Nat.land (R.anc.getD i 0) s.done) (R.anc.getD i 0)) = true := by rw [Bool.and_eq_true]; exact hk.1
  simp only [drawA, drawStep, ho, Option.bind_some, hk1, cond_true, hh, cond_false, drawLight, hk.2, hw, he, hr, h1]
theorem WD.lightSkip (ho : R.ops[i]? = some o) (hh : isHeavy o = false) (hk : stepOk R i o s.done s.hs = true) (hw : wantedA R.ops s.F o = some false)
    (h : WD E R l ⟨setT s.F o.dst undefV, s.H, s.past, s.bit i, s.hs⟩ Q) : WD E R (i :: l) s Q := by
  obtain ⟨n, r, h1, h2⟩ := h
  refine ⟨n, r, ?_, h2⟩
  simp only [stepOk, hh, cond_false, Bool.and_eq_true] at hk
  have hk1 : (!Nat.testBit s.done i && Nat.beq (Nat.land (R.anc.getD i 0) s.done) (R.anc.getD i 0)) = true := by rw [Bool.and_eq_true]; exact hk.1
  simp only [drawA, drawStep, ho, Option.bind_some, hk1, cond_true, hh, cond_false, drawLight, hk.2, hw, h1]
theorem WD.heavy (ho : R.ops[i]? = some o) (hh : isHeavy o = true) (hk : stepOk R i o s.done s.hs = true) (hw : wantedA R.ops s.F o = some true)
    (h : WP E o.op s.F s.H fun v H1 => WD E R l ⟨setT s.F o.dst v, H1, H1 :: s.past, s.bit i, s.hs.tail⟩ Q) : WD E R (i :: l) s Q := by
  obtain ⟨n, p, h1, m, r, h2, h3⟩ := h
  refine ⟨max n m, r, ?_, h3⟩
  simp only [stepOk, hh, cond_true, Bool.and_eq_true] at hk
  have hk1 : (!Nat.testBit s.done i && Nat.beq (Nat.land (R.anc.getD i 0) s.done) (R.anc.getD i 0)) = true := by rw [Bool.and_eq_true]; exact hk.1
  have k1 := opA_mono (CN_le E (Nat.le_max_left n m)) (YN_le E (Nat.le_max_left n m)) h1
  have k2 := drawA_mono (CN_le E (Nat.le_max_right n m)) (YN_le E (Nat.le_max_right n m)) h2
  simp only [drawA, drawStep, ho, Option.bind_some, hk1, cond_true, hh, drawHeavy, hk.2, hw, k1, Option.map_some, k2]
theorem WD.heavySkip (ho : R.ops[i]? = some o) (hh : isHeavy o = true) (hk : stepOk R i o s.done s.hs = true) (hw : wantedA R.ops s.F o = some false)
    (h : WD E R l ⟨setT s.F o.dst undefV, s.H, s.H :: s.past, s.bit i, s.hs.tail⟩ Q) : WD E R (i :: l) s Q := by
  obtain ⟨n, r, h1, h2⟩ := h
  refine ⟨n, r, ?_, h2⟩
  simp only [stepOk, hh, cond_true, Bool.and_eq_true] at hk
  have hk1 : (!Nat.testBit s.done i && Nat.beq (Nat.land (R.anc.getD i 0) s.done) (R.anc.getD i 0)) = true := by rw [Bool.and_eq_true]; exact hk.1
  simp only [drawA, drawStep, ho, Option.bind_some, hk1, cond_true, hh, drawHeavy, hk.2, hw, cond_false, h1]
end
theorem WC.draw {E : Env} {F : AF} {H : AHeap} {Q : Out → Prop} {id : Nat} {ops : Array Oper} {ord : List Nat} (hord : canon ops.toList.length (ancA ops.toList []) (heavies ops.toList 0) (heavies ops.toList 0) 0 = ord)
    (hchk : (edgesOk ops.toList 0 && chainOk (ancA ops.toList []) (heavies ops.toList 0) && tmpsOk ops.toList (ancA ops.toList []) ops.toList 0) = true)
    (h : WD E ⟨ops.toList, ancA ops.toList [], heavies ops.toList 0, H.next⟩ ord ⟨F.tmps, ⟨H.next + ops.toList.length, H.objs⟩, [⟨H.next + ops.toList.length, H.objs⟩], 0, heavies ops.toList 0⟩
      fun s => (Nat.beq s.done (2 ^ ops.toList.length - 1) && s.hs.isEmpty) = true ∧ Q ⟨.normal, ⟨F.fn, s.F, F.defs, F.round⟩, s.H⟩) : WC E (.region id ops true) F H Q := by
  obtain ⟨n, s, h1, h2, h3⟩ := h
  refine ⟨n + 1, _, ?_, h3⟩
  subst hord
  simp only [run_succ, codeA, regCode, regionA, cond_true, drawR, drawChecks, hchk, h1, Option.bind_some, drawEnd, h2, Option.map_some]
end Go.Eng
namespace Go.Eng
open Go
theorem row_set (H : AHeap) (i : Nat) (o : AObj) (j : Nat) : (H.set i o).row j = if j = i then rowOf o else H.row j := by
  simp only [AHeap.row, AHeap.get_set]; split <;> rfl
theorem row_new (H : AHeap) (o : AObj) (j : Nat) : (H.new o).row j = if j = H.next then rowOf o else H.row j := by
  simp only [AHeap.row, AHeap.get_new]; split <;> rfl
theorem row_drop (H : AHeap) (i : Nat) (j : Nat) : (H.drop i).row j = if j = i then none else H.row j := by
  simp only [AHeap.row, AHeap.get_drop]; split <;> rfl
theorem load_row {P : Program} {T b o : Nat} {H : AHeap} {r : Row} (hr : H.row b = some r) : loadA P T (.pointer (some ⟨b, o, none⟩)) H = readAt P T r.cs o := by
  show (H.row b).bind _ = _
  rw [hr]; rfl
end Go.Eng
