/- The interpreter over abstract memory, how it is tied to the machine, and rules for its runs. Conditions: none beyond each theorem's own. -/
import Derived.Test.YtbjiommpeeanmaaGreatDoorEngB
import Derived.Deep.Slices
import Derived.Shelf.Sort.Plain
set_option linter.all false
namespace Go.Eng
open Go
abbrev Kn := List (Nat × Value)
def lk : Kn → Nat → Option Value
  | [], _ => none
  | p :: r, i => bif Nat.beq p.1 i then some p.2 else lk r i
def Knows (F : Fr) (N : Nat) (l : Kn) : Prop := F.n = N ∧ ∀ i v, lk l i = some v → F.at i = v
theorem Knows.set {F : Fr} {N : Nat} {l : Kn} {d : Nat} {v : Value} (h : Knows F N l) (hd : Nat.blt d N = true) : Knows (F.set d v) N ((d, v) :: l) := by
  refine ⟨by rw [Fr.n_set]; exact h.1, fun i u hu => ?_⟩
  have hd2 : d < F.n := by rw [h.1]; exact blt_nat.1 hd
  simp only [lk] at hu
  cases hb : Nat.beq d i with
  | true =>
    rw [hb] at hu
    have := Nat.eq_of_beq_eq_true hb
    subst this
    simp only [cond_true, Option.some.injEq] at hu
    subst hu
    exact at_self hd2
  | false =>
    rw [hb] at hu
    rw [at_ne (fun x => by subst x; simp at hb)]
    exact h.2 i u hu
def Sub (l' l : Kn) : Prop := ∀ p ∈ l', lk l p.1 = some p.2
theorem lk_mem : ∀ {l : Kn} {i : Nat} {v : Value}, lk l i = some v → (i, v) ∈ l
  | [], _, _, h => by cases h
  | p :: r, i, v, h => by
    simp only [lk] at h
    cases hb : Nat.beq p.1 i with
    | true =>
      rw [hb] at h
      simp only [cond_true, Option.some.injEq] at h
      have := Nat.eq_of_beq_eq_true hb
      cases p; simp_all
    | false =>
      rw [hb] at h
      exact List.mem_cons_of_mem _ (lk_mem h)
theorem Knows.sub {F : Fr} {N : Nat} {l l' : Kn} (h : Knows F N l) (hs : Sub l' l) : Knows F N l' :=
  ⟨h.1, fun _ _ hv => h.2 _ _ (hs _ (lk_mem hv))⟩
theorem Sub.nil {l : Kn} : Sub [] l := fun _ h => absurd h (List.not_mem_nil)
theorem Sub.cons {l l' : Kn} {i : Nat} {v : Value} (h : lk l i = some v) (hs : Sub l' l) : Sub ((i, v) :: l') l := by
  intro p hp
  rcases List.mem_cons.1 hp with rfl | hp
  · exact h
  · exact hs p hp
def kval (G : Nat) (l : Kn) : Operand → Option Value
  | .tmp t => lk l t
  | .const v => bif plain v then some v else none
  | .global g => bif Nat.blt g G then some (.pointer (some ⟨g, 0, none⟩)) else none
  | .func f => some (.func (.func f) #[] #[])
theorem kval_ok {G : Nat} {F : Fr} {N : Nat} {l : Kn} (h : Knows F N l) {x : Operand} {v : Value} (hv : kval G l x = some v) : aval G F x = some v := by
  cases x with
  | tmp t => simp only [aval, h.2 t v hv]
  | const c => exact hv
  | global g => exact hv
  | func f => exact hv
def kvals (G : Nat) (l : Kn) : List Operand → Option (List Value)
  | [] => some []
  | x :: r => (kval G l x).bind fun v => (kvals G l r).map fun vs => v :: vs
theorem kvals_ok {G : Nat} {F : Fr} {N : Nat} {l : Kn} (h : Knows F N l) : ∀ {xs : List Operand} {vs : List Value}, kvals G l xs = some vs → avals G F xs = some vs
  | [], _, hv => hv
  | x :: r, vs, hv => by
    simp only [kvals, Option.bind_eq_some_iff, Option.map_eq_some_iff] at hv
    obtain ⟨v, h1, us, h2, rfl⟩ := hv
    simp only [avals, kval_ok h h1, Option.bind_some, kvals_ok h h2, Option.map_some]
def kparts (G : Nat) (l : Kn) : List (Nat × Operand) → Option (List (Nat × Value))
  | [] => some []
  | p :: r => (kval G l p.2).bind fun v => (kparts G l r).map fun vs => (p.1, v) :: vs
theorem kparts_ok {G : Nat} {F : Fr} {N : Nat} {l : Kn} (h : Knows F N l) : ∀ {xs : List (Nat × Operand)} {vs : List (Nat × Value)}, kparts G l xs = some vs → partVals G F xs = some vs
  | [], _, hv => hv
  | x :: r, vs, hv => by
    simp only [kparts, Option.bind_eq_some_iff, Option.map_eq_some_iff] at hv
    obtain ⟨v, h1, us, h2, rfl⟩ := hv
    simp only [partVals, kval_ok h h1, Option.bind_some, kparts_ok h h2, Option.map_some]
def kwant (ops : List Oper) (l : Kn) (o : Oper) : Option Bool :=
  match o.guard with
  | none => some true
  | some g => (ops[g.1]?).bind fun p => p.dst.bind fun d => (lk l d).bind fun v => yieldB v g.2
theorem kwant_ok {F : Fr} {N : Nat} {l : Kn} (h : Knows F N l) {ops : List Oper} {o : Oper} {w : Bool} (hw : kwant ops l o = some w) : wantedA ops F o = some w := by
  unfold kwant at hw
  unfold wantedA
  cases hg : o.guard with
  | none => rw [hg] at hw; exact hw
  | some g =>
    rw [hg] at hw
    simp only [Option.bind_eq_some_iff] at hw ⊢
    obtain ⟨p, h1, d, h2, v, h3, h4⟩ := hw
    exact ⟨p, h1, d, h2, by rw [h.2 d v h3]; exact h4⟩
def PV (E : Env) (l : Kn) (op : Op) (v : Value) : Prop := ∀ F N, Knows F N l → ∀ c y H, opA E c y F H op = some (v, H)
def PX (E : Env) (l : Kn) (H : AHeap) (op : Op) (v : Value) (H1 : AHeap) : Prop := ∀ F N, Knows F N l → ∀ c y, opA E c y F H op = some (v, H1)
def KO (E : Env) (N : Nat) (ops rest : List Oper) (l : Kn) (H : AHeap) (Q : Kn → AHeap → Prop) : Prop :=
  ∀ F, Knows F N l → WO E ops rest F H fun F' H' => ∃ l', Knows F' N l' ∧ Q l' H'
def KC (E : Env) (f : FuncId) (N : Nat) (c : Code) (l : Kn) (H : AHeap) (Q : AExit → Kn → AHeap → Prop) : Prop :=
  ∀ F, Knows F N l → WC E c ⟨f, F, [], none⟩ H fun o => ∃ l', o.F.fn = f ∧ o.F.defs = [] ∧ o.F.round = none ∧ Knows o.F.tmps N l' ∧ Q o.e l' o.H
section
variable {E : Env} {N : Nat} {ops rest : List Oper} {l : Kn} {H : AHeap} {Q : Kn → AHeap → Prop}
theorem KO.nil (h : Q l H) : KO E N ops [] l H Q := fun _ hF => WO.nil ⟨l, hF, h⟩
theorem KO.pv {d : Nat} {op : Op} {ty : TypeId} {ps : String} {af : Array Edge} {g : Option (Nat × Bool)} {v : Value} (hp : PV E l op v) (hw : kwant ops l ⟨some d, op, ty, ps, af, g⟩ = some true) (hd : Nat.blt d N = true)
    (h : KO E N ops rest ((d, v) :: l) H Q) : KO E N ops (⟨some d, op, ty, ps, af, g⟩ :: rest) l H Q := by
  intro F hF
  refine WO.guard (w := true) (kwant_ok hF hw) ?_
  simp only [if_true]
  exact WP.of (fun c y => hp F N hF c y H) (h _ (hF.set hd))
theorem KO.px {d : Nat} {op : Op} {ty : TypeId} {ps : String} {af : Array Edge} {g : Option (Nat × Bool)} {v : Value} {H1 : AHeap} (hp : PX E l H op v H1) (hw : kwant ops l ⟨some d, op, ty, ps, af, g⟩ = some true) (hd : Nat.blt d N = true)
    (h : KO E N ops rest ((d, v) :: l) H1 Q) : KO E N ops (⟨some d, op, ty, ps, af, g⟩ :: rest) l H Q := by
  intro F hF
  refine WO.guard (w := true) (kwant_ok hF hw) ?_
  simp only [if_true]
  exact WP.of (fun c y => hp F N hF c y) (h _ (hF.set hd))
theorem KO.pn {op : Op} {ty : TypeId} {ps : String} {af : Array Edge} {g : Option (Nat × Bool)} {v : Value} {H1 : AHeap} (hp : PX E l H op v H1) (hw : kwant ops l ⟨none, op, ty, ps, af, g⟩ = some true)
    (h : KO E N ops rest l H1 Q) : KO E N ops (⟨none, op, ty, ps, af, g⟩ :: rest) l H Q := by
  intro F hF
  refine WO.guard (w := true) (kwant_ok hF hw) ?_
  simp only [if_true]
  exact WP.of (fun c y => hp F N hF c y) (h _ hF)
theorem KO.no {o : Oper} {d : Nat} (ho : o.dst = some d) (hw : kwant ops l o = some false) (hd : Nat.blt d N = true)
    (h : KO E N ops rest ((d, undefV) :: l) H Q) : KO E N ops (o :: rest) l H Q := by
  intro F hF
  refine WO.guard (w := false) (kwant_ok hF hw) ?_
  rw [if_neg (by simp), ho]
  exact h _ (hF.set hd)
theorem KO.call {d : Nat} {f : FuncId} {aos : Array Operand} {ts : Array TypeId} {ty : TypeId} {ps : String} {af : Array Edge} {g : Option (Nat × Bool)} {vs : List Value} {Q0 : Value × AHeap → Prop}
    (hx : E.ext f = none) (ha : kvals E.G l aos.toList = some vs) (hw : kwant ops l ⟨some d, .call ⟨.value (.func f), aos, ts⟩, ty, ps, af, g⟩ = some true) (hd : Nat.blt d N = true)
    (hf : WF E f vs H Q0) (h : ∀ v H1, Q0 (v, H1) → KO E N ops rest ((d, v) :: l) H1 Q) : KO E N ops (⟨some d, .call ⟨.value (.func f), aos, ts⟩, ty, ps, af, g⟩ :: rest) l H Q := by
  intro F hF
  refine WO.guard (w := true) (kwant_ok hF hw) ?_
  simp only [if_true]
  exact WP.call rfl hx (kvals_ok hF ha) (hf.mono fun r hr => h _ _ hr _ (hF.set hd))
theorem KO.callV {d : Nat} {t : Tmp} {f : FuncId} {a b : Array Value} {aos : Array Operand} {ts : Array TypeId} {ty : TypeId} {ps : String} {af : Array Edge} {g : Option (Nat × Bool)} {vs : List Value} {Q0 : Value × AHeap → Prop}
    (hk : lk l t = some (.func (.func f) a b)) (hx : E.ext f = none) (ha : kvals E.G l aos.toList = some vs) (hw : kwant ops l ⟨some d, .call ⟨.value (.tmp t), aos, ts⟩, ty, ps, af, g⟩ = some true) (hd : Nat.blt d N = true)
    (hf : WF E f (a.toList ++ (vs ++ b.toList)) H Q0) (h : ∀ v H1, Q0 (v, H1) → KO E N ops rest ((d, v) :: l) H1 Q) : KO E N ops (⟨some d, .call ⟨.value (.tmp t), aos, ts⟩, ty, ps, af, g⟩ :: rest) l H Q := by
  intro F hF
  refine WO.guard (w := true) (kwant_ok hF hw) ?_
  simp only [if_true]
  exact WP.callV rfl (hF.2 t _ hk) hx (kvals_ok hF ha) (hf.mono fun r hr => h _ _ hr _ (hF.set hd))
end
section
variable {E : Env} {f : FuncId} {N : Nat} {l : Kn} {H : AHeap} {Q : AExit → Kn → AHeap → Prop}
theorem KC.sub {c : Code} {l' : Kn} (hs : Sub l' l) (h : KC E f N c l' H Q) : KC E f N c l H Q := fun F hF => h F (hF.sub hs)
theorem KC.mono {c : Code} {Q' : AExit → Kn → AHeap → Prop} (h : KC E f N c l H Q) (hq : ∀ e l' H', Q e l' H' → Q' e l' H') : KC E f N c l H Q' := by
  intro F hF
  exact (h F hF).mono fun o ho => by
    obtain ⟨l', a, b, c, d, e⟩ := ho
    exact ⟨l', a, b, c, d, hq _ _ _ e⟩
theorem KC.skip (h : Q .normal l H) : KC E f N .skip l H Q := fun _ hF => WC.skip ⟨l, rfl, rfl, rfl, hF, h⟩
theorem KC.ret (h : Q .ret l H) : KC E f N .ret l H Q := fun _ hF => WC.ret ⟨l, rfl, rfl, rfl, hF, h⟩
theorem KC.exit {id : Nat} (h : Q (.exit id) l H) : KC E f N (.exit id) l H Q := fun _ hF => WC.exit ⟨l, rfl, rfl, rfl, hF, h⟩
abbrev aft (b : Kn → AHeap → Prop) (Q : AExit → Kn → AHeap → Prop) : AExit → Kn → AHeap → Prop
  | .normal, l, H => b l H
  | e, l, H => Q e l H
theorem KC.seq {a b : Code} (h : KC E f N a l H (aft (fun l' H' => KC E f N b l' H' Q) Q)) : KC E f N (.seq a b) l H Q := by
  intro F hF
  refine WC.seq ((h F hF).mono fun o ho => ?_)
  obtain ⟨l', h1, h2, h3, h4, h5⟩ := ho
  cases he : o.e with
  | normal =>
    rw [he] at h5
    have := h5 o.F.tmps h4
    obtain ⟨e, ⟨fn, tm, df, rd⟩, Ho⟩ := o
    subst h1; subst h2; subst h3
    exact this
  | exit id => exact ⟨l', h1, h2, h3, h4, by rw [he] at h5; exact h5⟩
  | ret => exact ⟨l', h1, h2, h3, h4, by rw [he] at h5; exact h5⟩
theorem KC.region {id : Nat} {ops : Array Oper} (h : KO E N ops.toList ops.toList l H (Q .normal)) : KC E f N (.region id ops false) l H Q := by
  intro F hF
  refine WC.region ?_
  obtain ⟨n, w⟩ := h F hF
  exact ⟨n, w.mono fun p hp => by
    obtain ⟨l', a, b⟩ := hp
    exact ⟨l', rfl, rfl, rfl, a, b⟩⟩
theorem KC.cond {x : Operand} {a b : Code} {t : Bool} (hx : kval E.G l x = some (.bool t)) (h1 : t = true → KC E f N a l H Q) (h2 : t = false → KC E f N b l H Q) : KC E f N (.cond x a b) l H Q := by
  intro F hF
  refine WC.cond (kval_ok hF hx) ?_
  cases t
  · exact h2 rfl F hF
  · exact h1 rfl F hF
theorem KC.block {id : Nat} {c : Code} (h : KC E f N c l H fun e l' H' => Q (match e with | .exit i => bif Nat.beq i id then .normal else .exit i | e => e) l' H') : KC E f N (.block id c) l H Q := by
  intro F hF
  refine WC.block ((h F hF).mono fun o ho => ?_)
  obtain ⟨l', h1, h2, h3, h4, h5⟩ := ho
  obtain ⟨e, Fo, Ho⟩ := o
  cases e with
  | normal => exact ⟨l', h1, h2, h3, h4, h5⟩
  | ret => exact ⟨l', h1, h2, h3, h4, h5⟩
  | exit i =>
    show ∃ l', _
    simp only [leaveA] at h5 ⊢
    cases hb : Nat.beq i id with
    | true => rw [hb] at h5; exact ⟨l', h1, h2, h3, h4, h5⟩
    | false => rw [hb] at h5; exact ⟨l', h1, h2, h3, h4, h5⟩
theorem KC.loop {c : Code} (h : KC E f N c l H (aft (fun l' H' => KC E f N (.loop c) l' H' Q) Q)) : KC E f N (.loop c) l H Q := by
  intro F hF
  refine WC.loop ((h F hF).mono fun o ho => ?_)
  obtain ⟨l', h1, h2, h3, h4, h5⟩ := ho
  cases he : o.e with
  | normal =>
    rw [he] at h5
    have := h5 o.F.tmps h4
    obtain ⟨e, ⟨fn, tm, df, rd⟩, Ho⟩ := o
    subst h1; subst h2; subst h3
    exact this
  | exit id => exact ⟨l', h1, h2, h3, h4, by rw [he] at h5; exact h5⟩
  | ret => exact ⟨l', h1, h2, h3, h4, by rw [he] at h5; exact h5⟩
theorem KC.loopN {c : Code} (I : Nat → Kn → AHeap → Prop) (hstep : ∀ k l H, I k l H → KC E f N c l H (aft (fun l' H' => ∃ k' l'', k' < k ∧ Sub l'' l' ∧ I k' l'' H') Q)) (k : Nat) (h0 : I k l H) : KC E f N (.loop c) l H Q := by
  induction k using Nat.strongRecOn generalizing l H with
  | ind k ih =>
    refine KC.loop ((hstep k l H h0).mono fun e l' H' he => ?_)
    cases e with
    | normal =>
      obtain ⟨k', l'', hk, hs, hi⟩ := he
      exact KC.sub hs (ih k' hk hi)
    | exit id => exact he
    | ret => exact he
def args0 : Nat → List Value → Kn
  | _, [] => []
  | i, v :: r => (i, v) :: args0 (i + 1) r
def kres (l : Kn) : List ResultVar → Option (List Value)
  | [] => some []
  | .tmp t :: r => (lk l t).bind fun v => (kres l r).map fun vs => v :: vs
  | _ => none
theorem kres_ok {P : Program} {F : Fr} {N : Nat} {l : Kn} {H : AHeap} (h : Knows F N l) : ∀ {rs : List ResultVar} {vs : List Value}, kres l rs = some vs → resultsA P F H rs = some vs
  | [], _, hv => hv
  | .tmp t :: r, vs, hv => by
    simp only [kres, Option.bind_eq_some_iff, Option.map_eq_some_iff] at hv
    obtain ⟨v, h1, us, h2, rfl⟩ := hv
    simp only [resultsA, resultA, h.2 t v h1, Option.bind_some, kres_ok h h2, Option.map_some]
theorem putArgs_getk : ∀ (vs : List Value) (i : Nat) (t : Tr Value) (j : Nat), (putArgs vs i t).get j = if i ≤ j ∧ j < i + vs.length then vs[j - i]? else t.get j
  | [], i, t, j => by simp only [putArgs, List.length_nil]; rw [if_neg (by omega)]
  | v :: r, i, t, j => by
    simp only [putArgs]
    rw [putArgs_getk r (Nat.succ i) _ j]
    by_cases h : j = i
    · subst h
      rw [if_neg (by omega), Tr.get_put _ _ _ _ _ (Nat.lt_succ_self j), if_pos rfl, if_pos (by simp only [List.length_cons]; omega)]
      simp
    · rw [Tr.get_put _ _ _ _ _ (Nat.lt_succ_self i), if_neg h]
      by_cases h2 : i + 1 ≤ j ∧ j < i + 1 + r.length
      · rw [if_pos h2, if_pos (by simp only [List.length_cons]; omega)]
        have : j - i = (j - Nat.succ i) + 1 := by omega
        rw [this, List.getElem?_cons_succ]
      · rw [if_neg (by simpa [Nat.succ_eq_add_one] using h2), if_neg (by simp only [List.length_cons]; omega)]
theorem args0_lk : ∀ (vs : List Value) (i j : Nat) (v : Value), lk (args0 i vs) j = some v → i ≤ j ∧ vs[j - i]? = some v
  | [], _, _, _, h => by cases h
  | u :: r, i, j, v, h => by
    simp only [args0, lk] at h
    cases hb : Nat.beq i j with
    | true =>
      rw [hb] at h
      have := Nat.eq_of_beq_eq_true hb
      subst this
      exact ⟨Nat.le_refl _, by simpa using h⟩
    | false =>
      rw [hb] at h
      obtain ⟨h1, h2⟩ := args0_lk r (i + 1) j v h
      refine ⟨by omega, ?_⟩
      have : j - i = (j - (i + 1)) + 1 := by omega
      rw [this, List.getElem?_cons_succ]
      exact h2
theorem knows0 (vs : List Value) (n : Nat) (hn : Nat.ble vs.length n = true) : Knows (frame0 vs n) n (args0 0 vs) := by
  refine ⟨by simp only [frame0, maxN, hn, cond_true], fun i v hv => ?_⟩
  obtain ⟨-, h2⟩ := args0_lk vs 0 i v hv
  have hlt := (List.getElem?_eq_some_iff.1 h2).1
  simp only [Fr.at, frame0, putArgs_getk]
  rw [if_pos (by omega), h2]; rfl
theorem WF.k {fn : Func} {c : Code} {vs : List Value} {R : Value × AHeap → Prop} (hf : E.P.funcs[f]? = some fn) (hb : fn.body = some c) (hn : Nat.ble vs.length fn.ntmps = true)
    (h : KC E f fn.ntmps c (args0 0 vs) H fun e l' H' => isExit e = false ∧ ∃ us, kres l' fn.results.toList = some us ∧ R (pack us, H')) (hs : E.sum f = none := by rfl) : WF E f vs H R := by
  refine WF.of hs hf hb ((h _ (knows0 vs _ hn)).mono fun o ho => ?_)
  obtain ⟨l', h1, h2, h3, h4, h5, us, h6, h7⟩ := ho
  refine ⟨_, ?_, h7⟩
  simp only [funcEnd, h5, cond_false, h2, closeDefs, Option.bind_some, kres_ok h4 h6, Option.map_some]
theorem WF.kc {fn : Func} {c : Code} {vs : List Value} {a : Tmp} {t : TypeId} {R : Value × AHeap → Prop} (hf : E.P.funcs[f]? = some fn) (hb : fn.body = some c) (hn : Nat.ble vs.length fn.ntmps = true) (hr : fn.results.toList = [.cell a t])
    (h : KC E f fn.ntmps c (args0 0 vs) H fun e l' H' => isExit e = false ∧ ∃ p v, lk l' a = some p ∧ loadA E.P t p H' = some v ∧ R (v, H')) (hs : E.sum f = none := by rfl) : WF E f vs H R := by
  refine WF.of hs hf hb ((h _ (knows0 vs _ hn)).mono fun o ho => ?_)
  obtain ⟨l', h1, h2, h3, h4, h5, p, v, h6, h7, h8⟩ := ho
  refine ⟨_, ?_, h8⟩
  simp only [funcEnd, h5, cond_false, h2, closeDefs, Option.bind_some, hr, resultsA, resultA, h4.2 a p h6, h7, Option.map_some, pack]
end
end Go.Eng

namespace Go.Eng
open Go
theorem wrap64 {a : Int} (h1 : -9223372036854775808 ≤ a) (h2 : a < 9223372036854775808) : IntKind.i64.wrap a = a := by
  simp [IntKind.wrap, IntKind.bits, IntKind.signed]; omega
theorem wrap_wrap (k : IntKind) (z : Int) : k.wrap (k.wrap z) = k.wrap z := by
  cases k <;> simp [IntKind.wrap, IntKind.bits, IntKind.signed] <;> omega
theorem ikBeq_self (k : IntKind) : ikBeq k k = true := by cases k <;> rfl
section
variable {E : Env} {l : Kn} {H : AHeap}
theorem PV.move {x : Operand} {v : Value} (hx : kval E.G l x = some v) : PV E l (.move x) v := by
  intro F N hF c y H; simp only [opA, kval_ok hF hx, keepH, Option.map_some]
theorem PV.assign {x : Operand} {v : Value} (hx : kval E.G l x = some v) : PV E l (.assign x) v := by
  intro F N hF c y H; simp only [opA, kval_ok hF hx, keepH, Option.map_some]
theorem PV.pick {c a b : Operand} {t : Bool} {v w : Value} (hc : kval E.G l c = some (.bool t)) (ha : kval E.G l a = some v) (hb : kval E.G l b = some w) : PV E l (.pick c a b) (if t then v else w) := by
  intro F N hF cc y H; simp only [opA, kval_ok hF hc, kval_ok hF ha, kval_ok hF hb, keepH, pickA, Option.bind_some, Option.map_some, vBool]; cases t <;> rfl
theorem PV.pickT {c a b : Operand} {v : Value} {w : Value} (hc : kval E.G l c = some (.bool true)) (ha : kval E.G l a = some v) (hb : kval E.G l b = some w) : PV E l (.pick c a b) v := PV.pick hc ha hb
theorem PV.pickF {c a b : Operand} {v : Value} {w : Value} (hc : kval E.G l c = some (.bool false)) (ha : kval E.G l a = some v) (hb : kval E.G l b = some w) : PV E l (.pick c a b) w := by
  have := PV.pick hc ha hb; simpa using this
theorem PV.nilCheck {x : Operand} {a : Addr} (hx : kval E.G l x = some (.pointer (some a))) : PV E l (.nilCheck x) (.pointer (some a)) := by
  intro F N hF c y H; simp only [opA, kval_ok hF hx, keepH, Option.bind_some, nonNil, vPtr, isNone, cond_false, Option.map_some]
def foff (P : Program) (s : TypeId) (f : Nat) : Option Nat :=
  (fieldOf P s f).bind fun fd => (sizeT P fd.type).bind fun n => bif Nat.blt 0 n then some fd.offset else none
theorem PV.fieldAddr {s : TypeId} {f : Nat} {x : Operand} {b o k : Nat} (hk : foff E.P s f = some k) (hx : kval E.G l x = some (.pointer (some ⟨b, o, none⟩))) : PV E l (.fieldAddr s x f) (.pointer (some ⟨b, o + k, none⟩)) := by
  intro F N hF c y H
  simp only [foff, Option.bind_eq_some_iff, bif_some, Option.some.injEq] at hk
  obtain ⟨fd, h1, n, h2, h3, rfl⟩ := hk
  simp only [opA, kval_ok hF hx, keepH, Option.bind_some, fieldAddrA, h1, h2, h3, cond_true, vAddr, vPtr, plainAddr, isNone, Option.map_some]
section
variable {t u : TypeId} {x y : Operand} {k : IntKind} {a b : Int}
theorem PV.bin (hx : kval E.G l x = some (.int k a)) (hy : kval E.G l y = some (.int k b)) {op : BinOp} {v : Value} (hv : binInt op t (.int k a) (.int k b) (k, a) (k, b) = some v) : PV E l (.binOp op t x y u) v := by
  intro F N hF c yy H
  simp only [opA, opBin, kval_ok hF hx, kval_ok hF hy, keepH, Option.bind_some, binA, vInt, hv, Option.map_some]
theorem PV.add (hx : kval E.G l x = some (.int k a)) (hy : kval E.G l y = some (.int k b)) {n : Int} (hn : k.wrap (a + b) = n) : PV E l (.binOp .add t x y u) (.int k n) := PV.bin hx hy (by simp only [binInt, arith, ikBeq_self, cond_true, addI_eq, hn])
theorem PV.sub (hx : kval E.G l x = some (.int k a)) (hy : kval E.G l y = some (.int k b)) {n : Int} (hn : k.wrap (a - b) = n) : PV E l (.binOp .sub t x y u) (.int k n) := PV.bin hx hy (by simp only [binInt, arith, ikBeq_self, cond_true, subI_eq, hn])
theorem PV.mul (hx : kval E.G l x = some (.int k a)) (hy : kval E.G l y = some (.int k b)) {n : Int} (hn : k.wrap (a * b) = n) : PV E l (.binOp .mul t x y u) (.int k n) := PV.bin hx hy (by simp only [binInt, arith, ikBeq_self, cond_true, mulI_eq, hn])
theorem PV.lss (hx : kval E.G l x = some (.int k a)) (hy : kval E.G l y = some (.int k b)) : PV E l (.binOp .lss t x y u) (.bool (decide (a < b))) := PV.bin hx hy (by simp only [binInt, cmpB, ikBeq_self, cond_true, ltI_eq])
theorem PV.gtr (hx : kval E.G l x = some (.int k a)) (hy : kval E.G l y = some (.int k b)) : PV E l (.binOp .gtr t x y u) (.bool (decide (b < a))) := PV.bin hx hy (by simp only [binInt, cmpB, ikBeq_self, cond_true, ltI_eq])
theorem PV.leq (hx : kval E.G l x = some (.int k a)) (hy : kval E.G l y = some (.int k b)) : PV E l (.binOp .leq t x y u) (.bool (!decide (b < a))) := PV.bin hx hy (by simp only [binInt, cmpB, ikBeq_self, cond_true, ltI_eq])
theorem PV.geq (hx : kval E.G l x = some (.int k a)) (hy : kval E.G l y = some (.int k b)) : PV E l (.binOp .geq t x y u) (.bool (!decide (a < b))) := PV.bin hx hy (by simp only [binInt, cmpB, ikBeq_self, cond_true, ltI_eq])
theorem PV.eql (hx : kval E.G l x = some (.int k a)) (hy : kval E.G l y = some (.int k b)) : PV E l (.binOp .eql t x y u) (.bool (a == b)) := PV.bin hx hy (by simp only [binInt, cmpB, ikBeq_self, cond_true, eqI_eq])
theorem PV.neq (hx : kval E.G l x = some (.int k a)) (hy : kval E.G l y = some (.int k b)) : PV E l (.binOp .neq t x y u) (.bool (!(a == b))) := PV.bin hx hy (by simp only [binInt, cmpB, ikBeq_self, cond_true, eqI_eq])
end
theorem PV.shl {t u : TypeId} {x y : Operand} {k k' : IntKind} {a b : Int} (hx : kval E.G l x = some (.int k a)) (hy : kval E.G l y = some (.int k' b)) (hb : 0 ≤ b) : PV E l (.binOp .shl t x y u) (.int k (k.wrap (a * 2 ^ (min b.toNat k.bits)))) := by
  intro F N hF c yy H
  have hb' : ¬ b < 0 := by omega
  simp only [opA, opBin, kval_ok hF hx, kval_ok hF hy, keepH, Option.bind_some, binA, vInt, binInt, binOp, Op.shift, hb', if_false]
  rfl
theorem PV.shr {t u : TypeId} {x y : Operand} {k k' : IntKind} {a b : Int} (hx : kval E.G l x = some (.int k a)) (hy : kval E.G l y = some (.int k' b)) (hb : 0 ≤ b) : PV E l (.binOp .shr t x y u) (.int k (a.fdiv (2 ^ (min b.toNat k.bits)))) := by
  intro F N hF c yy H
  have hb' : ¬ b < 0 := by omega
  simp only [opA, opBin, kval_ok hF hx, kval_ok hF hy, keepH, Option.bind_some, binA, vInt, binInt, binOp, Op.shift, hb', if_false]
  rfl
theorem PV.not {t : TypeId} {x : Operand} {b : Bool} (hx : kval E.G l x = some (.bool b)) : PV E l (.unOp .not t x) (.bool (!b)) := by
  intro F N hF c yy H
  simp only [opA, kval_ok hF hx, keepH, Option.bind_some, unA, plain, cond_true]
  rfl
theorem PV.convert {s d : TypeId} {x : Operand} {k k0 : IntKind} {a : Int} {ds : TypeDesc} (hs : E.P.underlying s = some ds) (hd : E.P.underlying d = some (.int k)) (hx : kval E.G l x = some (.int k0 a)) : PV E l (.convert s d x) (.int k (k.wrap a)) := by
  intro F N hF c yy H
  simp only [opA, kval_ok hF hx, Option.bind_some, convA, hs, hd, dSlice, convD, dInt, convInt, vInt, Option.map_some]
theorem PV.indexAddr {T e sz : Nat} {x i : Operand} {b o len cap j : Nat} {sp : Option Nat} {k : IntKind} (hT : E.P.underlying T = some (.slice e)) (hs : sizeT E.P e = some sz)
    (hx : kval E.G l x = some (.slice (some ⟨b, o, sp⟩) len cap)) (hi : kval E.G l i = some (.int k (j : Nat))) (hj : j < len) : PV E l (.indexAddr T x i) (.pointer (some ⟨b, o + j * sz, none⟩)) := by
  intro F N hF c yy H
  simp only [opA, opIndexAddr, kval_ok hF hx, kval_ok hF hi, keepH, Option.bind_some, indexAddrA, vNat, vInt, iNat, hT, dSlice, hs, vSl, idxSl, blt_nat.2 hj, cond_true, Option.map_some]
theorem PV.indexArr {T n e sz : Nat} {x i : Operand} {b o j : Nat} {k : IntKind} (hT : E.P.underlying T = some (.array n e)) (hs : sizeT E.P e = some sz)
    (hx : kval E.G l x = some (.pointer (some ⟨b, o, none⟩))) (hi : kval E.G l i = some (.int k (j : Nat))) (hj : j < n) : PV E l (.indexAddr T x i) (.pointer (some ⟨b, o + j * sz, none⟩)) := by
  intro F N hF c yy H
  simp only [opA, opIndexAddr, kval_ok hF hx, kval_ok hF hi, keepH, Option.bind_some, indexAddrA, vNat, vInt, iNat, hT, dSlice, dArray, hs, vAddr, vPtr, plainAddr, isNone, cond_true, idxArr, blt_nat.2 hj, Option.map_some]
theorem PV.index {T n e sz : Nat} {x i : Operand} {cs : Array Value} {j : Nat} {k : IntKind} {v : Value} (hT : E.P.underlying T = some (.array n e)) (hs : sizeT E.P e = some sz)
    (hx : kval E.G l x = some (.agg cs)) (hi : kval E.G l i = some (.int k (j : Nat))) (hj : j < n) (hv : readAt E.P e cs.toList (j * sz) = some v) : PV E l (.index T x i) v := by
  intro F N hF c yy H
  simp only [opA, opIndex, kval_ok hF hx, kval_ok hF hi, keepH, Option.bind_some, indexA, vNat, vInt, iNat, hT, dString, dArray, cond_false, hs, vAgg, blt_nat.2 hj, cond_true, hv, Option.map_some]
theorem PV.extract {x : Operand} {cs : Array Value} {i : Nat} {v : Value} (hx : kval E.G l x = some (.tuple cs)) (hv : cs.toList[i]? = some v) : PV E l (.extract x i) v := by
  intro F N hF c yy H
  simp only [opA, kval_ok hF hx, keepH, Option.bind_some, extractA, vTup, hv, Option.map_some]
theorem PV.len {x : Operand} {t e : TypeId} {a : Option Addr} {n c : Nat} (ht : E.P.underlying t = some (.slice e)) (hx : kval E.G l x = some (.slice a n c)) : PV E l (.call ⟨.builtin .len, #[x], #[t]⟩) (.int .i64 (n : Int)) := by
  intro F N hF cc yy H
  have hx' : avals E.G F [x] = some [.slice a n c] := by simp only [avals, kval_ok hF hx, Option.bind_some, Option.map_some]
  show callOpA E cc yy F _ H = _
  simp only [callOpA, hx', Option.bind_some, calleeA, builtinA]
  show (bif true then keepH H (lenA E.P t (.slice a n c) H) else none) = _
  simp only [cond_true, lenA, ht, Option.bind_some, lenD, dString, cond_false, dSlice, vSl, Option.map_some, keepH, goI]
  rfl
theorem PV.cap {x : Operand} {t e : TypeId} {a : Option Addr} {n c : Nat} (ht : E.P.underlying t = some (.slice e)) (ha : exactBase a = true) (hx : kval E.G l x = some (.slice a n c)) : PV E l (.call ⟨.builtin .cap, #[x], #[t]⟩) (.int .i64 (c : Int)) := by
  intro F N hF cc yy H
  have hx' : avals E.G F [x] = some [.slice a n c] := by simp only [avals, kval_ok hF hx, Option.bind_some, Option.map_some]
  show callOpA E cc yy F _ H = _
  simp only [callOpA, hx', Option.bind_some, calleeA, builtinA]
  show (bif true then keepH H (capA E.P t (.slice a n c)) else none) = _
  simp only [cond_true, capA, elemT, ht, Option.bind_some, dSlice, vSl, ha, cond_true, Option.map_some, keepH, goI]
  rfl
theorem PV.makeFunc {f : FuncId} {a b : Array Operand} {va vb : List Value} (ha : kvals E.G l a.toList = some va) (hb : kvals E.G l b.toList = some vb) : PV E l (.makeFunc (.func f) a b) (.func (.func f) va.toArray vb.toArray) := by
  intro F N hF c yy H
  simp only [opA, keepH, makeFuncA, fnFunc, Option.bind_some, kvals_ok hF ha, kvals_ok hF hb, Option.map_some]
theorem PV.build {t : TypeId} {ps : Array (Nat × Operand)} {vs : List (Nat × Value)} {v : Value} (hp : kparts E.G l ps.toList = some vs) (hv : buildA E.P t vs = some v) : PV E l (.build t ps) v := by
  intro F N hF c yy H
  simp only [opA, keepH, opBuild, kparts_ok hF hp, Option.bind_some, hv, Option.map_some]
theorem PV.slice {t : TypeId} {x : Operand} {lo hi mx : Option Operand} {xv v : Value} {vl vh vm : Option Value} (hx : kval E.G l x = some xv)
    (hl : ∀ o, lo = some o → ∃ u, vl = some u ∧ kval E.G l o = some u) (hl0 : lo = none → vl = none)
    (hh : ∀ o, hi = some o → ∃ u, vh = some u ∧ kval E.G l o = some u) (hh0 : hi = none → vh = none)
    (hm : ∀ o, mx = some o → ∃ u, vm = some u ∧ kval E.G l o = some u) (hm0 : mx = none → vm = none)
    (hv : sliceA E.P t xv vl vh vm = some v) : PV E l (.slice t x lo hi mx) v := by
  intro F N hF c yy H
  have go : ∀ {q : Option Operand} {vq : Option Value}, (∀ o, q = some o → ∃ u, vq = some u ∧ kval E.G l o = some u) → (q = none → vq = none) → optVal E.G F q = some vq := by
    intro q vq h1 h2
    cases q with
    | none => rw [h2 rfl]; rfl
    | some o =>
      obtain ⟨u, rfl, hu⟩ := h1 o rfl
      simp only [optVal, kval_ok hF hu, Option.map_some]
  simp only [opA, keepH, opSlice, kval_ok hF hx, go hl hl0, go hh hh0, go hm hm0, Option.bind_some, hv, Option.map_some]
theorem PX.load {T : TypeId} {a : Operand} {b o : Nat} {r : Row} {v : Value} (ha : kval E.G l a = some (.pointer (some ⟨b, o, none⟩))) (hr : H.row b = some r) (hv : readAt E.P T r.cs o = some v) : PX E l H (.load T a) v H := by
  intro F N hF c yy
  simp only [opA, keepH, opLoad, kval_ok hF ha, Option.bind_some, load_row hr, hv, Option.map_some]
theorem read1 {P : Program} {T : TypeId} {cs : List Value} {o : Nat} (h : isAggT P T = some false) : readAt P T cs o = cs[o]? := by simp only [readAt, h, Option.bind_some, cond_false]
theorem readN {P : Program} {T n : Nat} {cs p : List Value} {o : Nat} (h : isAggT P T = some true) (hn : sizeT P T = some n) (hp : takeN n (cs.drop o) = some p) : readAt P T cs o = some (.agg p.toArray) := by simp only [readAt, h, Option.bind_some, cond_true, hn, hp, Option.map_some]
structure Upd (H H1 : AHeap) (b : Nat) (r : Row) : Prop where
  next : H1.next = H.next
  row : ∀ j, H1.row j = if j = b then some r else H.row j
structure New (H H1 : AHeap) (r : Row) : Prop where
  next : H1.next = H.next + 1
  row : ∀ j, H1.row j = if j = H.next then some r else H.row j
def putL (cs : List Value) (o : Nat) (vs : List Value) : List Value := cs.take o ++ (vs ++ cs.drop (o + vs.length))
theorem writeA_row {b o : Nat} {r : Row} {vs : List Value} (hr : H.row b = some r) (hw : r.rw = true) (hl : o + vs.length ≤ r.cs.length) :
    writeA H b o vs = some (H.set b (.cells r.elem r.whole true (putL r.cs o vs))) := by
  simp only [writeA, hr, Option.bind_some, hw, cond_true, putCells, ble_nat.2 hl, Option.map_some, putL]
theorem Upd.set {b : Nat} {e : TypeId} {w rw : Bool} {cs : List Value} : Upd H (H.set b (.cells e w rw cs)) b ⟨e, w, rw, cs⟩ := ⟨rfl, fun j => by rw [row_set]; rfl⟩
theorem New.new {e : TypeId} {w rw : Bool} {cs : List Value} : New H (H.new (.cells e w rw cs)) ⟨e, w, rw, cs⟩ := ⟨rfl, fun j => by rw [row_new]; rfl⟩
theorem PX.store {T : TypeId} {a v : Operand} {b o n : Nat} {u : Value} {r : Row} {vs : List Value} (ha : kval E.G l a = some (.pointer (some ⟨b, o, none⟩))) (hv : kval E.G l v = some u) (hs : sizeT E.P T = some n) (hg : goodCells u n = some vs)
    (hr : H.row b = some r) (hw : r.rw = true) (hl : o + vs.length ≤ r.cs.length) : ∃ H1, Upd H H1 b ⟨r.elem, r.whole, true, putL r.cs o vs⟩ ∧ PX E l H (.store T a v) undefV H1 := by
  refine ⟨_, Upd.set, ?_⟩
  intro F N hF c yy
  simp only [opA, skipV, opStore, kval_ok hF ha, kval_ok hF hv, Option.bind_some, storeA, vAddr, vPtr, plainAddr, isNone, cond_true, hs, hg, writeA_row hr hw hl, Option.map_some]
theorem PX.alloc {e : TypeId} {z : List Value} (hz : zeroT E.P e = some z) : ∃ H1, New H H1 ⟨e, true, true, z⟩ ∧ PX E l H (.alloc e) (.pointer (some ⟨H.next, 0, none⟩)) H1 := by
  refine ⟨_, New.new, ?_⟩
  intro F N hF c yy
  simp only [opA, opAlloc, hz, Option.map_some, newVarA]
theorem PX.box {e : TypeId} {x : Operand} {v : Value} (hx : kval E.G l x = some v) (hv : (!isTup v && (cellsV v).all oneC) = true) : ∃ H1, New H H1 ⟨e, true, true, cellsV v⟩ ∧ PX E l H (.box e x) (.pointer (some ⟨H.next, 0, none⟩)) H1 := by
  refine ⟨_, New.new, ?_⟩
  intro F N hF c yy
  simp only [opA, kval_ok hF hx, Option.bind_some, boxA, hv, cond_true, newVarA]
theorem PX.makeSlice {t e sz : Nat} {z : List Value} {a b : Operand} {n c : Nat} {k k' : IntKind} (ht : elemT E.P t = some e) (hz : elemZ E.P e = some (sz, z)) (ha : kval E.G l a = some (.int k (n : Nat))) (hb : kval E.G l b = some (.int k' (c : Nat))) (hn : n ≤ c) (hs : smallBytes E.P e = true) (hc : c ≤ 1000000000) :
    ∃ H1, New H H1 ⟨e, true, true, zerosFor z c⟩ ∧ PX E l H (.makeSlice t a b) (.slice (some ⟨H.next, 0, none⟩) n c) H1 := by
  refine ⟨_, New.new, ?_⟩
  intro F N hF cc yy
  simp only [opA, opMakeSlice, kval_ok hF ha, kval_ok hF hb, Option.bind_some, makeSliceA, ht, hz, vNat, vInt, iNat, ble_nat.2 hn, hs, ble_nat.2 hc, Bool.and_true, cond_true, newRowA]
theorem PX.buildSlice {t e sz n : Nat} {z : List Value} {ps : Array (Nat × Operand)} {vs : List (Nat × Value)} {cs : List Value} (ht : elemT E.P t = some e) (hz : elemZ E.P e = some (sz, z)) (hp : kparts E.G l ps.toList = some vs)
    (hn : Nat.ble (n * sz) 10000 = true) (hf : fillA (fun i => some (i * sz, sz)) (zerosFor z n) vs = some cs) :
    ∃ H1, New H H1 ⟨e, true, true, cs⟩ ∧ PX E l H (.buildSlice t n ps) (.slice (some ⟨H.next, 0, none⟩) n n) H1 := by
  refine ⟨_, New.new, ?_⟩
  intro F N hF cc yy
  simp only [opA, opBuildSlice, kparts_ok hF hp, Option.bind_some, buildSliceA, ht, hz, hn, cond_true, hf, Option.map_some, newRowA]
end
theorem veq_int {k : IntKind} {a : Int} : veq 100 (.int k a) (.int k a) = true := by simp [veq, vInt, ikBeq_self]
theorem addrBeq_self (a : Addr) : addrBeq a a = true := by
  obtain ⟨b, o, s⟩ := a
  cases s <;> simp [addrBeq, spotBeq]
theorem veq_sl {a : Option Addr} {n c : Nat} : veq 100 (.slice a n c) (.slice a n c) = true := by cases a <;> simp [veq, vSl, optAddrBeq, addrBeq_self]
theorem rd_int {k : IntKind} {a : Int} (b : Bool) : (b || veq 100 (.int k a) (.int k a)) = true := by rw [veq_int, Bool.or_true]
theorem past1 {H0 : AHeap} {k : Nat} {Q : AHeap → Prop} (h : Q H0) : ∀ Hp ∈ [H0].take k, Q Hp := by
  intro Hp hp
  have := List.mem_of_mem_take hp
  simp only [List.mem_singleton] at this
  rw [this]; exact h
end Go.Eng

namespace Go.Eng
open Go
def KD (E : Env) (R : DR) (N : Nat) (ord : List Nat) (l : Kn) (H : AHeap) (past : List AHeap) (done : Nat) (hs : List Nat) (Q : Kn → AHeap → Nat → List Nat → Prop) : Prop :=
  ∀ F, Knows F N l → WD E R ord ⟨F, H, past, done, hs⟩ fun s => ∃ l', Knows s.F N l' ∧ Q l' s.H s.done s.hs
section
variable {E : Env} {R : DR} {N : Nat} {ord : List Nat} {l : Kn} {H : AHeap} {past : List AHeap} {done : Nat} {hs : List Nat} {Q : Kn → AHeap → Nat → List Nat → Prop} {i : Nat}
theorem KD.nil (h : Q l H done hs) : KD E R N [] l H past done hs Q := fun _ hF => WD.nil ⟨l, hF, h⟩
theorem sameIn_pv {F : Fr} {n : Nat} {op : Op} {v : Value} (h : ∀ H, evalAt E F n H op = some (v, ⟨n, H.objs⟩)) (hv : veq 100 v v = true) : ∀ ps : List AHeap, sameIn E F n op v ps = true
  | [] => rfl
  | H :: r => by
    simp only [sameIn, h H, hv, Nat.beq_refl, Bool.and_true, Bool.true_and]
    exact sameIn_pv h hv r
theorem KD.pv {d : Nat} {op : Op} {ty : TypeId} {ps : String} {af : Array Edge} {g : Option (Nat × Bool)} {v : Value} (done' : Nat) (hp : PV E l op v) (ho : R.ops[i]? = some ⟨some d, op, ty, ps, af, g⟩) (hh : isHeavy ⟨some d, op, ty, ps, af, g⟩ = false)
    (hr : (!isRead ⟨some d, op, ty, ps, af, g⟩ || veq 100 v v) = true) (hk : stepOk R i ⟨some d, op, ty, ps, af, g⟩ done hs = true) (hw : kwant R.ops l ⟨some d, op, ty, ps, af, g⟩ = some true) (hd : Nat.blt d N = true) (hdone : Nat.lor done (2 ^ i) = done')
    (h : KD E R N ord ((d, v) :: l) H past done' hs Q) : KD E R N (i :: ord) l H past done hs Q := by
  intro F hF
  have hev : ∀ H' : AHeap, evalAt E F (R.base + i) H' op = some (v, ⟨R.base + i, H'.objs⟩) := fun H' => hp F N hF noCall noCall _
  refine WD.light ho hh hk (kwant_ok hF hw) (hev H) ?_ ?_
  · simp only [readOk]
    rw [Bool.or_eq_true] at hr ⊢
    rcases hr with hr | hr
    · exact .inl hr
    · refine .inr ?_
      rw [Bool.and_eq_true]
      exact ⟨Nat.beq_refl _, sameIn_pv hev hr _⟩
  · have := h _ (hF.set hd)
    subst hdone
    exact this
theorem KD.load {d : Nat} {T : TypeId} {a : Operand} {ty : TypeId} {ps : String} {af : Array Edge} {g : Option (Nat × Bool)} {v : Value} {b o : Nat} {r : Row} (done' : Nat) (ha : kval E.G l a = some (.pointer (some ⟨b, o, none⟩))) (hr : H.row b = some r) (hv : readAt E.P T r.cs o = some v)
    (hpast : ∀ Hp ∈ past.take (past.length - loOf R.anc R.all i), ∃ r, Hp.row b = some r ∧ readAt E.P T r.cs o = some v) (hvv : veq 100 v v = true)
    (ho : R.ops[i]? = some ⟨some d, .load T a, ty, ps, af, g⟩) (hk : stepOk R i ⟨some d, .load T a, ty, ps, af, g⟩ done hs = true) (hw : kwant R.ops l ⟨some d, .load T a, ty, ps, af, g⟩ = some true) (hd : Nat.blt d N = true) (hdone : Nat.lor done (2 ^ i) = done')
    (h : KD E R N ord ((d, v) :: l) H past done' hs Q) : KD E R N (i :: ord) l H past done hs Q := by
  intro F hF
  have hev : ∀ (H' : AHeap) (r : Row), H'.row b = some r → readAt E.P T r.cs o = some v → evalAt E F (R.base + i) H' (.load T a) = some (v, ⟨R.base + i, H'.objs⟩) := fun H' r hr hv => PX.load (H := ⟨R.base + i, H'.objs⟩) ha (r := r) hr hv F N hF noCall noCall
  refine WD.light ho rfl hk (kwant_ok hF hw) (hev H r hr hv) ?_ ?_
  · simp only [readOk]
    rw [Bool.or_eq_true]
    refine .inr ?_
    rw [Bool.and_eq_true]
    refine ⟨Nat.beq_refl _, ?_⟩
    revert hpast
    generalize past.take (past.length - loOf R.anc R.all i) = pp
    intro hpast
    induction pp with
    | nil => rfl
    | cons Hp rest ih =>
      obtain ⟨r', h1, h2⟩ := hpast Hp (List.mem_cons_self)
      simp only [sameIn, hev Hp r' h1 h2, hvv, Nat.beq_refl, Bool.true_and]
      exact ih fun H' hm => hpast H' (List.mem_cons_of_mem _ hm)
  · have := h _ (hF.set hd)
    subst hdone
    exact this
theorem KD.new {d : Nat} {op : Op} {ty : TypeId} {ps : String} {af : Array Edge} {g : Option (Nat × Bool)} {v : Value} {H1 : AHeap} {r : Row} (done' : Nat) (hn : New ⟨R.base + i, H.objs⟩ H1 r) (hp : PX E l ⟨R.base + i, H.objs⟩ op v H1) (ho : R.ops[i]? = some ⟨some d, op, ty, ps, af, g⟩) (hh : isHeavy ⟨some d, op, ty, ps, af, g⟩ = false)
    (hr : isRead ⟨some d, op, ty, ps, af, g⟩ = false) (hk : stepOk R i ⟨some d, op, ty, ps, af, g⟩ done hs = true) (hw : kwant R.ops l ⟨some d, op, ty, ps, af, g⟩ = some true) (hd : Nat.blt d N = true) (hdone : Nat.lor done (2 ^ i) = done')
    (h : ∀ H2, Upd H H2 (R.base + i) r → KD E R N ord ((d, v) :: l) H2 past done' hs Q) : KD E R N (i :: ord) l H past done hs Q := by
  intro F hF
  refine WD.light ho hh hk (kwant_ok hF hw) (p := (v, H1)) (hp F N hF noCall noCall) ?_ ?_
  · simp only [readOk, hr, Bool.not_false, Bool.true_or]
  · have := h ⟨H.next, H1.objs⟩ ⟨rfl, fun j => hn.row j⟩ _ (hF.set hd)
    subst hdone
    exact this
theorem KD.skip {o : Oper} {d : Nat} (done' : Nat) (ho : R.ops[i]? = some o) (hod : o.dst = some d) (hh : isHeavy o = false) (hk : stepOk R i o done hs = true) (hw : kwant R.ops l o = some false) (hd : Nat.blt d N = true) (hdone : Nat.lor done (2 ^ i) = done')
    (h : KD E R N ord ((d, undefV) :: l) H past done' hs Q) : KD E R N (i :: ord) l H past done hs Q := by
  intro F hF
  refine WD.lightSkip ho hh hk (kwant_ok hF hw) ?_
  have := h _ (hF.set hd)
  subst hdone
  rw [hod]
  exact this
theorem KD.skipH {o : Oper} {d : Nat} (done' : Nat) (ho : R.ops[i]? = some o) (hod : o.dst = some d) (hh : isHeavy o = true) (hk : stepOk R i o done hs = true) (hw : kwant R.ops l o = some false) (hd : Nat.blt d N = true) (hdone : Nat.lor done (2 ^ i) = done')
    (h : KD E R N ord ((d, undefV) :: l) H (H :: past) done' hs.tail Q) : KD E R N (i :: ord) l H past done hs Q := by
  intro F hF
  refine WD.heavySkip ho hh hk (kwant_ok hF hw) ?_
  have := h _ (hF.set hd)
  subst hdone
  rw [hod]
  exact this
theorem KD.px {d : Nat} {op : Op} {ty : TypeId} {ps : String} {af : Array Edge} {g : Option (Nat × Bool)} {v : Value} {H1 : AHeap} (done' : Nat) (hp : PX E l H op v H1) (ho : R.ops[i]? = some ⟨some d, op, ty, ps, af, g⟩) (hh : isHeavy ⟨some d, op, ty, ps, af, g⟩ = true)
    (hk : stepOk R i ⟨some d, op, ty, ps, af, g⟩ done hs = true) (hw : kwant R.ops l ⟨some d, op, ty, ps, af, g⟩ = some true) (hd : Nat.blt d N = true) (hdone : Nat.lor done (2 ^ i) = done')
    (h : KD E R N ord ((d, v) :: l) H1 (H1 :: past) done' hs.tail Q) : KD E R N (i :: ord) l H past done hs Q := by
  intro F hF
  refine WD.heavy ho hh hk (kwant_ok hF hw) (WP.of (fun c y => hp F N hF c y) ?_)
  have := h _ (hF.set hd)
  subst hdone
  exact this
theorem KD.pn {op : Op} {ty : TypeId} {ps : String} {af : Array Edge} {g : Option (Nat × Bool)} {v : Value} {H1 : AHeap} (done' : Nat) (hp : PX E l H op v H1) (ho : R.ops[i]? = some ⟨none, op, ty, ps, af, g⟩) (hh : isHeavy ⟨none, op, ty, ps, af, g⟩ = true)
    (hk : stepOk R i ⟨none, op, ty, ps, af, g⟩ done hs = true) (hw : kwant R.ops l ⟨none, op, ty, ps, af, g⟩ = some true) (hdone : Nat.lor done (2 ^ i) = done')
    (h : KD E R N ord l H1 (H1 :: past) done' hs.tail Q) : KD E R N (i :: ord) l H past done hs Q := by
  intro F hF
  refine WD.heavy ho hh hk (kwant_ok hF hw) (WP.of (fun c y => hp F N hF c y) ?_)
  have := h _ hF
  subst hdone
  exact this
theorem KD.call {d : Nat} {f : FuncId} {aos : Array Operand} {ts : Array TypeId} {ty : TypeId} {ps : String} {af : Array Edge} {g : Option (Nat × Bool)} {vs : List Value} {Q0 : Value × AHeap → Prop} (done' : Nat)
    (ho : R.ops[i]? = some ⟨some d, .call ⟨.value (.func f), aos, ts⟩, ty, ps, af, g⟩) (hx : E.ext f = none) (ha : kvals E.G l aos.toList = some vs) (hk : stepOk R i ⟨some d, .call ⟨.value (.func f), aos, ts⟩, ty, ps, af, g⟩ done hs = true) (hw : kwant R.ops l ⟨some d, .call ⟨.value (.func f), aos, ts⟩, ty, ps, af, g⟩ = some true) (hd : Nat.blt d N = true) (hdone : Nat.lor done (2 ^ i) = done')
    (hf : WF E f vs H Q0) (h : ∀ v H1, Q0 (v, H1) → KD E R N ord ((d, v) :: l) H1 (H1 :: past) done' hs.tail Q) : KD E R N (i :: ord) l H past done hs Q := by
  intro F hF
  refine WD.heavy ho rfl hk (kwant_ok hF hw) (WP.call rfl hx (kvals_ok hF ha) (hf.mono fun r hr => ?_))
  have := h _ _ hr _ (hF.set hd)
  subst hdone
  exact this
theorem KD.callV {d : Nat} {t : Tmp} {f : FuncId} {a b : Array Value} {aos : Array Operand} {ts : Array TypeId} {ty : TypeId} {ps : String} {af : Array Edge} {g : Option (Nat × Bool)} {vs : List Value} {Q0 : Value × AHeap → Prop} (done' : Nat)
    (ho : R.ops[i]? = some ⟨some d, .call ⟨.value (.tmp t), aos, ts⟩, ty, ps, af, g⟩) (hkv : lk l t = some (.func (.func f) a b)) (hx : E.ext f = none) (ha : kvals E.G l aos.toList = some vs) (hk : stepOk R i ⟨some d, .call ⟨.value (.tmp t), aos, ts⟩, ty, ps, af, g⟩ done hs = true) (hw : kwant R.ops l ⟨some d, .call ⟨.value (.tmp t), aos, ts⟩, ty, ps, af, g⟩ = some true) (hd : Nat.blt d N = true) (hdone : Nat.lor done (2 ^ i) = done')
    (hf : WF E f (a.toList ++ (vs ++ b.toList)) H Q0) (h : ∀ v H1, Q0 (v, H1) → KD E R N ord ((d, v) :: l) H1 (H1 :: past) done' hs.tail Q) : KD E R N (i :: ord) l H past done hs Q := by
  intro F hF
  refine WD.heavy ho rfl hk (kwant_ok hF hw) (WP.callV rfl (hF.2 t _ hkv) hx (kvals_ok hF ha) (hf.mono fun r hr => ?_))
  have := h _ _ hr _ (hF.set hd)
  subst hdone
  exact this
end
theorem KC.draw {E : Env} {f : FuncId} {N n : Nat} {l : Kn} {H : AHeap} {Q : AExit → Kn → AHeap → Prop} {id : Nat} {ops : Array Oper} {anc hv ord : List Nat}
    (hanc : ancA ops.toList [] = anc) (hhv : heavies ops.toList 0 = hv) (hn : ops.toList.length = n) (hord : canon n anc hv hv 0 = ord)
    (hchk : (edgesOk ops.toList 0 && chainOk anc hv && tmpsOk ops.toList anc ops.toList 0) = true)
    (h : ∀ H0, H0.next = H.next + n → (∀ j, H0.row j = H.row j) → KD E ⟨ops.toList, anc, hv, H.next⟩ N ord l H0 [H0] 0 hv fun l' H' d hs => (Nat.beq d (2 ^ n - 1) && hs.isEmpty) = true ∧ Q .normal l' H') : KC E f N (.region id ops true) l H Q := by
  intro F hF
  subst hanc; subst hhv; subst hn
  refine WC.draw hord hchk ?_
  obtain ⟨k, w⟩ := h ⟨H.next + ops.toList.length, H.objs⟩ rfl (fun _ => rfl) F hF
  exact ⟨k, w.mono fun s hs => by
    obtain ⟨l', a, b, c⟩ := hs
    exact ⟨b, l', rfl, rfl, rfl, a, c⟩⟩
end Go.Eng

namespace Go.Eng
open Go
def Lst (H : AHeap) (e sz : Nat) (v : Value) (cs : List Value) (D : List Nat) : Prop :=
  (v = .slice none 0 0 ∧ cs = [] ∧ D = []) ∨ ∃ b n, v = .slice (some ⟨b, 0, some sz⟩) n n ∧ H.row b = some ⟨e, false, true, cs⟩ ∧ cs.length = n * sz ∧ D = [b]
theorem Lst.frame {H H' : AHeap} {e sz : Nat} {v : Value} {cs : List Value} {D : List Nat} (h : Lst H e sz v cs D) (hr : ∀ j ∈ D, H'.row j = H.row j) : Lst H' e sz v cs D := by
  rcases h with h | ⟨b, n, h1, h2, h3, rfl⟩
  · exact .inl h
  · exact .inr ⟨b, n, h1, by rw [hr b (List.mem_cons_self)]; exact h2, h3, rfl⟩
theorem Lst.nil {H : AHeap} {e sz : Nat} : Lst H e sz (.slice none 0 0) [] [] := .inl ⟨rfl, rfl, rfl⟩
theorem Lst.one {H : AHeap} {e sz : Nat} {v : Value} {cs : List Value} {D : List Nat} (h : Lst H e sz v cs D) : goodCells v 1 = some [v] := by
  rcases h with ⟨rfl, -⟩ | ⟨b, n, rfl, -⟩ <;> rfl
theorem Lst.veq {H : AHeap} {e sz : Nat} {v : Value} {cs : List Value} {D : List Nat} (h : Lst H e sz v cs D) : veq 100 v v = true := by
  rcases h with ⟨rfl, -⟩ | ⟨b, n, rfl, -⟩ <;> exact veq_sl
theorem takeN_of {n : Nat} {l p : List Value} (h : l.take n = p) (hl : p.length = n) : takeN n l = some p := by
  simp only [takeN, h, hl, Nat.beq_refl, cond_true]
theorem newElems_of {sz n c b o : Nat} {sp : Option Nat} {H : AHeap} {r : Row} {new : List Value} (hr : H.row b = some r) (ht : (r.cs.drop o).take (n * sz) = new) (hl : new.length = n * sz) (ho : new.all oneC = true) :
    newElems sz (.slice (some ⟨b, o, sp⟩) n c) H = some (n, new) := by
  simp only [newElems, lenV, vSl, Option.bind_some, firstCellsA, firstSl, rowCells, ble_nat.2 (Nat.le_refl n), cond_true]
  cases hb : Nat.beq (n * sz) 0 with
  | true =>
    have h0 := Nat.eq_of_beq_eq_true hb
    have : new = [] := List.length_eq_zero_iff.1 (by rw [hl, h0])
    subst this; rfl
  | false => simp only [cond_false, hr, Option.bind_some, takeN_of ht hl, ho, cond_true]
theorem newElems_one {b c : Nat} {H : AHeap} {r : Row} {v : Value} (hr : H.row b = some r) (hc : r.cs = [v]) (hv : oneC v = true) : newElems 1 (.slice (some ⟨b, 0, none⟩) 1 c) H = some (1, [v]) :=
  newElems_of hr (by rw [hc]; rfl) rfl (by simp [hv])
theorem newElems_nil {sz c : Nat} {H : AHeap} : newElems sz (.slice none 0 c) H = some (0, []) := by
  simp [newElems, lenV, vSl, firstCellsA, firstSl]
section
variable {P : Program} {H : AHeap} {t tx e ex sz : Nat} {z : List Value} {x sv : Value} {cs new : List Value} {D : List Nat} {n : Nat}
theorem app_lst (h : Lst H e sz sv cs D) (ht : elemT P t = some e) (hz : elemZ P e = some (sz, z)) (hsb : smallBytes P e = true) (htx : P.underlying tx = some (.slice ex)) (hx : newElems sz x H = some (n, new)) (hnl : new.length = n * sz) (hcs : cs.all oneC = true)
    (hlim : cs.length + new.length ≤ 1000000000) :
    ∃ v' H1 D', appendA P [t, tx] [sv, x] H = some (v', H1) ∧ Lst H1 e sz v' (cs ++ new) D' ∧ H.next ≤ H1.next ∧ (∀ j, j ∉ D → j < H.next → H1.row j = H.row j) ∧ (∀ j ∈ D', j ∈ D ∨ (H.next ≤ j ∧ j < H1.next)) := by
  have hsz : 0 < sz := by
    simp only [elemZ, Option.bind_eq_some_iff, bif_some, Bool.and_eq_true, blt_nat, Option.some.injEq, Prod.mk.injEq] at hz
    obtain ⟨k, -, zz, -, ⟨h0, -⟩, rfl, -⟩ := hz
    exact h0
  have hq : newCellsA P tx (sz, z) x H = some (n, new) := by
    simp only [newCellsA, htx, Option.bind_some, dInt, dString, dSlice, isNone, Bool.not_false, Bool.false_or, cond_true, hx]
  have start : ∀ s : Sl, sv = .slice s.base s.len s.cap → appendA P [t, tx] [sv, x] H = (bif smallBytes P e && Nat.ble (s.len + n) 1000000000 then (bif Nat.ble (s.len + n) s.cap then appIn H sz s n new else appOut H e sz s n new) else none) := by
    rintro ⟨a, l, c⟩ rfl
    show (bif true then (elemT P t).bind fun e => (vSl _).bind fun s => appendE P e tx s x H else none) = _
    simp only [cond_true, ht, Option.bind_some, vSl, appendE, hz, hq]
  have mul_le : n ≤ n * sz := Nat.le_mul_of_pos_right n hsz
  rcases h with ⟨rfl, rfl, rfl⟩ | ⟨b, m, rfl, hb, hm, rfl⟩
  · rw [start ⟨none, 0, 0⟩ rfl]
    have h1 : n ≤ 1000000000 := by rw [hnl] at hlim; simp only [List.length_nil] at hlim; omega
    simp only [hsb, Nat.zero_add, ble_nat.2 h1, Bool.and_self, cond_true, appIn, appOut]
    by_cases h0 : n = 0
    · subst h0
      have : new = [] := List.length_eq_zero_iff.1 (by rw [hnl]; simp)
      subst this
      refine ⟨_, H, [], rfl, ?_, Nat.le_refl _, fun _ _ _ => rfl, fun j hj => absurd hj (List.not_mem_nil)⟩
      exact .inl ⟨rfl, rfl, rfl⟩
    · have hble : Nat.ble n 0 = false := by
        cases hc : Nat.ble n 0 with
        | false => rfl
        | true => exact absurd (ble_nat.1 hc) (by omega)
      simp only [hble, cond_false]
      refine ⟨_, _, [H.next], rfl, ?_, ?_, ?_, ?_⟩
      · refine .inr ⟨H.next, n, rfl, ?_, hnl, rfl⟩
        rw [row_new, if_pos rfl]; rfl
      · exact Nat.le_succ _
      · intro j _ hj
        rw [row_new, if_neg (by omega)]
      · intro j hj
        simp only [List.mem_singleton] at hj
        subst hj
        exact .inr ⟨Nat.le_refl _, Nat.lt_succ_self _⟩
  · rw [start ⟨some ⟨b, 0, some sz⟩, m, m⟩ rfl]
    have mm : m ≤ m * sz := Nat.le_mul_of_pos_right m hsz
    have h1 : m + n ≤ 1000000000 := by rw [hnl, hm] at hlim; omega
    simp only [hsb, ble_nat.2 h1, Bool.and_self, cond_true, appIn, appOut]
    by_cases h0 : n = 0
    · subst h0
      have : new = [] := List.length_eq_zero_iff.1 (by rw [hnl]; simp)
      subst this
      simp only [Nat.add_zero, ble_nat.2 (Nat.le_refl m), cond_true, Nat.beq_refl, blt_nat_false.2 (Nat.le_refl m), cond_false]
      exact ⟨_, H, [b], rfl, .inr ⟨b, m, rfl, by rw [List.append_nil]; exact hb, by rw [List.append_nil]; exact hm, rfl⟩, Nat.le_refl _, fun _ _ _ => rfl, fun j hj => .inl hj⟩
    · have hble : Nat.ble (m + n) m = false := by
        cases hc : Nat.ble (m + n) m with
        | false => rfl
        | true => exact absurd (ble_nat.1 hc) (by omega)
      simp only [hble, cond_false, isNone, Bool.false_and, appOld, hb, Option.bind_some, List.drop_zero, takeN_of (l := cs) (n := m * sz) (p := cs) (by rw [← hm, List.take_length]) hm, hcs, cond_true, isNone, spotIs, Nat.beq_refl, Bool.and_self]
      refine ⟨_, _, [H.next], rfl, ?_, ?_, ?_, ?_⟩
      · refine .inr ⟨H.next, m + n, rfl, ?_, by rw [List.length_append, hm, hnl, Nat.add_mul], rfl⟩
        show ((H.drop b).new _).row H.next = _
        have hn : (H.drop b).next = H.next := rfl
        rw [row_new, hn, if_pos rfl]; rfl
      · exact Nat.le_succ _
      · intro j hjb hj
        show ((H.drop b).new _).row j = _
        have hn : (H.drop b).next = H.next := rfl
        rw [row_new, hn, if_neg (by omega), row_drop, if_neg (by simpa using hjb)]
      · intro j hj
        simp only [List.mem_singleton] at hj
        subst hj
        exact .inr ⟨Nat.le_refl _, Nat.lt_succ_self _⟩
theorem PX.append {E : Env} {l : Kn} {a b : Operand} (h : Lst H e sz sv cs D) (ha : kval E.G l a = some sv) (hb : kval E.G l b = some x) (ht : elemT E.P t = some e) (hz : elemZ E.P e = some (sz, z)) (hsb : smallBytes E.P e = true) (htx : E.P.underlying tx = some (.slice ex)) (hx : newElems sz x H = some (n, new)) (hnl : new.length = n * sz) (hcs : cs.all oneC = true)
    (hlim : cs.length + new.length ≤ 1000000000) :
    ∃ v' H1 D', PX E l H (.call ⟨.builtin .append, #[a, b], #[t, tx]⟩) v' H1 ∧ Lst H1 e sz v' (cs ++ new) D' ∧ H.next ≤ H1.next ∧ (∀ j, j ∉ D → j < H.next → H1.row j = H.row j) ∧ (∀ j ∈ D', j ∈ D ∨ (H.next ≤ j ∧ j < H1.next)) := by
  obtain ⟨v', H1, D', h1, h2⟩ := app_lst h ht hz hsb htx hx hnl hcs hlim
  refine ⟨v', H1, D', ?_, h2⟩
  intro F N hF cc yy
  have hx' : avals E.G F [a, b] = some [sv, x] := by simp only [avals, kval_ok hF ha, kval_ok hF hb, Option.bind_some, Option.map_some]
  show callOpA E cc yy F _ H = _
  simp only [callOpA, hx', Option.bind_some, calleeA, builtinA, h1]
end
end Go.Eng

namespace Go.Eng
open Go
inductive Sh where
  | num (k : IntKind) | bool | str
  | list (sz : Nat) (s : Sh)
  | nil | fld (off : Nat) (s rest : Sh)
def Sh.cells : Sh → List Nat
  | .num _ | .bool | .str | .list _ _ => [0]
  | .nil => []
  | .fld off s r => (s.cells.map (off + ·)) ++ r.cells
def Sh.ok : Sh → Bool
  | .num _ | .bool | .str | .nil => true
  | .list sz s => s.ok && s.cells.all fun i => Nat.blt i sz
  | .fld off s r => s.ok && r.ok && s.cells.all fun i => !(r.cells.contains (off + i))
def Sh.bools : Sh → Bool
  | .bool => true
  | .num _ | .str | .nil => false
  | .list _ s => s.bools
  | .fld _ s r => s.bools || r.bools
abbrev Rdr := List Value → Nat → List Int → List ByteArray → List Nat → Prop
def RdN (R : Rdr) (cs : List Value) (sz : Nat) : Nat → Nat → List Int → List ByteArray → List Nat → Prop
  | 0, _, ns, ss, D => ns = [] ∧ ss = [] ∧ D = []
  | n + 1, o, ns, ss, D => ∃ n1 s1 D1 n2 s2 D2, R cs o n1 s1 D1 ∧ RdN R cs sz n (o + sz) n2 s2 D2 ∧ ns = n1 ++ n2 ∧ ss = s1 ++ s2 ∧ D = D1 ++ D2
structure Md where
  r : Bool
  w : Bool
  k : Bool
def Wm (md : Md) (r : Row) : Prop := r.rw = true ∨ (md.k = true ∧ r.whole = true)
theorem Wm.rw {md : Md} {r : Row} (h : Wm md r) (hk : md.k = false) : r.rw = true := by
  rcases h with h | ⟨h, -⟩
  · exact h
  · rw [hk] at h; cases h
def cnt (room : Bool) (len cap : Nat) : Nat := if room then cap else len
def Rd (H : AHeap) (room : Md) : Sh → Rdr
  | .num k, cs, o, ns, ss, D => ∃ v, cs[o]? = some (.int k v) ∧ k.wrap v = v ∧ ns = [IntKind.i64.wrap v] ∧ ss = [] ∧ D = []
  | .bool, cs, o, ns, ss, D => ∃ b : Bool, cs[o]? = some (.bool b) ∧ ns = [if b then 1 else 0] ∧ ss = [] ∧ D = []
  | .str, cs, o, ns, ss, D => ∃ s, cs[o]? = some (.string s) ∧ ns = [] ∧ ss = [s] ∧ D = []
  | .list sz s, cs, o, ns, ss, D => ∃ a len cap, cs[o]? = some (.slice a len cap) ∧ (len ≤ cap ∧ cnt room.r len cap ≤ 1000000000) ∧ (room.r = true → exactBase a = true) ∧ ∃ ns', ns = (len : Int) :: ns' ∧
      ((cnt room.r len cap = 0 ∧ ns' = [] ∧ ss = [] ∧ D = []) ∨ ∃ b off sp r D', a = some ⟨b, off, sp⟩ ∧ H.row b = some r ∧ (room.w = true → Wm room r) ∧ D = b :: D' ∧ RdN (Rd H room s) r.cs sz (cnt room.r len cap) off ns' ss D')
  | .nil, _, _, ns, ss, D => ns = [] ∧ ss = [] ∧ D = []
  | .fld off s r, cs, o, ns, ss, D => ∃ n1 s1 D1 n2 s2 D2, Rd H room s cs (o + off) n1 s1 D1 ∧ Rd H room r cs o n2 s2 D2 ∧ ns = n1 ++ n2 ∧ ss = s1 ++ s2 ∧ D = D1 ++ D2
theorem RdN.imp {R R' : Rdr} {cs cs' : List Value} {sz : Nat} : ∀ {n o : Nat} {ns : List Int} {ss : List ByteArray} {D : List Nat},
    (∀ i < n, ∀ ns ss D', (∀ j ∈ D', j ∈ D) → R cs (o + i * sz) ns ss D' → R' cs' (o + i * sz) ns ss D') → RdN R cs sz n o ns ss D → RdN R' cs' sz n o ns ss D
  | 0, _, _, _, _, _, h => h
  | n + 1, o, ns, ss, D, hi, h => by
    obtain ⟨n1, s1, D1, n2, s2, D2, h1, h2, rfl, rfl, rfl⟩ := h
    refine ⟨n1, s1, D1, n2, s2, D2, ?_, ?_, rfl, rfl, rfl⟩
    · have := hi 0 (Nat.succ_pos n) n1 s1 D1 (fun j hj => List.mem_append_left _ hj)
      simp only [Nat.zero_mul, Nat.add_zero] at this
      exact this h1
    · refine RdN.imp (fun i hin ns ss D' hD hr => ?_) h2
      have := hi (i + 1) (Nat.succ_lt_succ hin) ns ss D' (fun j hj => List.mem_append_right _ (hD j hj))
      have e : o + sz + i * sz = o + (i + 1) * sz := by rw [Nat.add_mul]; omega
      rw [e] at hr ⊢
      exact this hr
theorem Rd.congr {H H' : AHeap} {room : Md} : ∀ {s : Sh} {cs cs' : List Value} {o : Nat} {ns : List Int} {ss : List ByteArray} {D : List Nat},
    (∀ j ∈ D, H'.row j = H.row j) → (∀ i ∈ s.cells, cs'[o + i]? = cs[o + i]?) → Rd H room s cs o ns ss D → Rd H' room s cs' o ns ss D
  | .num k, cs, cs', o, ns, ss, D, _, hc, h => by
    obtain ⟨v, h1, h2⟩ := h
    exact ⟨v, by have := hc 0 (by simp [Sh.cells]); rw [Nat.add_zero] at this; rw [this]; exact h1, h2⟩
  | .bool, cs, cs', o, ns, ss, D, _, hc, h => by
    obtain ⟨v, h1, h2⟩ := h
    exact ⟨v, by have := hc 0 (by simp [Sh.cells]); rw [Nat.add_zero] at this; rw [this]; exact h1, h2⟩
  | .str, cs, cs', o, ns, ss, D, _, hc, h => by
    obtain ⟨v, h1, h2⟩ := h
    exact ⟨v, by have := hc 0 (by simp [Sh.cells]); rw [Nat.add_zero] at this; rw [this]; exact h1, h2⟩
  | .list sz s, cs, cs', o, ns, ss, D, hr, hc, h => by
    obtain ⟨a, len, cap, h1, h2, h3, ns', h4, h5⟩ := h
    refine ⟨a, len, cap, by have := hc 0 (by simp [Sh.cells]); rw [Nat.add_zero] at this; rw [this]; exact h1, h2, h3, ns', h4, ?_⟩
    rcases h5 with h5 | ⟨b, off, sp, r, D', k1, k2, k3, rfl, k5⟩
    · exact .inl h5
    · exact .inr ⟨b, off, sp, r, D', k1, by rw [hr b List.mem_cons_self]; exact k2, k3, rfl, RdN.imp (fun i _ ns ss D'' hD hh => Rd.congr (fun j hj => hr j (List.mem_cons_of_mem _ (hD j hj))) (fun _ _ => rfl) hh) k5⟩
  | .nil, _, _, _, _, _, _, _, _, h => h
  | .fld off s r, cs, cs', o, ns, ss, D, hr, hc, h => by
    obtain ⟨n1, s1, D1, n2, s2, D2, h1, h2, rfl, rfl, rfl⟩ := h
    refine ⟨n1, s1, D1, n2, s2, D2, Rd.congr (fun j hj => hr j (List.mem_append_left _ hj)) (fun i hi => ?_) h1, Rd.congr (fun j hj => hr j (List.mem_append_right _ hj)) (fun i hi => ?_) h2, rfl, rfl, rfl⟩
    · have := hc (off + i) (by simp only [Sh.cells, List.mem_append, List.mem_map]; exact .inl ⟨i, hi, rfl⟩)
      rw [Nat.add_assoc]; exact this
    · exact hc i (by simp only [Sh.cells, List.mem_append]; exact .inr hi)
theorem Rd.frame {H H' : AHeap} {room : Md} {s : Sh} {cs : List Value} {o : Nat} {ns : List Int} {ss : List ByteArray} {D : List Nat} (hr : ∀ j ∈ D, H'.row j = H.row j) (h : Rd H room s cs o ns ss D) : Rd H' room s cs o ns ss D :=
  Rd.congr hr (fun _ _ => rfl) h
theorem RdN.frame {H H' : AHeap} {room : Md} {s : Sh} {cs : List Value} {sz n o : Nat} {ns : List Int} {ss : List ByteArray} {D : List Nat} (hr : ∀ j ∈ D, H'.row j = H.row j) (h : RdN (Rd H room s) cs sz n o ns ss D) : RdN (Rd H' room s) cs sz n o ns ss D :=
  RdN.imp (fun _ _ _ _ _ hD hh => Rd.frame (fun j hj => hr j (hD j hj)) hh) h
structure Eye (tI tS : TypeId) (H : AHeap) (be oe : Nat) (ns : List Int) (ss : List ByteArray) (mark room : Bool) (at_ : Int) (r : Row) (Fn Fs : List Nat) : Prop where
  row : H.row be = some r
  rw : r.rw = true
  n : ∃ v, r.cs[oe]? = some v ∧ Lst H tI 1 v (ns.map (Value.int .i64)) Fn
  s : ∃ v, r.cs[oe + 1]? = some v ∧ Lst H tS 1 v (ss.map Value.string) Fs
  mark : r.cs[oe + 2]? = some (.bool mark)
  at_ : r.cs[oe + 3]? = some (.int .i64 at_)
  room : r.cs[oe + 4]? = some (.bool room)
  bn : be ∉ Fn
  bs : be ∉ Fs
  dis : ∀ j ∈ Fn, j ∉ Fs
  ltb : be < H.next
  ltn : ∀ j ∈ Fn, j < H.next
  lts : ∀ j ∈ Fs, j < H.next
theorem ints_one (ns : List Int) : (ns.map (Value.int .i64)).all oneC = true := by
  induction ns with
  | nil => rfl
  | cons a l ih => simp only [List.map_cons, List.all_cons, ih, oneC, Bool.and_self]
structure Seen (tI tS : TypeId) (s : Sh) (H : AHeap) (be oe : Nat) (n0 : List Int) (s0 : List ByteArray) (mark : Bool) (room : Md) (re : Row) (Fn Fs : List Nat) (bx o : Nat) (rx : Row) (ns : List Int) (ss : List ByteArray) (D : List Nat) (H' : AHeap) : Prop where
  ex : ∃ ns' ss' at' re' Fn' Fs' cs', Eye tI tS H' be oe (n0 ++ ns') (s0 ++ ss') mark room.r at' re' Fn' Fs' ∧ H'.row bx = some ⟨rx.elem, rx.whole, rx.rw, cs'⟩ ∧ Rd H' room s cs' o ns' ss' D ∧ cs'.length = rx.cs.length ∧
    (∀ i, (∀ k ∈ s.cells, i ≠ o + k) → cs'[i]? = rx.cs[i]?) ∧ ns'.length = ns.length ∧ ss'.length = ss.length ∧
    (mark = false → ns' = ns ∧ ss' = ss ∧ cs' = rx.cs ∧ ∀ j ∈ D, H'.row j = H.row j) ∧
    re'.elem = re.elem ∧ re'.whole = re.whole ∧ re'.cs.length = re.cs.length ∧ (∀ i, i ≠ oe → i ≠ oe + 1 → i ≠ oe + 3 → re'.cs[i]? = re.cs[i]?) ∧
    (∀ j ∈ Fn', j ∈ Fn ∨ H.next ≤ j) ∧ (∀ j ∈ Fs', j ∈ Fs ∨ H.next ≤ j)
  next : H.next ≤ H'.next
  keep : ∀ j, j < H.next → j ≠ be → j ∉ Fn → j ∉ Fs → j ≠ bx → j ∉ D → H'.row j = H.row j
def SeeOK (E : Env) (tI tS : TypeId) (f : FuncId) (s : Sh) : Prop :=
  ∀ H be oe n0 s0 mark room at_ re Fn Fs bx o rx ns ss D, Eye tI tS H be oe n0 s0 mark room.r at_ re Fn Fs → H.row bx = some rx → (room.w = true → Wm room rx) → (mark = true ∨ s.bools = true → room.w = true) → (mark = true → room.k = false) → Rd H room s rx.cs o ns ss D →
    bx < H.next → (∀ j ∈ D, j < H.next) → bx ≠ be → bx ∉ Fn → bx ∉ Fs → be ∉ D → (∀ j ∈ D, j ∉ Fn) → (∀ j ∈ D, j ∉ Fs) → (mark = true → D.Nodup ∧ bx ∉ D) →
    n0.length + ns.length ≤ 1000000000 → s0.length + ss.length ≤ 1000000000 →
    WF E f [.pointer (some ⟨be, oe, none⟩), .pointer (some ⟨bx, o, none⟩)] H fun r => Seen tI tS s H be oe n0 s0 mark room re Fn Fs bx o rx ns ss D r.2
end Go.Eng

namespace Go.Eng
open Go
theorem putL_length {cs vs : List Value} {o : Nat} (h : o + vs.length ≤ cs.length) : (putL cs o vs).length = cs.length := by
  simp only [putL, List.length_append, List.length_take, List.length_drop]; omega
theorem putL_get {cs vs : List Value} {o : Nat} (h : o + vs.length ≤ cs.length) (i : Nat) : (putL cs o vs)[i]? = if o ≤ i ∧ i < o + vs.length then vs[i - o]? else cs[i]? := by
  have ht : (cs.take o).length = o := by rw [List.length_take]; omega
  simp only [putL]
  by_cases h1 : i < o
  · rw [if_neg (by omega), List.getElem?_append_left (by omega), List.getElem?_take_of_lt h1]
  · rw [List.getElem?_append_right (by omega), ht]
    by_cases h2 : i < o + vs.length
    · rw [if_pos ⟨by omega, h2⟩, List.getElem?_append_left (by omega)]
    · rw [if_neg (by omega), List.getElem?_append_right (by omega), List.getElem?_drop]
      congr 1
      omega
theorem putL1 {cs : List Value} {o : Nat} {v : Value} (h : o < cs.length) (i : Nat) : (putL cs o [v])[i]? = if i = o then some v else cs[i]? := by
  have h' : o + [v].length ≤ cs.length := h
  rw [putL_get h']
  by_cases h1 : i = o
  · subst h1; rw [if_pos ⟨Nat.le_refl _, by simp⟩, if_pos rfl]; simp
  · rw [if_neg (by simp only [List.length_cons, List.length_nil]; omega), if_neg h1]
theorem lt_of_get {cs : List Value} {o : Nat} {v : Value} (h : cs[o]? = some v) : o < cs.length := (List.getElem?_eq_some_iff.1 h).1
theorem putL_same {cs : List Value} {o : Nat} {v : Value} (h : cs[o]? = some v) : putL cs o [v] = cs := by
  apply List.ext_getElem?
  intro i
  rw [putL1 (lt_of_get h)]
  split
  · rename_i h1; rw [h1, h]
  · rfl
section
variable {tI tS : TypeId} {H H1 : AHeap} {be oe : Nat} {ns : List Int} {ss : List ByteArray} {mark room : Bool} {at_ : Int} {re : Row} {Fn Fs : List Nat}
theorem Eye.frame (h : Eye tI tS H be oe ns ss mark room at_ re Fn Fs) (hn : H.next ≤ H1.next) (hr : ∀ j, j = be ∨ j ∈ Fn ∨ j ∈ Fs → H1.row j = H.row j) : Eye tI tS H1 be oe ns ss mark room at_ re Fn Fs := by
  obtain ⟨v, hv, hl⟩ := h.n
  obtain ⟨u, hu, hm⟩ := h.s
  exact ⟨by rw [hr be (.inl rfl)]; exact h.row, h.rw, ⟨v, hv, hl.frame fun j hj => hr j (.inr (.inl hj))⟩, ⟨u, hu, hm.frame fun j hj => hr j (.inr (.inr hj))⟩, h.mark, h.at_, h.room, h.bn, h.bs, h.dis,
    Nat.lt_of_lt_of_le h.ltb hn, fun j hj => Nat.lt_of_lt_of_le (h.ltn j hj) hn, fun j hj => Nat.lt_of_lt_of_le (h.lts j hj) hn⟩
theorem Eye.push {H2 : AHeap} {v' : Value} {x : Int} {D' : List Nat} (h : Eye tI tS H be oe ns ss mark room at_ re Fn Fs) (hl : Lst H1 tI 1 v' ((ns ++ [x]).map (Value.int .i64)) D') (hn : H.next ≤ H1.next) (hr : ∀ j, j ∉ Fn → j < H.next → H1.row j = H.row j)
    (hD : ∀ j ∈ D', j ∈ Fn ∨ (H.next ≤ j ∧ j < H1.next)) (hu : Upd H1 H2 be ⟨re.elem, re.whole, true, putL re.cs oe [v']⟩) :
    Eye tI tS H2 be oe (ns ++ [x]) ss mark room at_ ⟨re.elem, re.whole, true, putL re.cs oe [v']⟩ D' Fs ∧ H.next ≤ H2.next ∧ ∀ j, j < H.next → j ≠ be → j ∉ Fn → H2.row j = H.row j := by
  obtain ⟨v, hv, hl0⟩ := h.n
  obtain ⟨u, hus, hm⟩ := h.s
  have hlt := lt_of_get hv
  have hb : be ∉ D' := fun hx => by
    rcases hD be hx with h1 | ⟨h1, -⟩
    · exact h.bn h1
    · exact absurd h.ltb (by omega)
  have hne : ∀ j ∈ D', j ≠ be := fun j hj e => hb (e ▸ hj)
  refine ⟨⟨by rw [hu.row, if_pos rfl], rfl, ⟨v', by rw [putL1 hlt, if_pos rfl], hl.frame fun j hj => by rw [hu.row, if_neg (hne j hj)]⟩, ⟨u, by rw [putL1 hlt, if_neg (by omega)]; exact hus, hm.frame fun j hj => ?_⟩, by rw [putL1 hlt, if_neg (by omega)]; exact h.mark, by rw [putL1 hlt, if_neg (by omega)]; exact h.at_, by rw [putL1 hlt, if_neg (by omega)]; exact h.room, hb, h.bs, ?_, ?_, ?_, ?_⟩, ?_, ?_⟩
  · rw [hu.row, if_neg (show j ≠ be from fun e => h.bs (e ▸ hj)), hr j (fun hf => h.dis j hf hj) (h.lts j hj)]
  · intro j hj hs
    rcases hD j hj with h1 | ⟨h1, -⟩
    · exact h.dis j h1 hs
    · exact absurd (h.lts j hs) (by omega)
  · rw [hu.next]; exact Nat.lt_of_lt_of_le h.ltb hn
  · intro j hj
    rw [hu.next]
    rcases hD j hj with h1 | ⟨-, h1⟩
    · exact Nat.lt_of_lt_of_le (h.ltn j h1) hn
    · exact h1
  · intro j hj; rw [hu.next]; exact Nat.lt_of_lt_of_le (h.lts j hj) hn
  · rw [hu.next]; exact hn
  · intro j hj hjb hjf
    rw [hu.row, if_neg hjb, hr j hjf hj]
theorem Eye.setAt {a : Int} (h : Eye tI tS H be oe ns ss mark room at_ re Fn Fs) (hu : Upd H H1 be ⟨re.elem, re.whole, true, putL re.cs (oe + 3) [.int .i64 a]⟩) :
    Eye tI tS H1 be oe ns ss mark room a ⟨re.elem, re.whole, true, putL re.cs (oe + 3) [.int .i64 a]⟩ Fn Fs := by
  obtain ⟨v, hv, hl0⟩ := h.n
  obtain ⟨u, hus, hm⟩ := h.s
  have hlt := lt_of_get h.at_
  refine ⟨by rw [hu.row, if_pos rfl], rfl, ⟨v, by rw [putL1 hlt, if_neg (by omega)]; exact hv, hl0.frame fun j hj => by rw [hu.row, if_neg (show j ≠ be from fun e => h.bn (e ▸ hj))]⟩, ⟨u, by rw [putL1 hlt, if_neg (by omega)]; exact hus, hm.frame fun j hj => by rw [hu.row, if_neg (show j ≠ be from fun e => h.bs (e ▸ hj))]⟩, by rw [putL1 hlt, if_neg (by omega)]; exact h.mark, by rw [putL1 hlt, if_pos rfl], by rw [putL1 hlt, if_neg (by omega)]; exact h.room, h.bn, h.bs, h.dis, ?_, ?_, ?_⟩
  · rw [hu.next]; exact h.ltb
  · intro j hj; rw [hu.next]; exact h.ltn j hj
  · intro j hj; rw [hu.next]; exact h.lts j hj
end
section
variable {E : Env} {f : FuncId} {N : Nat} {l : Kn} {H : AHeap} {Q : AExit → Kn → AHeap → Prop}
end
end Go.Eng

namespace Go.Eng
open Go
section
variable {E : Env} {N : Nat} {ops rest : List Oper} {l : Kn} {H : AHeap} {Q : Kn → AHeap → Prop} {ty : TypeId} {ps : String} {af : Array Edge} {g : Option (Nat × Bool)} {d : Nat}
theorem KO.load1 {T : TypeId} {a : Operand} {b o : Nat} {r : Row} {v : Value} (ht : isAggT E.P T = some false) (ha : kval E.G l a = some (.pointer (some ⟨b, o, none⟩))) (hr : H.row b = some r) (hv : r.cs[o]? = some v)
    (hw : kwant ops l ⟨some d, .load T a, ty, ps, af, g⟩ = some true) (hd : Nat.blt d N = true) (h : KO E N ops rest ((d, v) :: l) H Q) : KO E N ops (⟨some d, .load T a, ty, ps, af, g⟩ :: rest) l H Q :=
  KO.px (PX.load ha hr (by rw [read1 ht]; exact hv)) hw hd h
theorem KO.loadN {T n : Nat} {a : Operand} {b o : Nat} {r : Row} {p : List Value} (ht : isAggT E.P T = some true) (hs : sizeT E.P T = some n) (ha : kval E.G l a = some (.pointer (some ⟨b, o, none⟩))) (hr : H.row b = some r) (hv : takeN n (r.cs.drop o) = some p)
    (hw : kwant ops l ⟨some d, .load T a, ty, ps, af, g⟩ = some true) (hd : Nat.blt d N = true) (h : KO E N ops rest ((d, .agg p.toArray) :: l) H Q) : KO E N ops (⟨some d, .load T a, ty, ps, af, g⟩ :: rest) l H Q :=
  KO.px (PX.load ha hr (readN ht hs hv)) hw hd h
theorem KO.store {T : TypeId} {a v : Operand} {b o n : Nat} {u : Value} {r : Row} {vs : List Value} (ha : kval E.G l a = some (.pointer (some ⟨b, o, none⟩))) (hv : kval E.G l v = some u) (hs : sizeT E.P T = some n) (hg : goodCells u n = some vs)
    (hr : H.row b = some r) (hw : r.rw = true) (hl : o + vs.length ≤ r.cs.length) (hk : kwant ops l ⟨none, .store T a v, ty, ps, af, g⟩ = some true)
    (h : ∀ H1, Upd H H1 b ⟨r.elem, r.whole, true, putL r.cs o vs⟩ → KO E N ops rest l H1 Q) : KO E N ops (⟨none, .store T a v, ty, ps, af, g⟩ :: rest) l H Q := by
  obtain ⟨H1, u1, p1⟩ := PX.store (l := l) ha hv hs hg hr hw hl
  exact KO.pn p1 hk (h H1 u1)
theorem KO.store1 {T : TypeId} {a v : Operand} {b o : Nat} {u : Value} {r : Row} (hs : sizeT E.P T = some 1) (ha : kval E.G l a = some (.pointer (some ⟨b, o, none⟩))) (hv : kval E.G l v = some u) (hg : goodCells u 1 = some [u])
    (hr : H.row b = some r) (hw : r.rw = true) (hl : o < r.cs.length) (hk : kwant ops l ⟨none, .store T a v, ty, ps, af, g⟩ = some true)
    (h : ∀ H1, Upd H H1 b ⟨r.elem, r.whole, true, putL r.cs o [u]⟩ → KO E N ops rest l H1 Q) : KO E N ops (⟨none, .store T a v, ty, ps, af, g⟩ :: rest) l H Q :=
  KO.store ha hv hs hg hr hw hl hk h
theorem KO.alloc {e : TypeId} {z : List Value} (hz : zeroT E.P e = some z) (hw : kwant ops l ⟨some d, .alloc e, ty, ps, af, g⟩ = some true) (hd : Nat.blt d N = true)
    (h : ∀ H1, New H H1 ⟨e, true, true, z⟩ → KO E N ops rest ((d, .pointer (some ⟨H.next, 0, none⟩)) :: l) H1 Q) : KO E N ops (⟨some d, .alloc e, ty, ps, af, g⟩ :: rest) l H Q := by
  obtain ⟨H1, u1, p1⟩ := PX.alloc (l := l) (H := H) hz
  exact KO.px p1 hw hd (h H1 u1)
theorem KO.box {e : TypeId} {x : Operand} {v : Value} (hx : kval E.G l x = some v) (hv : (!isTup v && (cellsV v).all oneC) = true) (hw : kwant ops l ⟨some d, .box e x, ty, ps, af, g⟩ = some true) (hd : Nat.blt d N = true)
    (h : ∀ H1, New H H1 ⟨e, true, true, cellsV v⟩ → KO E N ops rest ((d, .pointer (some ⟨H.next, 0, none⟩)) :: l) H1 Q) : KO E N ops (⟨some d, .box e x, ty, ps, af, g⟩ :: rest) l H Q := by
  obtain ⟨H1, u1, p1⟩ := PX.box (H := H) hx hv
  exact KO.px p1 hw hd (h H1 u1)
theorem KO.makeSlice {t e sz : Nat} {z : List Value} {a b : Operand} {n c : Nat} {k k' : IntKind} (ht : elemT E.P t = some e) (hz : elemZ E.P e = some (sz, z)) (hs : smallBytes E.P e = true) (ha : kval E.G l a = some (.int k (n : Nat))) (hb : kval E.G l b = some (.int k' (c : Nat))) (hn : n ≤ c) (hc : c ≤ 1000000000)
    (hw : kwant ops l ⟨some d, .makeSlice t a b, ty, ps, af, g⟩ = some true) (hd : Nat.blt d N = true)
    (h : ∀ H1, New H H1 ⟨e, true, true, zerosFor z c⟩ → KO E N ops rest ((d, .slice (some ⟨H.next, 0, none⟩) n c) :: l) H1 Q) : KO E N ops (⟨some d, .makeSlice t a b, ty, ps, af, g⟩ :: rest) l H Q := by
  obtain ⟨H1, u1, p1⟩ := PX.makeSlice (H := H) ht hz ha hb hn hs hc
  exact KO.px p1 hw hd (h H1 u1)
theorem KO.buildSlice {t e sz n : Nat} {z : List Value} {pa : Array (Nat × Operand)} {vs : List (Nat × Value)} {cs : List Value} (ht : elemT E.P t = some e) (hz : elemZ E.P e = some (sz, z)) (hp : kparts E.G l pa.toList = some vs)
    (hn : Nat.ble (n * sz) 10000 = true) (hf : fillA (fun i => some (i * sz, sz)) (zerosFor z n) vs = some cs) (hw : kwant ops l ⟨some d, .buildSlice t n pa, ty, ps, af, g⟩ = some true) (hd : Nat.blt d N = true)
    (h : ∀ H1, New H H1 ⟨e, true, true, cs⟩ → KO E N ops rest ((d, .slice (some ⟨H.next, 0, none⟩) n n) :: l) H1 Q) : KO E N ops (⟨some d, .buildSlice t n pa, ty, ps, af, g⟩ :: rest) l H Q := by
  obtain ⟨H1, u1, p1⟩ := PX.buildSlice (H := H) ht hz hp hn hf
  exact KO.px p1 hw hd (h H1 u1)
theorem KO.append {t tx e ex sz : Nat} {z : List Value} {a b : Operand} {x sv : Value} {cs new : List Value} {D : List Nat} {n : Nat} (ht : elemT E.P t = some e) (hz : elemZ E.P e = some (sz, z)) (hsb : smallBytes E.P e = true) (htx : E.P.underlying tx = some (.slice ex))
    (ha : kval E.G l a = some sv) (hb : kval E.G l b = some x) (hL : Lst H e sz sv cs D) (hx : newElems sz x H = some (n, new)) (hnl : new.length = n * sz) (hcs : cs.all oneC = true) (hlim : cs.length + new.length ≤ 1000000000)
    (hw : kwant ops l ⟨some d, .call ⟨.builtin .append, #[a, b], #[t, tx]⟩, ty, ps, af, g⟩ = some true) (hd : Nat.blt d N = true)
    (h : ∀ v' H1 D', Lst H1 e sz v' (cs ++ new) D' → H.next ≤ H1.next → (∀ j, j ∉ D → j < H.next → H1.row j = H.row j) → (∀ j ∈ D', j ∈ D ∨ (H.next ≤ j ∧ j < H1.next)) → KO E N ops rest ((d, v') :: l) H1 Q) :
    KO E N ops (⟨some d, .call ⟨.builtin .append, #[a, b], #[t, tx]⟩, ty, ps, af, g⟩ :: rest) l H Q := by
  obtain ⟨v', H1, D', p1, k1, k2, k3, k4⟩ := PX.append hL ha hb ht hz hsb htx hx hnl hcs hlim
  exact KO.px p1 hw hd (h v' H1 D' k1 k2 k3 k4)
end
section
variable {E : Env} {R : DR} {N : Nat} {ord : List Nat} {l : Kn} {H : AHeap} {past : List AHeap} {done : Nat} {hs : List Nat} {Q : Kn → AHeap → Nat → List Nat → Prop} {i : Nat} {ty : TypeId} {ps : String} {af : Array Edge} {g : Option (Nat × Bool)} {d : Nat}
theorem KD.store1 {T : TypeId} {a v : Operand} {b o : Nat} {u : Value} {r : Row} (done' : Nat) (hs1 : sizeT E.P T = some 1) (ha : kval E.G l a = some (.pointer (some ⟨b, o, none⟩))) (hv : kval E.G l v = some u) (hg : goodCells u 1 = some [u])
    (hr : H.row b = some r) (hw : r.rw = true) (hl : o < r.cs.length) (ho : R.ops[i]? = some ⟨none, .store T a v, ty, ps, af, g⟩) (hk : stepOk R i ⟨none, .store T a v, ty, ps, af, g⟩ done hs = true) (hkw : kwant R.ops l ⟨none, .store T a v, ty, ps, af, g⟩ = some true) (hdone : Nat.lor done (2 ^ i) = done')
    (h : ∀ H1, Upd H H1 b ⟨r.elem, r.whole, true, putL r.cs o [u]⟩ → KD E R N ord l H1 (H1 :: past) done' hs.tail Q) : KD E R N (i :: ord) l H past done hs Q := by
  obtain ⟨H1, u1, p1⟩ := PX.store (l := l) ha hv hs1 hg hr hw hl
  exact KD.pn done' p1 ho rfl hk hkw hdone (h H1 u1)
theorem KD.buildSlice {t e sz n : Nat} {z : List Value} {pa : Array (Nat × Operand)} {vs : List (Nat × Value)} {cs : List Value} (done' : Nat) (ht : elemT E.P t = some e) (hz : elemZ E.P e = some (sz, z)) (hp : kparts E.G l pa.toList = some vs)
    (hn : Nat.ble (n * sz) 10000 = true) (hf : fillA (fun i => some (i * sz, sz)) (zerosFor z n) vs = some cs) (ho : R.ops[i]? = some ⟨some d, .buildSlice t n pa, ty, ps, af, g⟩) (hk : stepOk R i ⟨some d, .buildSlice t n pa, ty, ps, af, g⟩ done hs = true) (hw : kwant R.ops l ⟨some d, .buildSlice t n pa, ty, ps, af, g⟩ = some true) (hd : Nat.blt d N = true) (hdone : Nat.lor done (2 ^ i) = done')
    (h : ∀ H1, Upd H H1 (R.base + i) ⟨e, true, true, cs⟩ → KD E R N ord ((d, .slice (some ⟨R.base + i, 0, none⟩) n n) :: l) H1 past done' hs Q) : KD E R N (i :: ord) l H past done hs Q := by
  obtain ⟨H1, u1, p1⟩ := PX.buildSlice (H := ⟨R.base + i, H.objs⟩) ht hz hp hn hf
  exact KD.new done' u1 p1 ho rfl rfl hk hw hd hdone h
theorem KD.append {t tx e ex sz : Nat} {z : List Value} {a b : Operand} {x sv : Value} {cs new : List Value} {D : List Nat} {n : Nat} (done' : Nat) (ht : elemT E.P t = some e) (hz : elemZ E.P e = some (sz, z)) (hsb : smallBytes E.P e = true) (htx : E.P.underlying tx = some (.slice ex))
    (ha : kval E.G l a = some sv) (hb : kval E.G l b = some x) (hL : Lst H e sz sv cs D) (hx : newElems sz x H = some (n, new)) (hnl : new.length = n * sz) (hcs : cs.all oneC = true) (hlim : cs.length + new.length ≤ 1000000000)
    (ho : R.ops[i]? = some ⟨some d, .call ⟨.builtin .append, #[a, b], #[t, tx]⟩, ty, ps, af, g⟩) (hk : stepOk R i ⟨some d, .call ⟨.builtin .append, #[a, b], #[t, tx]⟩, ty, ps, af, g⟩ done hs = true) (hw : kwant R.ops l ⟨some d, .call ⟨.builtin .append, #[a, b], #[t, tx]⟩, ty, ps, af, g⟩ = some true) (hd : Nat.blt d N = true) (hdone : Nat.lor done (2 ^ i) = done')
    (h : ∀ v' H1 D', Lst H1 e sz v' (cs ++ new) D' → H.next ≤ H1.next → (∀ j, j ∉ D → j < H.next → H1.row j = H.row j) → (∀ j ∈ D', j ∈ D ∨ (H.next ≤ j ∧ j < H1.next)) → KD E R N ord ((d, v') :: l) H1 (H1 :: past) done' hs.tail Q) :
    KD E R N (i :: ord) l H past done hs Q := by
  obtain ⟨v', H1, D', p1, k1, k2, k3, k4⟩ := PX.append hL ha hb ht hz hsb htx hx hnl hcs hlim
  exact KD.px done' p1 ho rfl hk hw hd hdone (h v' H1 D' k1 k2 k3 k4)
end
section
variable {E : Env} {l : Kn} {H : AHeap}
end
end Go.Eng

namespace Go.Eng
open Go
theorem RdN.snoc {R : Rdr} {cs : List Value} {sz : Nat} : ∀ {n o : Nat} {n1 n2 : List Int} {s1 s2 : List ByteArray} {D1 D2 : List Nat}, RdN R cs sz n o n1 s1 D1 → R cs (o + n * sz) n2 s2 D2 → RdN R cs sz (n + 1) o (n1 ++ n2) (s1 ++ s2) (D1 ++ D2)
  | 0, o, n1, n2, s1, s2, D1, D2, h, hr => by
    obtain ⟨rfl, rfl, rfl⟩ := h
    rw [Nat.zero_mul, Nat.add_zero] at hr
    exact ⟨n2, s2, D2, [], [], [], hr, ⟨rfl, rfl, rfl⟩, by simp, by simp, by simp⟩
  | n + 1, o, n1, n2, s1, s2, D1, D2, h, hr => by
    obtain ⟨a1, b1, c1, a2, b2, c2, h1, h2, rfl, rfl, rfl⟩ := h
    have e : o + (n + 1) * sz = o + sz + n * sz := by rw [Nat.add_mul]; omega
    rw [e] at hr
    exact ⟨a1, b1, c1, a2 ++ n2, b2 ++ s2, c2 ++ D2, h1, RdN.snoc h2 hr, by simp, by simp, by simp⟩
def LRd (H : AHeap) (room : Md) (s : Sh) (sz : Nat) (a : Option Addr) (c : Nat) (ns : List Int) (ss : List ByteArray) (D : List Nat) : Prop :=
  (c = 0 ∧ ns = [] ∧ ss = [] ∧ D = []) ∨ ∃ b off sp r D', a = some ⟨b, off, sp⟩ ∧ H.row b = some r ∧ (room.w = true → Wm room r) ∧ D = b :: D' ∧ RdN (Rd H room s) r.cs sz c off ns ss D'
def EyeRow (oe : Nat) (re re' : Row) : Prop := re'.elem = re.elem ∧ re'.whole = re.whole ∧ re'.cs.length = re.cs.length ∧ ∀ i, i ≠ oe → i ≠ oe + 1 → i ≠ oe + 3 → re'.cs[i]? = re.cs[i]?
theorem EyeRow.trans {oe : Nat} {a b c : Row} (h : EyeRow oe a b) (k : EyeRow oe b c) : EyeRow oe a c :=
  ⟨k.1.trans h.1, k.2.1.trans h.2.1, k.2.2.1.trans h.2.2.1, fun i i1 i2 i3 => (k.2.2.2 i i1 i2 i3).trans (h.2.2.2 i i1 i2 i3)⟩
theorem EyeRow.refl {oe : Nat} {a : Row} : EyeRow oe a a := ⟨rfl, rfl, rfl, fun _ _ _ _ => rfl⟩
def SeenL (tI tS : Nat) (s : Sh) (sz : Nat) (H : AHeap) (be oe : Nat) (n0 : List Int) (s0 : List ByteArray) (mark : Bool) (room : Md) (re : Row) (Fn Fs : List Nat) (a : Option Addr) (c : Nat) (ns : List Int) (ss : List ByteArray) (D : List Nat) (H' : AHeap) : Prop :=
  ∃ ns' ss' at' re' Fn' Fs', Eye tI tS H' be oe (n0 ++ ns') (s0 ++ ss') mark room.r at' re' Fn' Fs' ∧ LRd H' room s sz a c ns' ss' D ∧ ns'.length = ns.length ∧ ss'.length = ss.length ∧
    (mark = false → ns' = ns ∧ ss' = ss ∧ ∀ j ∈ D, H'.row j = H.row j) ∧ EyeRow oe re re' ∧ (∀ j ∈ Fn', j ∈ Fn ∨ H.next ≤ j) ∧ (∀ j ∈ Fs', j ∈ Fs ∨ H.next ≤ j) ∧
    H.next ≤ H'.next ∧ (∀ j, j < H.next → j ≠ be → j ∉ Fn → j ∉ Fs → j ∉ D → H'.row j = H.row j)
structure LI (tI tS : Nat) (s : Sh) (sz : Nat) (H : AHeap) (be oe : Nat) (n0 : List Int) (s0 : List ByteArray) (mark : Bool) (room : Md) (re : Row) (Fn Fs : List Nat) (b off : Nat) (r : Row) (c : Nat) (ns : List Int) (ss : List ByteArray) (D : List Nat) (i : Nat) (Hi : AHeap) : Prop where
  le : i ≤ c
  ex : ∃ n1 s1 D1 n2 s2 D2 at' re' Fn' Fs' cs', Eye tI tS Hi be oe (n0 ++ n1) (s0 ++ s1) mark room.r at' re' Fn' Fs' ∧ Hi.row b = some ⟨r.elem, r.whole, r.rw, cs'⟩ ∧
    RdN (Rd Hi room s) cs' sz i off n1 s1 D1 ∧ RdN (Rd Hi room s) cs' sz (c - i) (off + i * sz) n2 s2 D2 ∧ D = D1 ++ D2 ∧ n1.length + n2.length = ns.length ∧ s1.length + s2.length = ss.length ∧
    (mark = false → n1 ++ n2 = ns ∧ s1 ++ s2 = ss ∧ cs' = r.cs ∧ ∀ j ∈ D, Hi.row j = H.row j) ∧ EyeRow oe re re' ∧ (∀ j ∈ Fn', j ∈ Fn ∨ H.next ≤ j) ∧ (∀ j ∈ Fs', j ∈ Fs ∨ H.next ≤ j)
  next : H.next ≤ Hi.next
  keep : ∀ j, j < H.next → j ≠ be → j ∉ Fn → j ∉ Fs → j ≠ b → j ∉ D → Hi.row j = H.row j
section
variable {E : Env} {tI tS : Nat} {s : Sh} {sz : Nat} {H : AHeap} {be oe : Nat} {n0 : List Int} {s0 : List ByteArray} {mark : Bool} {room : Md} {re : Row} {Fn Fs : List Nat} {b off : Nat} {r : Row} {c : Nat} {ns : List Int} {ss : List ByteArray} {D : List Nat} {i : Nat} {Hi : AHeap} {g : FuncId}
theorem LI.step (hg : SeeOK E tI tS g s) (hok : s.cells.all (fun i => Nat.blt i sz) = true) (hrw : room.w = true → Wm room r) (hwm : mark = true ∨ s.bools = true → room.w = true) (hmk : mark = true → room.k = false) (h : LI tI tS s sz H be oe n0 s0 mark room re Fn Fs b off r c ns ss D i Hi) (hi : i < c)
    (hb : b < H.next) (hD : ∀ j ∈ D, j < H.next) (b1 : b ≠ be) (b2 : b ∉ Fn) (b3 : b ∉ Fs) (d1 : be ∉ D) (d2 : ∀ j ∈ D, j ∉ Fn) (d3 : ∀ j ∈ D, j ∉ Fs) (hm : mark = true → D.Nodup ∧ b ∉ D)
    (l1 : n0.length + ns.length ≤ 1000000000) (l2 : s0.length + ss.length ≤ 1000000000) :
    WF E g [.pointer (some ⟨be, oe, none⟩), .pointer (some ⟨b, off + i * sz, none⟩)] Hi fun q => LI tI tS s sz H be oe n0 s0 mark room re Fn Fs b off r c ns ss D (i + 1) q.2 := by
  obtain ⟨hle, ⟨n1, s1, D1, n2, s2, D2, at', re', Fn', Fs', cs', he, hrow, hp, hr, rfl, hln, hls, hmf, hre, hFn, hFs⟩, hnx, hkeep⟩ := h
  have hci : c - i = (c - i - 1) + 1 := by omega
  rw [hci] at hr
  obtain ⟨na, sa, Da, nb, sb, Db, ha, hbR, rfl, rfl, rfl⟩ := hr
  have memA : ∀ j ∈ Da, j ∈ D1 ++ (Da ++ Db) := fun j hj => List.mem_append_right _ (List.mem_append_left _ hj)
  have memB : ∀ j ∈ Db, j ∈ D1 ++ (Da ++ Db) := fun j hj => List.mem_append_right _ (List.mem_append_right _ hj)
  have mem1 : ∀ j ∈ D1, j ∈ D1 ++ (Da ++ Db) := fun j hj => List.mem_append_left _ hj
  have notFn : ∀ j, j < H.next → j ∉ Fn → j ∉ Fn' := fun j hj hn hf => by
    rcases hFn j hf with h | h
    · exact hn h
    · omega
  have notFs : ∀ j, j < H.next → j ∉ Fs → j ∉ Fs' := fun j hj hn hf => by
    rcases hFs j hf with h | h
    · exact hn h
    · omega
  have hmi : mark = true → Da.Nodup ∧ b ∉ Da := fun hmk => by
    obtain ⟨k1, k2⟩ := hm hmk
    exact ⟨(List.nodup_append.1 (List.nodup_append.1 k1).2.1).1, fun hj => k2 (memA b hj)⟩
  simp only [List.length_append] at hln hls
  refine (hg Hi be oe (n0 ++ n1) (s0 ++ s1) mark room at' re' Fn' Fs' b (off + i * sz) ⟨r.elem, r.whole, r.rw, cs'⟩ na sa Da he hrow hrw hwm hmk ha (by omega) (fun j hj => Nat.lt_of_lt_of_le (hD j (memA j hj)) hnx) b1 (notFn b hb b2) (notFs b hb b3) (fun hj => d1 (memA _ hj)) (fun j hj => notFn j (hD j (memA j hj)) (d2 j (memA j hj))) (fun j hj => notFs j (hD j (memA j hj)) (d3 j (memA j hj))) hmi (by rw [List.length_append]; omega) (by rw [List.length_append]; omega)).mono ?_
  rintro ⟨v, H'⟩ ⟨⟨nA, sA, atA, reA, FnA, FsA, csA, heA, hrowA, hRA, hlA, hcA, hnA, hsA, hmA, hre1, hre2, hre3, hre4, hFnA, hFsA⟩, hnxA, hkA⟩
  have hoth : ∀ j, j ∈ D1 ∨ j ∈ Db → H'.row j = Hi.row j := by
    intro j hj
    have hjD : j ∈ D1 ++ (Da ++ Db) := hj.elim (mem1 j) (memB j)
    have hjl := hD j hjD
    by_cases hA : j ∈ Da
    · cases hmk : mark with
      | false => exact (hmA hmk).2.2.2 j hA
      | true =>
        exfalso
        obtain ⟨k1, -⟩ := hm hmk
        have k3 := List.nodup_append.1 k1
        rcases hj with hj | hj
        · exact k3.2.2 j hj j (List.mem_append_left _ hA) rfl
        · exact (List.nodup_append.1 k3.2.1).2.2 j hA j hj rfl
    · by_cases hjb : j = b
      · cases hmk : mark with
        | false =>
          subst hjb
          rw [hrowA, hrow, (hmA hmk).2.2.1]
        | true => exact absurd (hjb ▸ hjD) (hm hmk).2
      · exact hkA j (by omega) (fun e => d1 (e ▸ hjD)) (notFn j hjl (d2 j hjD)) (notFs j hjl (d3 j hjD)) hjb hA
  have hcell : ∀ k, k ≠ i → ∀ z ∈ s.cells, csA[off + k * sz + z]? = cs'[off + k * sz + z]? := by
    intro k hk z hz
    refine hcA _ fun y hy e => hk ?_
    have z1 : z < sz := blt_nat.1 (List.all_eq_true.1 hok z hz)
    have y1 : y < sz := blt_nat.1 (List.all_eq_true.1 hok y hy)
    have e' : k * sz + z = i * sz + y := by omega
    rcases Nat.lt_trichotomy k i with h | h | h
    · exfalso
      have : (k + 1) * sz ≤ i * sz := Nat.mul_le_mul_right sz h
      rw [Nat.add_mul] at this; omega
    · exact h
    · exfalso
      have : (i + 1) * sz ≤ k * sz := Nat.mul_le_mul_right sz h
      rw [Nat.add_mul] at this; omega
  refine ⟨hi, ⟨n1 ++ nA, s1 ++ sA, D1 ++ Da, nb, sb, Db, atA, reA, FnA, FsA, csA, by rw [List.append_assoc, List.append_assoc] at heA; exact heA, hrowA, ?_, ?_, by rw [List.append_assoc], ?_, ?_, ?_, hre.trans ⟨hre1, hre2, hre3, hre4⟩, ?_, ?_⟩, Nat.le_trans hnx hnxA, ?_⟩
  · refine RdN.snoc (RdN.imp (fun k hk ns ss D' hDD hh => Rd.congr (fun j hj => hoth j (.inl (hDD j hj))) (fun z hz => hcell k (by omega) z hz) hh) hp) hRA
  · have e1 : c - (i + 1) = c - i - 1 := by omega
    have e2 : off + (i + 1) * sz = off + i * sz + sz := by rw [Nat.add_mul]; omega
    rw [e1, e2]
    refine RdN.imp (fun k hk ns ss D' hDD hh => Rd.congr (fun j hj => hoth j (.inr (hDD j hj))) (fun z hz => ?_) hh) hbR
    have e3 : off + i * sz + sz + k * sz = off + (i + 1 + k) * sz := by rw [Nat.add_mul, Nat.add_mul]; omega
    rw [e3]
    exact hcell _ (by omega) z hz
  · simp only [List.length_append] at hnA ⊢; omega
  · simp only [List.length_append] at hsA ⊢; omega
  · intro hmk
    obtain ⟨k1, k2, k3, k4⟩ := hmf hmk
    obtain ⟨m1, m2, m3, m4⟩ := hmA hmk
    refine ⟨by rw [m1, List.append_assoc]; exact k1, by rw [m2, List.append_assoc]; exact k2, by rw [m3]; exact k3, fun j hj => ?_⟩
    have hj' : j ∈ D1 ++ (Da ++ Db) := hj
    by_cases hA : j ∈ Da
    · rw [m4 j hA]; exact k4 j hj
    · have : j ∈ D1 ∨ j ∈ Db := by
        simp only [List.mem_append] at hj'
        rcases hj' with h | h | h
        · exact .inl h
        · exact absurd h hA
        · exact .inr h
      rw [hoth j this]; exact k4 j hj
  · intro j hj
    rcases hFnA j hj with h | h
    · exact hFn j h
    · exact .inr (Nat.le_trans hnx h)
  · intro j hj
    rcases hFsA j hj with h | h
    · exact hFs j h
    · exact .inr (Nat.le_trans hnx h)
  · intro j j0 j1 j2 j3 j4 j5
    show H'.row j = _
    rw [hkA j (by omega) j1 (notFn j j0 j2) (notFs j j0 j3) j4 (fun hj => j5 (memA j hj))]
    exact hkeep j j0 j1 j2 j3 j4 j5
theorem list_J {a : Option Addr} {at_ : Int} (hg : SeeOK E tI tS g s) (hok : s.cells.all (fun i => Nat.blt i sz) = true) (hwm : mark = true ∨ s.bools = true → room.w = true) (hmk : mark = true → room.k = false) (he : Eye tI tS H be oe n0 s0 mark room.r at_ re Fn Fs) (hL : LRd H room s sz a c ns ss D)
    (hD : ∀ j ∈ D, j < H.next) (d1 : be ∉ D) (d2 : ∀ j ∈ D, j ∉ Fn) (d3 : ∀ j ∈ D, j ∉ Fs) (hm : mark = true → D.Nodup) (l1 : n0.length + ns.length ≤ 1000000000) (l2 : s0.length + ss.length ≤ 1000000000) :
    ∃ J : Nat → AHeap → Prop, J 0 H ∧ (∀ i Hi, i < c → J i Hi → ∃ b off sp, a = some ⟨b, off, sp⟩ ∧ WF E g [.pointer (some ⟨be, oe, none⟩), .pointer (some ⟨b, off + i * sz, none⟩)] Hi fun q => J (i + 1) q.2) ∧
      ∀ Hi, J c Hi → SeenL tI tS s sz H be oe n0 s0 mark room re Fn Fs a c ns ss D Hi := by
  rcases hL with ⟨rfl, rfl, rfl, rfl⟩ | ⟨b, off, sp, r, D', rfl, hrow, hrw, rfl, hR⟩
  · refine ⟨fun _ Hi => Hi = H, rfl, fun i Hi hi => absurd hi (Nat.not_lt_zero _), ?_⟩
    rintro Hi rfl
    exact ⟨[], [], at_, re, Fn, Fs, by rw [List.append_nil, List.append_nil]; exact he, .inl ⟨rfl, rfl, rfl, rfl⟩, rfl, rfl, fun _ => ⟨rfl, rfl, fun _ _ => rfl⟩, .refl, fun j hj => .inl hj, fun j hj => .inl hj, Nat.le_refl _, fun _ _ _ _ _ _ => rfl⟩
  · have hb : b ∈ b :: D' := List.mem_cons_self
    have hDm : ∀ j ∈ D', j ∈ b :: D' := fun j hj => List.mem_cons_of_mem _ hj
    have hmm : mark = true → D'.Nodup ∧ b ∉ D' := fun hmk => by
      have := hm hmk
      rw [List.nodup_cons] at this
      exact ⟨this.2, this.1⟩
    have b1 : b ≠ be := fun e => d1 (e ▸ hb)
    refine ⟨LI tI tS s sz H be oe n0 s0 mark room re Fn Fs b off r c ns ss D', ?_, ?_, ?_⟩
    · refine ⟨Nat.zero_le _, ⟨[], [], [], ns, ss, D', at_, re, Fn, Fs, r.cs, by rw [List.append_nil, List.append_nil]; exact he, hrow, ⟨rfl, rfl, rfl⟩, by rw [Nat.zero_mul, Nat.add_zero, Nat.sub_zero]; exact hR, rfl, by simp, by simp, fun _ => ⟨rfl, rfl, rfl, fun _ _ => rfl⟩, .refl, fun j hj => .inl hj, fun j hj => .inl hj⟩, Nat.le_refl _, fun _ _ _ _ _ _ _ => rfl⟩
    · intro i Hi hi hI
      exact ⟨b, off, sp, rfl, hI.step hg hok hrw hwm hmk hi (hD b hb) (fun j hj => hD j (hDm j hj)) b1 (d2 b hb) (d3 b hb) (fun hj => d1 (hDm _ hj)) (fun j hj => d2 j (hDm j hj)) (fun j hj => d3 j (hDm j hj)) hmm l1 l2⟩
    · rintro Hi ⟨-, ⟨n1, s1, D1, n2, s2, D2, at', re', Fn', Fs', cs', he', hrow', hp, hr, rfl, hln, hls, hmf, hre, hFn, hFs⟩, hnx, hkeep⟩
      rw [Nat.sub_self] at hr
      obtain ⟨rfl, rfl, rfl⟩ := hr
      simp only [List.append_nil] at *
      refine ⟨n1, s1, at', re', Fn', Fs', he', .inr ⟨b, off, sp, _, D1, rfl, hrow', hrw, rfl, hp⟩, hln, hls, ?_, hre, hFn, hFs, hnx, ?_⟩
      · intro hmk
        obtain ⟨k1, k2, k3, k4⟩ := hmf hmk
        refine ⟨k1, k2, fun j hj => ?_⟩
        rcases List.mem_cons.1 hj with rfl | hj
        · rw [hrow', hrow, k3]
        · exact k4 j hj
      · intro j j0 j1 j2 j3 j4
        exact hkeep j j0 j1 j2 j3 (fun e => j4 (e ▸ hb)) (fun hj => j4 (hDm j hj))
theorem LRd.frame {H H' : AHeap} {room : Md} {s : Sh} {sz : Nat} {a : Option Addr} {c : Nat} {ns : List Int} {ss : List ByteArray} {D : List Nat} (h : LRd H room s sz a c ns ss D) (hr : ∀ j ∈ D, H'.row j = H.row j) : LRd H' room s sz a c ns ss D := by
  rcases h with h | ⟨b, off, sp, r, D', k1, k2, k3, rfl, k5⟩
  · exact .inl h
  · exact .inr ⟨b, off, sp, r, D', k1, by rw [hr b List.mem_cons_self]; exact k2, k3, rfl, RdN.frame (fun j hj => hr j (List.mem_cons_of_mem _ hj)) k5⟩
theorem SeenL.back {H0 H' : AHeap} {re0 : Row} {Fn0 : List Nat} {a : Option Addr} (h : SeenL tI tS s sz H be oe n0 s0 mark room re Fn Fs a c ns ss D H') (hre : EyeRow oe re0 re) (hnx : H0.next ≤ H.next) (hk : ∀ j, j < H0.next → j ≠ be → j ∉ Fn0 → H.row j = H0.row j)
    (hF : ∀ j ∈ Fn, j ∈ Fn0 ∨ H0.next ≤ j) (hD : ∀ j ∈ D, j < H0.next) (d1 : be ∉ D) (d2 : ∀ j ∈ D, j ∉ Fn0) : SeenL tI tS s sz H0 be oe n0 s0 mark room re0 Fn0 Fs a c ns ss D H' := by
  obtain ⟨ns', ss', at', re', Fn', Fs', h1, h2, h3, h4, h5, h6, h7, h8, h9, h10⟩ := h
  refine ⟨ns', ss', at', re', Fn', Fs', h1, h2, h3, h4, fun hm => ?_, hre.trans h6, fun j hj => ?_, fun j hj => ?_, Nat.le_trans hnx h9, fun j j0 j1 j2 j3 j4 => ?_⟩
  · obtain ⟨k1, k2, k3⟩ := h5 hm
    exact ⟨k1, k2, fun j hj => (k3 j hj).trans (hk j (hD j hj) (fun e => d1 (e ▸ hj)) (d2 j hj))⟩
  · rcases h7 j hj with h | h
    · exact hF j h
    · exact .inr (Nat.le_trans hnx h)
  · rcases h8 j hj with h | h
    · exact .inl h
    · exact .inr (Nat.le_trans hnx h)
  · rw [h10 j (Nat.lt_of_lt_of_le j0 hnx) j1 (fun hf => ?_) j3 j4]
    · exact hk j j0 j1 j2
    · rcases hF j hf with h | h
      · exact j2 h
      · omega
theorem slice_cap {P : Program} {t e sz : Nat} {a : Option Addr} {len cap : Nat} (hT : P.underlying t = some (.slice e)) (hs : sizeT P e = some sz) (ha : exactBase a = true) (hp : 0 < sz := by decide) : sliceA P t (.slice a len cap) none (some (.int .i64 (cap : Int))) none = some (.slice a cap cap) := by
  have hb : boundV cap (.int .i64 (cap : Int)) = some cap := by simp [boundV, vNat, vInt, iNat, ble_nat.2 (Nat.le_refl cap)]
  simp only [blt_nat.2 hp, Bool.true_and, sliceA, hT, Option.bind_some, sliceD, dString, cond_false, dSlice, hs, vSl, subSlice, bounds3, isNone, Bool.false_and, boundA, hb, Option.map_some, Nat.sub_zero]
  cases a with
  | none => rfl
  | some a =>
    obtain ⟨b, o, sp⟩ := a
    cases sp with
    | some x => cases ha
    | none => simp [blt_nat.2 hp, spotIs, subBase, isNone]
end
end Go.Eng

namespace Go.Eng
open Go
structure Pre (tI tS : Nat) (s : Sh) (H : AHeap) (be oe : Nat) (n0 : List Int) (s0 : List ByteArray) (mark : Bool) (room : Md) (re : Row) (Fn Fs : List Nat) (bx o : Nat) (rx : Row) (ns : List Int) (ss : List ByteArray) (D : List Nat) : Prop where
  eye : ∃ at_, Eye tI tS H be oe n0 s0 mark room.r at_ re Fn Fs
  x : H.row bx = some rx
  xw : room.w = true → Wm room rx
  wm : mark = true ∨ s.bools = true → room.w = true
  mkk : mark = true → room.k = false
  rd : Rd H room s rx.cs o ns ss D
  ltx : bx < H.next
  ltD : ∀ j ∈ D, j < H.next
  a1 : bx ≠ be
  a2 : bx ∉ Fn
  a3 : bx ∉ Fs
  a4 : be ∉ D
  a5 : ∀ j ∈ D, j ∉ Fn
  a6 : ∀ j ∈ D, j ∉ Fs
  mkd : mark = true → D.Nodup ∧ bx ∉ D
  l1 : n0.length + ns.length ≤ 1000000000
  l2 : s0.length + ss.length ≤ 1000000000
section
variable {E : Env} {tI tS : Nat} {s : Sh} {H : AHeap} {be oe : Nat} {n0 : List Int} {s0 : List ByteArray} {mark : Bool} {room : Md} {re : Row} {Fn Fs : List Nat} {bx o : Nat} {rx : Row} {ns : List Int} {ss : List ByteArray} {D : List Nat} {f : FuncId}
theorem SeeOK.pre (hf : SeeOK E tI tS f s) (h : Pre tI tS s H be oe n0 s0 mark room re Fn Fs bx o rx ns ss D) :
    WF E f [.pointer (some ⟨be, oe, none⟩), .pointer (some ⟨bx, o, none⟩)] H fun r => Seen tI tS s H be oe n0 s0 mark room re Fn Fs bx o rx ns ss D r.2 := by
  obtain ⟨at_, he⟩ := h.eye
  exact hf H be oe n0 s0 mark room at_ re Fn Fs bx o rx ns ss D he h.x h.xw h.wm h.mkk h.rd h.ltx h.ltD h.a1 h.a2 h.a3 h.a4 h.a5 h.a6 h.mkd h.l1 h.l2
theorem SeeOK.of (h : ∀ H be oe n0 s0 mark room re Fn Fs bx o rx ns ss D, Pre tI tS s H be oe n0 s0 mark room re Fn Fs bx o rx ns ss D →
    WF E f [.pointer (some ⟨be, oe, none⟩), .pointer (some ⟨bx, o, none⟩)] H fun r => Seen tI tS s H be oe n0 s0 mark room re Fn Fs bx o rx ns ss D r.2) : SeeOK E tI tS f s := by
  intro H be oe n0 s0 mark room at_ re Fn Fs bx o rx ns ss D he hx hxw hwm hmk hrd hbx hD h1 h2 h3 h4 h5 h6 hm hl1 hl2
  exact h H be oe n0 s0 mark room re Fn Fs bx o rx ns ss D ⟨⟨at_, he⟩, hx, hxw, hwm, hmk, hrd, hbx, hD, h1, h2, h3, h4, h5, h6, hm, hl1, hl2⟩
theorem Pre.nil (h : Pre tI tS .nil H be oe n0 s0 mark room re Fn Fs bx o rx ns ss D) : Seen tI tS .nil H be oe n0 s0 mark room re Fn Fs bx o rx ns ss D H := by
  obtain ⟨at_, he⟩ := h.eye
  obtain ⟨rfl, rfl, rfl⟩ := h.rd
  refine ⟨⟨[], [], at_, re, Fn, Fs, rx.cs, by rw [List.append_nil, List.append_nil]; exact he, h.x, ⟨rfl, rfl, rfl⟩, rfl, fun _ _ => rfl, rfl, rfl, fun _ => ⟨rfl, rfl, rfl, fun _ _ => rfl⟩, rfl, rfl, rfl, fun _ _ _ _ => rfl, fun j hj => .inl hj, fun j hj => .inl hj⟩, Nat.le_refl _, fun _ _ _ _ _ _ _ => rfl⟩
theorem Pre.fld {off : Nat} {s1 r : Sh} (hf : SeeOK E tI tS f s1) (hok : (Sh.fld off s1 r).ok = true) (h : Pre tI tS (.fld off s1 r) H be oe n0 s0 mark room re Fn Fs bx o rx ns ss D) :
    WF E f [.pointer (some ⟨be, oe, none⟩), .pointer (some ⟨bx, o + off, none⟩)] H fun q => ∃ n0' s0' re' Fn' Fs' rx' ns' ss' D', Pre tI tS r q.2 be oe n0' s0' mark room re' Fn' Fs' bx o rx' ns' ss' D' ∧
      ∀ H', Seen tI tS r q.2 be oe n0' s0' mark room re' Fn' Fs' bx o rx' ns' ss' D' H' → Seen tI tS (.fld off s1 r) H be oe n0 s0 mark room re Fn Fs bx o rx ns ss D H' := by
  obtain ⟨⟨at_, he⟩, hx, hxw, hwm, hmk, hrd, hbx, hD, a1, a2, a3, a4, a5, a6, hm, hl1, hl2⟩ := h
  obtain ⟨n1, t1, D1, n2, t2, D2, hr1, hr2, rfl, rfl, rfl⟩ := hrd
  simp only [Sh.ok, Bool.and_eq_true] at hok
  have hsep : ∀ k ∈ s1.cells, ∀ z ∈ r.cells, z ≠ off + k := by
    intro k hk z hz e
    have := List.all_eq_true.1 hok.2 k hk
    simp only [Bool.not_eq_true', List.contains_eq_mem, decide_eq_false_iff_not] at this
    exact this (e ▸ hz)
  simp only [List.length_append] at hl1 hl2
  have m1 : ∀ j ∈ D1, j ∈ D1 ++ D2 := fun j hj => List.mem_append_left _ hj
  have m2 : ∀ j ∈ D2, j ∈ D1 ++ D2 := fun j hj => List.mem_append_right _ hj
  refine (hf H be oe n0 s0 mark room at_ re Fn Fs bx (o + off) rx n1 t1 D1 he hx hxw (fun h => hwm (h.imp id fun h => by simp only [Sh.bools, h, Bool.true_or])) hmk hr1 hbx (fun j hj => hD j (m1 j hj)) a1 a2 a3 (fun hj => a4 (m1 _ hj)) (fun j hj => a5 j (m1 j hj)) (fun j hj => a6 j (m1 j hj)) (fun hmk => ⟨(List.nodup_append.1 (hm hmk).1).1, fun hj => (hm hmk).2 (m1 _ hj)⟩) (by omega) (by omega)).mono ?_
  rintro ⟨v, G⟩ ⟨⟨nA, sA, atA, reA, FnA, FsA, csA, heA, hxA, hRA, hlA, hcA, hnA, hsA, hmA, hre1, hre2, hre3, hre4, hFnA, hFsA⟩, hnxA, hkA⟩
  have notFn : ∀ j, j < H.next → j ∉ Fn → j ∉ FnA := fun j hj hn hf => by
    rcases hFnA j hf with h | h
    · exact hn h
    · omega
  have notFs : ∀ j, j < H.next → j ∉ Fs → j ∉ FsA := fun j hj hn hf => by
    rcases hFsA j hf with h | h
    · exact hn h
    · omega
  have sameX : mark = false → G.row bx = H.row bx := fun hmk => by rw [hxA, hx, (hmA hmk).2.2.1]
  have hoth : ∀ j ∈ D2, G.row j = H.row j := by
    intro j hj
    have hjl := hD j (m2 j hj)
    by_cases hA : j ∈ D1
    · cases hmk : mark with
      | false => exact (hmA hmk).2.2.2 j hA
      | true => exact absurd rfl ((List.nodup_append.1 (hm hmk).1).2.2 j hA j hj)
    · by_cases hjb : j = bx
      · cases hmk : mark with
        | false => rw [hjb]; exact sameX hmk
        | true => exact absurd (hjb ▸ m2 j hj) (hm hmk).2
      · exact hkA j hjl (fun e => a4 (e ▸ m2 j hj)) (a5 j (m2 j hj)) (a6 j (m2 j hj)) hjb hA
  refine ⟨n0 ++ nA, s0 ++ sA, reA, FnA, FsA, ⟨rx.elem, rx.whole, rx.rw, csA⟩, n2, t2, D2, ⟨⟨atA, heA⟩, hxA, hxw, (fun h => hwm (h.imp id fun h => by simp only [Sh.bools, h, Bool.or_true])), hmk, ?_, Nat.lt_of_lt_of_le hbx hnxA, fun j hj => Nat.lt_of_lt_of_le (hD j (m2 j hj)) hnxA, a1, notFn bx hbx a2, notFs bx hbx a3, fun hj => a4 (m2 _ hj), fun j hj => notFn j (hD j (m2 j hj)) (a5 j (m2 j hj)), fun j hj => notFs j (hD j (m2 j hj)) (a6 j (m2 j hj)), fun hmk => ⟨(List.nodup_append.1 (hm hmk).1).2.1, fun hj => (hm hmk).2 (m2 _ hj)⟩, by rw [List.length_append]; omega, by rw [List.length_append]; omega⟩, ?_⟩
  · refine Rd.congr hoth (fun z hz => hcA _ fun k hk e => hsep k hk z hz (by omega)) hr2
  · rintro H' ⟨⟨nB, sB, atB, reB, FnB, FsB, csB, heB, hxB, hRB, hlB, hcB, hnB, hsB, hmB, hreB1, hreB2, hreB3, hreB4, hFnB, hFsB⟩, hnxB, hkB⟩
    have hoth1 : ∀ j ∈ D1, H'.row j = G.row j := by
      intro j hj
      have hjl := hD j (m1 j hj)
      by_cases hA : j ∈ D2
      · cases hmk : mark with
        | false => exact (hmB hmk).2.2.2 j hA
        | true => exact absurd rfl ((List.nodup_append.1 (hm hmk).1).2.2 j hj j hA)
      · by_cases hjb : j = bx
        · cases hmk : mark with
          | false => rw [hjb, hxB, hxA, (hmB hmk).2.2.1]
          | true => exact absurd (hjb ▸ m1 j hj) (hm hmk).2
        · exact hkB j (Nat.lt_of_lt_of_le hjl hnxA) (fun e => a4 (e ▸ m1 j hj)) (notFn j hjl (a5 j (m1 j hj))) (notFs j hjl (a6 j (m1 j hj))) hjb hA
    refine ⟨⟨nA ++ nB, sA ++ sB, atB, reB, FnB, FsB, csB, by rw [← List.append_assoc, ← List.append_assoc]; exact heB, hxB, ⟨nA, sA, D1, nB, sB, D2, ?_, hRB, rfl, rfl, rfl⟩, hlB.trans hlA, ?_, by rw [List.length_append, List.length_append, hnA, hnB], by rw [List.length_append, List.length_append, hsA, hsB], ?_, hreB1.trans hre1, hreB2.trans hre2, hreB3.trans hre3, fun i i1 i2 i3 => (hreB4 i i1 i2 i3).trans (hre4 i i1 i2 i3), ?_, ?_⟩, Nat.le_trans hnxA hnxB, ?_⟩
    · exact Rd.congr hoth1 (fun k hk => hcB _ fun z hz e => hsep k hk z hz (by omega)) hRA
    · intro i hi
      rw [hcB i fun k hk => hi k (by simp only [Sh.cells, List.mem_append]; exact .inr hk)]
      exact hcA i fun k hk e => hi (off + k) (by simp only [Sh.cells, List.mem_append, List.mem_map]; exact .inl ⟨k, hk, rfl⟩) (by omega)
    · intro hmk
      obtain ⟨p1, p2, p3, p4⟩ := hmA hmk
      obtain ⟨q1, q2, q3, q4⟩ := hmB hmk
      refine ⟨by rw [p1, q1], by rw [p2, q2], by rw [q3]; exact p3, fun j hj => ?_⟩
      rcases List.mem_append.1 hj with hj | hj
      · rw [hoth1 j hj]; exact p4 j hj
      · rw [q4 j hj]; exact hoth j hj
    · intro j hj
      rcases hFnB j hj with h | h
      · exact hFnA j h
      · exact .inr (Nat.le_trans hnxA h)
    · intro j hj
      rcases hFsB j hj with h | h
      · exact hFsA j h
      · exact .inr (Nat.le_trans hnxA h)
    · intro j j0 j1 j2 j3 j4 j5
      rw [hkB j (Nat.lt_of_lt_of_le j0 hnxA) j1 (notFn j j0 j2) (notFs j j0 j3) j4 (fun hj => j5 (m2 j hj))]
      exact hkA j j0 j1 j2 j3 j4 (fun hj => j5 (m1 j hj))
theorem Seen.ofL {sz : Nat} {a : Option Addr} {len cap : Nat} {n1 : List Int} {H' : AHeap} (h : Pre tI tS (.list sz s) H be oe n0 s0 mark room re Fn Fs bx o rx ((len : Int) :: n1) ss D) (hc : rx.cs[o]? = some (.slice a len cap)) (hlc : len ≤ cap ∧ cnt room.r len cap ≤ 1000000000) (hroom : room.r = true → exactBase a = true)
    (hL : SeenL tI tS s sz H be oe (n0 ++ [(len : Int)]) s0 mark room re Fn Fs a (cnt room.r len cap) n1 ss D H') : Seen tI tS (.list sz s) H be oe n0 s0 mark room re Fn Fs bx o rx ((len : Int) :: n1) ss D H' := by
  obtain ⟨ns', ss', at', re', Fn', Fs', h1, h2, h3, h4, h5, h6, h7, h8, h9, h10⟩ := hL
  have hbx : H'.row bx = H.row bx := by
    by_cases hb : bx ∈ D
    · cases hmk : mark with
      | false => exact (h5 hmk).2.2 bx hb
      | true => exact absurd hb (h.mkd hmk).2
    · exact h10 bx h.ltx h.a1 h.a2 h.a3 hb
  refine ⟨⟨(len : Int) :: ns', ss', at', re', Fn', Fs', rx.cs, ?_, by rw [hbx, h.x], ⟨a, len, cap, hc, hlc, hroom, ns', rfl, h2⟩, rfl, fun _ _ => rfl, by simp only [List.length_cons, h3], h4, fun hmk => ?_, h6.1, h6.2.1, h6.2.2.1, h6.2.2.2, h7, h8⟩, h9, fun j j0 j1 j2 j3 _ j5 => h10 j j0 j1 j2 j3 j5⟩
  · rw [List.append_assoc] at h1; exact h1
  · obtain ⟨k1, k2, k3⟩ := h5 hmk
    exact ⟨by rw [k1], k2, rfl, k3⟩
end
end Go.Eng

namespace Go.Eng
open Go
section
variable {E : Env} {l : Kn} {H : AHeap}
theorem PV.lenS {x : Operand} {t : TypeId} {s : ByteArray} (ht : E.P.underlying t = some .string) (hx : kval E.G l x = some (.string s)) : PV E l (.call ⟨.builtin .len, #[x], #[t]⟩) (.int .i64 ((bytesL s).length : Int)) := by
  intro F N hF cc yy H
  have hx' : avals E.G F [x] = some [.string s] := by simp only [avals, kval_ok hF hx, Option.bind_some, Option.map_some]
  show callOpA E cc yy F _ H = _
  simp only [callOpA, hx', Option.bind_some, calleeA, builtinA]
  show (bif true then keepH H (lenA E.P t (.string s) H) else none) = _
  simp only [cond_true, lenA, ht, Option.bind_some, lenD, dString, vStr, Option.map_some, keepH, goI]
  rfl
theorem PV.min {x y : Operand} {ts : Array TypeId} {k : IntKind} {a b : Int} (hx : kval E.G l x = some (.int k a)) (hy : kval E.G l y = some (.int k b)) : PV E l (.call ⟨.builtin .min, #[x, y], ts⟩) (.int k (if b < a then b else a)) := by
  intro F N hF cc yy H
  have hx' : avals E.G F [x, y] = some [.int k a, .int k b] := by simp only [avals, kval_ok hF hx, kval_ok hF hy, Option.bind_some, Option.map_some]
  show callOpA E cc yy F _ H = _
  simp only [callOpA, hx', Option.bind_some, calleeA, builtinA]
  show keepH H (minI (k, a) (k, b)) = _
  simp only [minI, ikBeq_self, cond_true, keepH, Option.map_some]
theorem PV.max {x y : Operand} {ts : Array TypeId} {k : IntKind} {a b : Int} (hx : kval E.G l x = some (.int k a)) (hy : kval E.G l y = some (.int k b)) : PV E l (.call ⟨.builtin .max, #[x, y], ts⟩) (.int k (if a < b then b else a)) := by
  intro F N hF cc yy H
  have hx' : avals E.G F [x, y] = some [.int k a, .int k b] := by simp only [avals, kval_ok hF hx, kval_ok hF hy, Option.bind_some, Option.map_some]
  show callOpA E cc yy F _ H = _
  simp only [callOpA, hx', Option.bind_some, calleeA, builtinA]
  show keepH H (maxI (k, a) (k, b)) = _
  simp only [maxI, ikBeq_self, cond_true, keepH, Option.map_some]
theorem PV.sneq {t u : TypeId} {x y : Operand} {a b : ByteArray} (hx : kval E.G l x = some (.string a)) (hy : kval E.G l y = some (.string b)) : PV E l (.binOp .neq t x y u) (.bool (!(streq a b))) := by
  intro F N hF c yy H
  simp only [opA, opBin, kval_ok hF hx, kval_ok hF hy, keepH, Option.bind_some, binA, vInt, vStr, binStr, isAdd, isEql, cond_false, Option.map_some, sameB]
theorem streq_self (a : ByteArray) : streq a a = true := streq_iff.2 rfl
theorem veq_str {s : ByteArray} : veq 100 (.string s) (.string s) = true := by simp [veq, vStr, streq_self]
end
theorem Lst.sl {H : AHeap} {e : Nat} {v : Value} {cs : List Value} {D : List Nat} (h : Lst H e 1 v cs D) : ∃ a, v = .slice a cs.length cs.length ∧ (0 < cs.length → ∃ b, a = some ⟨b, 0, some 1⟩ ∧ H.row b = some ⟨e, false, true, cs⟩ ∧ D = [b]) := by
  rcases h with ⟨rfl, rfl, rfl⟩ | ⟨b, n, rfl, hr, hn, rfl⟩
  · exact ⟨none, rfl, fun h => absurd h (Nat.lt_irrefl _)⟩
  · rw [Nat.mul_one] at hn
    exact ⟨some ⟨b, 0, some 1⟩, by rw [hn], fun _ => ⟨b, rfl, hr, rfl⟩⟩
end Go.Eng

namespace Go.Eng
open Go
theorem Eye.ofCells {tI tS : Nat} {H : AHeap} {be oe : Nat} {r : Row} {m rm : Bool} {a : Int} (hr : H.row be = some r) (hw : r.rw = true) (h0 : r.cs[oe]? = some (.slice none 0 0)) (h1 : r.cs[oe + 1]? = some (.slice none 0 0)) (h2 : r.cs[oe + 2]? = some (.bool m)) (h3 : r.cs[oe + 3]? = some (.int .i64 a)) (h4 : r.cs[oe + 4]? = some (.bool rm)) (hb : be < H.next) :
    Eye tI tS H be oe [] [] m rm a r [] [] :=
  ⟨hr, hw, ⟨_, h0, .nil⟩, ⟨_, h1, .nil⟩, h2, h3, h4, List.not_mem_nil, List.not_mem_nil, fun _ h => absurd h List.not_mem_nil, hb, fun _ h => absurd h List.not_mem_nil, fun _ h => absurd h List.not_mem_nil⟩
structure Own (H : AHeap) (room : Md) (s : Sh) (bx : Nat) (ns : List Int) (ss : List ByteArray) (D : List Nat) : Prop where
  ex : ∃ r, H.row bx = some r ∧ r.rw = true ∧ Rd H room s r.cs 0 ns ss D
  nd : D.Nodup
  nb : bx ∉ D
  lb : bx < H.next
  lD : ∀ j ∈ D, j < H.next
theorem Own.frame {H H' : AHeap} {room : Md} {s : Sh} {bx : Nat} {ns : List Int} {ss : List ByteArray} {D : List Nat} (h : Own H room s bx ns ss D) (hn : H.next ≤ H'.next) (hr : ∀ j, j = bx ∨ j ∈ D → H'.row j = H.row j) : Own H' room s bx ns ss D := by
  obtain ⟨r, h1, h2, h3⟩ := h.ex
  exact ⟨⟨r, by rw [hr bx (.inl rfl)]; exact h1, h2, h3.frame fun j hj => hr j (.inr hj)⟩, h.nd, h.nb, Nat.lt_of_lt_of_le h.lb hn, fun j hj => Nat.lt_of_lt_of_le (h.lD j hj) hn⟩
def EyeV (tI tS : Nat) (H : AHeap) (lo hi : Nat) (cs : List Value) (o : Nat) (ns : List Int) (ss : List ByteArray) : Prop :=
  ∃ nv sv mk a rm Fn Fs, cs[o]? = some nv ∧ cs[o + 1]? = some sv ∧ cs[o + 2]? = some (.bool mk) ∧ cs[o + 3]? = some (.int .i64 a) ∧ cs[o + 4]? = some (.bool rm) ∧ Lst H tI 1 nv (ns.map (Value.int .i64)) Fn ∧ Lst H tS 1 sv (ss.map Value.string) Fs ∧ (∀ j ∈ Fn, lo ≤ j ∧ j < hi) ∧ ∀ j ∈ Fs, lo ≤ j ∧ j < hi
theorem EyeV.frame {tI tS : Nat} {H H' : AHeap} {lo hi hi' : Nat} {cs cs' : List Value} {o : Nat} {ns : List Int} {ss : List ByteArray} (h : EyeV tI tS H lo hi cs o ns ss) (hh : hi ≤ hi') (hr : ∀ j, lo ≤ j → j < hi → H'.row j = H.row j) (hc : ∀ k, k < 5 → cs'[o + k]? = cs[o + k]?) : EyeV tI tS H' lo hi' cs' o ns ss := by
  obtain ⟨nv, sv, mk, a, rm, Fn, Fs, h0, h1, h2, h3, h4, h5, h6, h7, h8⟩ := h
  exact ⟨nv, sv, mk, a, rm, Fn, Fs, (hc 0 (by omega)).trans h0, (hc 1 (by omega)).trans h1, (hc 2 (by omega)).trans h2, (hc 3 (by omega)).trans h3, (hc 4 (by omega)).trans h4, h5.frame fun j hj => hr j (h7 j hj).1 (h7 j hj).2, h6.frame fun j hj => hr j (h8 j hj).1 (h8 j hj).2, fun j hj => ⟨(h7 j hj).1, Nat.lt_of_lt_of_le (h7 j hj).2 hh⟩, fun j hj => ⟨(h8 j hj).1, Nat.lt_of_lt_of_le (h8 j hj).2 hh⟩⟩
theorem EyeV.weak {tI tS : Nat} {H : AHeap} {lo lo' hi hi' : Nat} {cs : List Value} {o : Nat} {ns : List Int} {ss : List ByteArray} (h : EyeV tI tS H lo hi cs o ns ss) (h1 : lo' ≤ lo) (h2 : hi ≤ hi') : EyeV tI tS H lo' hi' cs o ns ss := by
  obtain ⟨nv, sv, mk, a, rm, Fn, Fs, k0, k1, k2, k3, k4, k5, k6, h7, h8⟩ := h
  exact ⟨nv, sv, mk, a, rm, Fn, Fs, k0, k1, k2, k3, k4, k5, k6, fun j hj => ⟨Nat.le_trans h1 (h7 j hj).1, Nat.lt_of_lt_of_le (h7 j hj).2 h2⟩, fun j hj => ⟨Nat.le_trans h1 (h8 j hj).1, Nat.lt_of_lt_of_le (h8 j hj).2 h2⟩⟩
theorem zerosFor_get {z : List Value} : ∀ {n k c : Nat}, k < n → c < z.length → (zerosFor z n)[k * z.length + c]? = z[c]?
  | 0, k, c, h, _ => absurd h (Nat.not_lt_zero _)
  | n + 1, 0, c, _, hc => by simp only [zerosFor, Nat.zero_mul, Nat.zero_add]; rw [List.getElem?_append_left hc]
  | n + 1, k + 1, c, h, hc => by
    simp only [zerosFor]
    have e : (k + 1) * z.length + c = z.length + (k * z.length + c) := by rw [Nat.add_mul]; omega
    rw [e, List.getElem?_append_right (by omega), Nat.add_sub_cancel_left]
    exact zerosFor_get (Nat.lt_of_succ_lt_succ h) hc
theorem EyeV.take {tI tS : Nat} {H : AHeap} {lo hi : Nat} {cs : List Value} {o : Nat} {ns : List Int} {ss : List ByteArray} (h : EyeV tI tS H lo hi cs o ns ss) : ∃ nv sv mk a rm Fn Fs, takeN 5 (cs.drop o) = some [nv, sv, .bool mk, .int .i64 a, .bool rm] ∧ Lst H tI 1 nv (ns.map (Value.int .i64)) Fn ∧ Lst H tS 1 sv (ss.map Value.string) Fs ∧ (∀ j ∈ Fn, lo ≤ j ∧ j < hi) ∧ ∀ j ∈ Fs, lo ≤ j ∧ j < hi := by
  obtain ⟨nv, sv, mk, a, rm, Fn, Fs, h0, h1, h2, h3, h4, h5⟩ := h
  refine ⟨nv, sv, mk, a, rm, Fn, Fs, takeN_of ?_ rfl, h5⟩
  have hl := lt_of_get h4
  apply List.ext_getElem?
  intro i
  rw [List.getElem?_take]
  by_cases hi : i < 5
  · rw [if_pos hi, List.getElem?_drop]
    match i, hi with
    | 0, _ => exact h0
    | 1, _ => exact h1
    | 2, _ => exact h2
    | 3, _ => exact h3
    | 4, _ => exact h4
  · rw [if_neg hi]
    rw [List.getElem?_eq_none]
    simp only [List.length_cons, List.length_nil]; omega
theorem Eye.toV {tI tS : Nat} {H : AHeap} {be oe : Nat} {ns : List Int} {ss : List ByteArray} {m rm : Bool} {a : Int} {r : Row} {Fn Fs : List Nat} {lo hi : Nat} (h : Eye tI tS H be oe ns ss m rm a r Fn Fs) (h1 : ∀ j ∈ Fn, lo ≤ j) (h2 : ∀ j ∈ Fs, lo ≤ j) (hh : H.next ≤ hi) : EyeV tI tS H lo hi r.cs oe ns ss := by
  obtain ⟨nv, k1, k2⟩ := h.n
  obtain ⟨sv, k3, k4⟩ := h.s
  exact ⟨nv, sv, m, a, rm, Fn, Fs, k1, k3, h.mark, h.at_, h.room, k2, k4, fun j hj => ⟨h1 j hj, Nat.lt_of_lt_of_le (h.ltn j hj) hh⟩, fun j hj => ⟨h2 j hj, Nat.lt_of_lt_of_le (h.lts j hj) hh⟩⟩
section
variable {E : Env} {tI tS : Nat} {s : Sh} {H : AHeap} {be oe : Nat} {room : Md} {rm : Bool} {a : Int} {re : Row} {bx : Nat} {ns : List Int} {ss : List ByteArray} {D : List Nat} {f : FuncId}
theorem SeeOK.read (hf : SeeOK E tI tS f s) (he : Eye tI tS H be oe [] [] false room.r a re [] []) {r : Row} (hx : H.row bx = some r) (hw : room.w = true → Wm room r) (hwm : s.bools = true → room.w = true) (hR : Rd H room s r.cs 0 ns ss D) (hb : bx < H.next) (hD : ∀ j ∈ D, j < H.next) (h1 : bx ≠ be) (h2 : be ∉ D) (l1 : ns.length ≤ 1000000000) (l2 : ss.length ≤ 1000000000) :
    WF E f [.pointer (some ⟨be, oe, none⟩), .pointer (some ⟨bx, 0, none⟩)] H fun q => ∃ a' re' Fn Fs, Eye tI tS q.2 be oe ns ss false room.r a' re' Fn Fs ∧ (∀ j ∈ Fn, H.next ≤ j) ∧ (∀ j ∈ Fs, H.next ≤ j) ∧ EyeRow oe re re' ∧ H.next ≤ q.2.next ∧ ∀ j, j < H.next → j ≠ be → q.2.row j = H.row j := by
  refine (hf H be oe [] [] false room a re [] [] bx 0 r ns ss D he hx hw (fun h => hwm (h.resolve_left (by simp))) (fun h => by cases h) hR hb hD h1 List.not_mem_nil List.not_mem_nil h2 (fun _ _ => List.not_mem_nil) (fun _ _ => List.not_mem_nil) (fun h => by cases h) (by simpa using l1) (by simpa using l2)).mono ?_
  rintro ⟨v, G⟩ ⟨⟨nA, sA, atA, reA, FnA, FsA, csA, heA, hxA, hRA, hlA, hcA, hnA, hsA, hmA, hre1, hre2, hre3, hre4, hFnA, hFsA⟩, hnxA, hkA⟩
  obtain ⟨rfl, rfl, rfl, hDs⟩ := hmA rfl
  refine ⟨atA, reA, FnA, FsA, heA, fun j hj => (hFnA j hj).resolve_left List.not_mem_nil, fun j hj => (hFsA j hj).resolve_left List.not_mem_nil, ⟨hre1, hre2, hre3, hre4⟩, hnxA, fun j j0 j1 => ?_⟩
  by_cases hjD : j ∈ D
  · exact hDs j hjD
  · by_cases hjx : j = bx
    · rw [hjx]; show G.row bx = _; rw [hxA, hx]
    · exact hkA j j0 j1 List.not_mem_nil List.not_mem_nil hjx hjD
theorem SeeOK.marks (hf : SeeOK E tI tS f s) (he : Eye tI tS H be oe [] [] true room.r a re [] []) (hrm : room.w = true) (hkm : room.k = false) (hx : Own H room s bx ns ss D) (h1 : bx ≠ be) (h2 : be ∉ D) (l1 : ns.length ≤ 1000000000) (l2 : ss.length ≤ 1000000000) :
    WF E f [.pointer (some ⟨be, oe, none⟩), .pointer (some ⟨bx, 0, none⟩)] H fun q => ∃ ns' ss', Own q.2 room s bx ns' ss' D ∧ ns'.length = ns.length ∧ ss'.length = ss.length ∧ H.next ≤ q.2.next ∧ ∀ j, j < H.next → j ≠ be → j ≠ bx → j ∉ D → q.2.row j = H.row j := by
  obtain ⟨r, hxr, hw, hR⟩ := hx.ex
  refine (hf H be oe [] [] true room a re [] [] bx 0 r ns ss D he hxr (fun _ => .inl hw) (fun _ => hrm) (fun _ => hkm) hR hx.lb hx.lD h1 List.not_mem_nil List.not_mem_nil h2 (fun _ _ => List.not_mem_nil) (fun _ _ => List.not_mem_nil) (fun _ => ⟨hx.nd, hx.nb⟩) (by simpa using l1) (by simpa using l2)).mono ?_
  rintro ⟨v, G⟩ ⟨⟨nA, sA, atA, reA, FnA, FsA, csA, heA, hxA, hRA, hlA, hcA, hnA, hsA, hmA, hre1, hre2, hre3, hre4, hFnA, hFsA⟩, hnxA, hkA⟩
  exact ⟨nA, sA, ⟨⟨_, hxA, hw, hRA⟩, hx.nd, hx.nb, Nat.lt_of_lt_of_le hx.lb hnxA, fun j hj => Nat.lt_of_lt_of_le (hx.lD j hj) hnxA⟩, hnA, hsA, hnxA, fun j j0 j1 j2 j3 => hkA j j0 j1 List.not_mem_nil List.not_mem_nil j2 j3⟩
end
theorem Lst.veqn {H : AHeap} {e sz n : Nat} {v : Value} {cs : List Value} {D : List Nat} (h : Lst H e sz v cs D) : Go.Eng.veq (n + 1) v v = true := by
  rcases h with ⟨rfl, -⟩ | ⟨b, m, rfl, -⟩ <;> simp [Go.Eng.veq, vSl, optAddrBeq, addrBeq_self]
theorem veq_eye {nv sv : Value} {mk rm : Bool} {a : Int} (h1 : veq 99 nv nv = true) (h2 : veq 99 sv sv = true) : veq 100 (.agg [nv, sv, .bool mk, .int .i64 a, .bool rm].toArray) (.agg [nv, sv, .bool mk, .int .i64 a, .bool rm].toArray) = true := by
  simp only [veq, vAgg, veq.veqs, h1, h2, vBool, vInt, ikBeq_self, beq_self_eq_true, Bool.and_self]
structure Res1 (E : Env) (tI tS : Nat) (H : AHeap) (v : Value) (ns : List Int) (ss : List ByteArray) (D : List Nat) : Prop where
  ex : ∃ f s ba D', v = .func (.func f) #[] #[.pointer (some ⟨ba, 0, none⟩)] ∧ E.ext f = none ∧ SeeOK E tI tS f s ∧ Own H ⟨false, true, false⟩ s ba ns ss D' ∧ D = ba :: D'
  l1 : ns.length ≤ 1000000000
  l2 : ss.length ≤ 1000000000
theorem Res1.frame {E : Env} {tI tS : Nat} {H H' : AHeap} {v : Value} {ns : List Int} {ss : List ByteArray} {D : List Nat} (h : Res1 E tI tS H v ns ss D) (hn : H.next ≤ H'.next) (hr : ∀ j ∈ D, H'.row j = H.row j) : Res1 E tI tS H' v ns ss D := by
  obtain ⟨f, s, ba, D', k1, k2, k3, k4, rfl⟩ := h.ex
  exact ⟨⟨f, s, ba, D', k1, k2, k3, k4.frame hn fun j hj => hr j (by rcases hj with rfl | hj; exact List.mem_cons_self; exact List.mem_cons_of_mem _ hj), rfl⟩, h.l1, h.l2⟩
structure R1 where
  v : Value
  ns : List Int
  ss : List ByteArray
  D : List Nat
structure ResAll (E : Env) (tI tS : Nat) (H : AHeap) (lo hi : Nat) (L : List R1) : Prop where
  one : ∀ r ∈ L, Res1 E tI tS H r.v r.ns r.ss r.D
  rng : ∀ r ∈ L, ∀ j ∈ r.D, lo ≤ j ∧ j < hi
  dis : ∀ (i k : Nat), i ≠ k → ∀ (r q : R1), L[i]? = some r → L[k]? = some q → ∀ j ∈ r.D, j ∉ q.D
  few : L.length ≤ 100
def ResV (H : AHeap) (tF : Nat) (v : Value) (L : List R1) (lo hi : Nat) : Prop :=
  (v = .slice none 0 0 ∧ L = []) ∨ ∃ b, v = .slice (some ⟨b, 0, none⟩) L.length L.length ∧ H.row b = some ⟨tF, true, true, L.map (·.v)⟩ ∧ lo ≤ b ∧ b < hi ∧ ∀ r ∈ L, b ∉ r.D
theorem ResV.frame {H H' : AHeap} {tF : Nat} {v : Value} {L : List R1} {lo hi : Nat} (h : ResV H tF v L lo hi) (hr : ∀ j, lo ≤ j → j < hi → (∀ r ∈ L, j ∉ r.D) → H'.row j = H.row j) : ResV H' tF v L lo hi := by
  rcases h with h | ⟨b, h1, h2, h3, h4, h5⟩
  · exact .inl h
  · exact .inr ⟨b, h1, by rw [hr b h3 h4 h5]; exact h2, h3, h4, h5⟩
theorem ResAll.frame {E : Env} {tI tS : Nat} {H H' : AHeap} {lo hi : Nat} {L : List R1} (h : ResAll E tI tS H lo hi L) (hn : H.next ≤ H'.next) (hr : ∀ j, lo ≤ j → j < hi → H'.row j = H.row j) : ResAll E tI tS H' lo hi L :=
  ⟨fun r hR => (h.one r hR).frame hn fun j hj => hr j (h.rng r hR j hj).1 (h.rng r hR j hj).2, h.rng, h.dis, h.few⟩
structure Told (tI tS tE : Nat) (H : AHeap) (lo : Nat) (v : Value) (L : List R1) (b : Nat) : Prop where
  hv : v = .slice (some ⟨b, 0, none⟩) L.length L.length
  hlo : lo ≤ b
  hhi : b < H.next
  ex : ∃ cs, H.row b = some ⟨tE, true, true, cs⟩ ∧ ∀ i r, L[i]? = some r → EyeV tI tS H lo H.next cs (i * 5) r.ns r.ss
theorem Told.frame {tI tS tE : Nat} {H H' : AHeap} {lo : Nat} {v : Value} {L : List R1} {b : Nat} (h : Told tI tS tE H lo v L b) (hn : H.next ≤ H'.next) (hr : ∀ j, lo ≤ j → j < H.next → H'.row j = H.row j) : Told tI tS tE H' lo v L b := by
  obtain ⟨cs, h1, h2⟩ := h.ex
  exact ⟨h.hv, h.hlo, Nat.lt_of_lt_of_le h.hhi hn, cs, by rw [hr b h.hlo h.hhi]; exact h1, fun i r hi => (h2 i r hi).frame hn hr (fun _ _ => rfl)⟩
end Go.Eng

namespace Go.Eng
open Go
theorem app_in {P : Program} {H : AHeap} {t tx e ex sz b c n : Nat} {z : List Value} {x : Value} {new : List Value} {r : Row} (ht : elemT P t = some e) (hz : elemZ P e = some (sz, z)) (hsb : smallBytes P e = true) (htx : P.underlying tx = some (.slice ex)) (hr : H.row b = some r) (hrw : r.rw = true)
    (hx : newElems sz x H = some (n, new)) (hnl : new.length = n * sz) (hn : n ≤ c) (hl : new.length ≤ r.cs.length) (hc : c ≤ 1000000000) :
    ∃ H1, appendA P [t, tx] [.slice (some ⟨b, 0, none⟩) 0 c, x] H = some (.slice (some ⟨b, 0, none⟩) n c, H1) ∧ Upd H H1 b ⟨r.elem, r.whole, true, putL r.cs 0 new⟩ := by
  have hq : newCellsA P tx (sz, z) x H = some (n, new) := by
    simp only [newCellsA, htx, Option.bind_some, dInt, dString, dSlice, isNone, Bool.not_false, Bool.false_or, cond_true, hx]
  have h1 : n ≤ 1000000000 := by omega
  have start : appendA P [t, tx] [.slice (some ⟨b, 0, none⟩) 0 c, x] H = appIn H sz ⟨some ⟨b, 0, none⟩, 0, c⟩ n new := by
    show (bif true then (elemT P t).bind fun e => (vSl _).bind fun s => appendE P e tx s x H else none) = _
    simp only [cond_true, ht, Option.bind_some, vSl, appendE, hz, hq, hsb, Nat.zero_add, ble_nat.2 h1, ble_nat.2 hn, Bool.and_self]
  rw [start]
  by_cases h0 : n = 0
  · subst h0
    have : new = [] := List.length_eq_zero_iff.1 (by rw [hnl]; simp)
    subst this
    refine ⟨H, by simp [appIn, blt_nat_false.2 hn], rfl, fun j => ?_⟩
    split
    · rename_i hj; subst hj
      rw [hr]; cases r; simp_all [putL]
    · rfl
  · have hb : Nat.beq n 0 = false := by
      cases hh : Nat.beq n 0 with
      | false => rfl
      | true => exact absurd (Nat.eq_of_beq_eq_true hh) h0
    refine ⟨_, ?_, Upd.set⟩
    simp only [appIn, hb, cond_false, Nat.zero_mul, Nat.add_zero, Nat.zero_add, blt_nat_false.2 hn]
    rw [writeA_row hr hrw (by omega)]; rfl
theorem PX.appendIn {E : Env} {l : Kn} {H : AHeap} {t tx e ex sz b c n : Nat} {z : List Value} {x : Value} {new : List Value} {r : Row} {p q : Operand} (ht : elemT E.P t = some e) (hz : elemZ E.P e = some (sz, z)) (hsb : smallBytes E.P e = true) (htx : E.P.underlying tx = some (.slice ex)) (ha : kval E.G l p = some (.slice (some ⟨b, 0, none⟩) 0 c)) (hb : kval E.G l q = some x) (hr : H.row b = some r) (hrw : r.rw = true)
    (hx : newElems sz x H = some (n, new)) (hnl : new.length = n * sz) (hn : n ≤ c) (hl : new.length ≤ r.cs.length) (hc : c ≤ 1000000000) :
    ∃ H1, Upd H H1 b ⟨r.elem, r.whole, true, putL r.cs 0 new⟩ ∧ PX E l H (.call ⟨.builtin .append, #[p, q], #[t, tx]⟩) (.slice (some ⟨b, 0, none⟩) n c) H1 := by
  obtain ⟨H1, h1, h2⟩ := app_in ht hz hsb htx hr hrw hx hnl hn hl hc
  refine ⟨H1, h2, ?_⟩
  intro F N hF cc yy
  have hx' : avals E.G F [p, q] = some [.slice (some ⟨b, 0, none⟩) 0 c, x] := by simp only [avals, kval_ok hF ha, kval_ok hF hb, Option.bind_some, Option.map_some]
  show callOpA E cc yy F _ H = _
  simp only [callOpA, hx', Option.bind_some, calleeA, builtinA, h1]
theorem KO.appendIn {E : Env} {N : Nat} {ops rest : List Oper} {l : Kn} {H : AHeap} {Q : Kn → AHeap → Prop} {ty : TypeId} {ps : String} {af : Array Edge} {g : Option (Nat × Bool)} {d : Nat} {t tx e ex sz b c n : Nat} {z : List Value} {x : Value} {new : List Value} {r : Row} {p q : Operand} (ht : elemT E.P t = some e) (hz : elemZ E.P e = some (sz, z)) (hsb : smallBytes E.P e = true) (htx : E.P.underlying tx = some (.slice ex)) (ha : kval E.G l p = some (.slice (some ⟨b, 0, none⟩) 0 c)) (hb : kval E.G l q = some x) (hr : H.row b = some r) (hrw : r.rw = true)
    (hx : newElems sz x H = some (n, new)) (hnl : new.length = n * sz) (hn : n ≤ c) (hl : new.length ≤ r.cs.length) (hc : c ≤ 1000000000)
    (hw : kwant ops l ⟨some d, .call ⟨.builtin .append, #[p, q], #[t, tx]⟩, ty, ps, af, g⟩ = some true) (hd : Nat.blt d N = true)
    (h : ∀ H1, Upd H H1 b ⟨r.elem, r.whole, true, putL r.cs 0 new⟩ → KO E N ops rest ((d, .slice (some ⟨b, 0, none⟩) n c) :: l) H1 Q) : KO E N ops (⟨some d, .call ⟨.builtin .append, #[p, q], #[t, tx]⟩, ty, ps, af, g⟩ :: rest) l H Q := by
  obtain ⟨H1, u1, p1⟩ := PX.appendIn (l := l) ht hz hsb htx ha hb hr hrw hx hnl hn hl hc
  exact KO.px p1 hw hd (h H1 u1)
def Sh.flat : Sh → Bool
  | .num _ | .bool | .str | .nil => true
  | .list _ _ => false
  | .fld _ s r => s.flat && r.flat
theorem Rd.flatten {H : AHeap} {room : Md} : ∀ {s : Sh} {cs : List Value} {o : Nat} {ns : List Int} {ss : List ByteArray} {D : List Nat}, s.flat = true → Rd H room s cs o ns ss D → D = [] ∧ ∀ (H' : AHeap) (room' : Md) (cs' : List Value) (o' : Nat), (∀ i ∈ s.cells, cs'[o' + i]? = cs[o + i]?) → Rd H' room' s cs' o' ns ss []
  | .num k, cs, o, ns, ss, D, _, h => by
    obtain ⟨v, h1, h2, h3, h4, rfl⟩ := h
    exact ⟨rfl, fun H' r cs' o' hc => ⟨v, by have := hc 0 (by simp [Sh.cells]); rw [Nat.add_zero, Nat.add_zero] at this; rw [this]; exact h1, h2, h3, h4, rfl⟩⟩
  | .bool, cs, o, ns, ss, D, _, h => by
    obtain ⟨v, h1, h2, h3, rfl⟩ := h
    exact ⟨rfl, fun H' r cs' o' hc => ⟨v, by have := hc 0 (by simp [Sh.cells]); rw [Nat.add_zero, Nat.add_zero] at this; rw [this]; exact h1, h2, h3, rfl⟩⟩
  | .str, cs, o, ns, ss, D, _, h => by
    obtain ⟨v, h1, h2, h3, rfl⟩ := h
    exact ⟨rfl, fun H' r cs' o' hc => ⟨v, by have := hc 0 (by simp [Sh.cells]); rw [Nat.add_zero, Nat.add_zero] at this; rw [this]; exact h1, h2, h3, rfl⟩⟩
  | .nil, cs, o, ns, ss, D, _, h => by
    obtain ⟨h1, h2, rfl⟩ := h
    exact ⟨rfl, fun _ _ _ _ _ => ⟨h1, h2, rfl⟩⟩
  | .list _ _, _, _, _, _, _, hf, _ => by cases hf
  | .fld off s r, cs, o, ns, ss, D, hf, h => by
    simp only [Sh.flat, Bool.and_eq_true] at hf
    obtain ⟨n1, s1, D1, n2, s2, D2, h1, h2, rfl, rfl, rfl⟩ := h
    obtain ⟨rfl, k1⟩ := Rd.flatten hf.1 h1
    obtain ⟨rfl, k2⟩ := Rd.flatten hf.2 h2
    refine ⟨rfl, fun H' room' cs' o' hc => ⟨n1, s1, [], n2, s2, [], k1 H' room' cs' _ (fun i hi => ?_), k2 H' room' cs' o' (fun i hi => hc i (by simp only [Sh.cells, List.mem_append]; exact .inr hi)), rfl, rfl, rfl⟩⟩
    have := hc (off + i) (by simp only [Sh.cells, List.mem_append, List.mem_map]; exact .inl ⟨i, hi, rfl⟩)
    rw [Nat.add_assoc, Nat.add_assoc]; exact this
theorem Rd.cell {H : AHeap} {room : Md} : ∀ {s : Sh} {cs : List Value} {o : Nat} {ns : List Int} {ss : List ByteArray} {D : List Nat}, Rd H room s cs o ns ss D → ∀ i ∈ s.cells, ∃ v, cs[o + i]? = some v ∧ oneC v = true
  | .num k, cs, o, ns, ss, D, h, i, hi => by
    obtain ⟨v, h1, -⟩ := h
    simp only [Sh.cells, List.mem_singleton] at hi
    subst hi; exact ⟨_, h1, rfl⟩
  | .bool, cs, o, ns, ss, D, h, i, hi => by
    obtain ⟨v, h1, -⟩ := h
    simp only [Sh.cells, List.mem_singleton] at hi
    subst hi; exact ⟨_, h1, rfl⟩
  | .str, cs, o, ns, ss, D, h, i, hi => by
    obtain ⟨v, h1, -⟩ := h
    simp only [Sh.cells, List.mem_singleton] at hi
    subst hi; exact ⟨_, h1, rfl⟩
  | .list sz s, cs, o, ns, ss, D, h, i, hi => by
    obtain ⟨a, len, cap, h1, -⟩ := h
    simp only [Sh.cells, List.mem_singleton] at hi
    subst hi; exact ⟨_, h1, rfl⟩
  | .nil, _, _, _, _, _, _, i, hi => by cases hi
  | .fld off s r, cs, o, ns, ss, D, h, i, hi => by
    obtain ⟨n1, s1, D1, n2, s2, D2, h1, h2, -⟩ := h
    simp only [Sh.cells, List.mem_append, List.mem_map] at hi
    rcases hi with ⟨k, hk, rfl⟩ | hi
    · have := Rd.cell h1 k hk
      rw [Nat.add_assoc] at this; exact this
    · exact Rd.cell h2 i hi
theorem RdN.at_ {R : Rdr} {cs : List Value} {sz : Nat} : ∀ {n o : Nat} {ns : List Int} {ss : List ByteArray} {D : List Nat}, RdN R cs sz n o ns ss D → ∀ k < n, ∃ n1 s1 D1, R cs (o + k * sz) n1 s1 D1
  | 0, _, _, _, _, _, k, hk => absurd hk (Nat.not_lt_zero _)
  | n + 1, o, ns, ss, D, h, 0, _ => by
    obtain ⟨n1, s1, D1, n2, s2, D2, h1, -⟩ := h
    exact ⟨n1, s1, D1, by rw [Nat.zero_mul]; exact h1⟩
  | n + 1, o, ns, ss, D, h, k + 1, hk => by
    obtain ⟨n1, s1, D1, n2, s2, D2, -, h2, -⟩ := h
    obtain ⟨a, b, c, h3⟩ := RdN.at_ h2 k (Nat.lt_of_succ_lt_succ hk)
    exact ⟨a, b, c, by have e : o + (k + 1) * sz = o + sz + k * sz := by rw [Nat.add_mul]; omega
                       rw [e]; exact h3⟩
theorem RdN.imp2 {R R' : Rdr} {cs cs' : List Value} {sz : Nat} : ∀ {n o o' : Nat} {ns : List Int} {ss : List ByteArray} {D : List Nat},
    (∀ i < n, ∀ ns ss D', R cs (o + i * sz) ns ss D' → D' = [] ∧ R' cs' (o' + i * sz) ns ss []) → RdN R cs sz n o ns ss D → D = [] ∧ RdN R' cs' sz n o' ns ss []
  | 0, _, _, _, _, _, _, h => by obtain ⟨h1, h2, rfl⟩ := h; exact ⟨rfl, h1, h2, rfl⟩
  | n + 1, o, o', ns, ss, D, hi, h => by
    obtain ⟨n1, s1, D1, n2, s2, D2, h1, h2, rfl, rfl, rfl⟩ := h
    have a0 := hi 0 (Nat.succ_pos n) n1 s1 D1
    simp only [Nat.zero_mul, Nat.add_zero] at a0
    obtain ⟨rfl, b0⟩ := a0 h1
    obtain ⟨rfl, b1⟩ := RdN.imp2 (o' := o' + sz) (R' := R') (cs' := cs') (fun i hin ns ss D' hr => by
      have e : o + sz + i * sz = o + (i + 1) * sz := by rw [Nat.add_mul]; omega
      have e' : o' + sz + i * sz = o' + (i + 1) * sz := by rw [Nat.add_mul]; omega
      rw [e] at hr
      rw [e']
      exact hi (i + 1) (Nat.succ_lt_succ hin) ns ss D' hr) h2
    exact ⟨rfl, n1, s1, [], n2, s2, [], b0, b1, rfl, rfl, rfl⟩
theorem list_cells {H : AHeap} {room : Md} {s : Sh} {sz n off : Nat} {cs : List Value} {ns : List Int} {ss : List ByteArray} {D : List Nat} (hsz : 0 < sz) (hf : ∀ i, i < sz → i ∈ s.cells) (h : RdN (Rd H room s) cs sz n off ns ss D) :
    ((cs.drop off).take (n * sz)).length = n * sz ∧ ((cs.drop off).take (n * sz)).all oneC = true := by
  have hget : ∀ i, i < n * sz → ∃ v, cs[off + i]? = some v ∧ oneC v = true := by
    intro i hi
    have hk : i / sz < n := (Nat.div_lt_iff_lt_mul hsz).2 hi
    obtain ⟨_, _, _, hr⟩ := h.at_ (i / sz) hk
    obtain ⟨v, h1, h2⟩ := hr.cell (i % sz) (hf _ (Nat.mod_lt _ hsz))
    refine ⟨v, ?_, h2⟩
    have e : off + i / sz * sz + i % sz = off + i := by
      have := Nat.div_add_mod i sz
      rw [Nat.mul_comm] at this; omega
    rw [e] at h1; exact h1
  have hl : ((cs.drop off).take (n * sz)).length = n * sz := by
    rw [List.length_take, List.length_drop]
    by_cases h0 : n * sz = 0
    · omega
    · obtain ⟨v, hv, -⟩ := hget (n * sz - 1) (by omega)
      have := lt_of_get hv
      omega
  refine ⟨hl, List.all_eq_true.2 fun v hv => ?_⟩
  obtain ⟨i, hi, rfl⟩ := List.mem_iff_getElem.1 hv
  obtain ⟨w, hw, ho⟩ := hget i (by omega)
  rw [List.getElem_take, List.getElem_drop]
  have := (List.getElem?_eq_some_iff.1 hw).2
  rw [this]; exact ho
structure Owned (H H' : AHeap) (s : Sh) (cs : List Value) (ns : List Int) (ss : List ByteArray) : Prop where
  next : H.next ≤ H'.next
  keep : ∀ j, j < H.next → H'.row j = H.row j
  ex : ∃ ns' ss' D, Rd H' ⟨true, true, false⟩ s cs 0 ns' ss' D ∧ D.Nodup ∧ (∀ j ∈ D, H.next ≤ j ∧ j < H'.next) ∧ ns'.length ≤ 21 * ns.length ∧ ss'.length ≤ ss.length + 21 * ns.length
def OwnL (E : Env) (f : FuncId) (sz : Nat) (s : Sh) : Prop :=
  ∀ (w : Bool × Bool) H a len cap ns ss D, Rd H ⟨false, w.1, w.2⟩ (.list sz s) [.slice a len cap] 0 ns ss D → (∀ j ∈ D, j < H.next) → ns.length ≤ 10000000 → ss.length ≤ 10000000 → len ≤ 900000000 →
    WF E f [.slice a len cap] H fun q => (∃ a' l' c', q.1 = .slice a' l' c') ∧ Owned H q.2 (.list sz s) [q.1] ns ss
def OwnA (E : Env) (f : FuncId) (s : Sh) (n : Nat) : Prop :=
  ∀ (w : Bool × Bool) H cs ns ss D, cs.length = n → cs.all oneC = true → Rd H ⟨false, w.1, w.2⟩ s cs 0 ns ss D → (∀ j ∈ D, j < H.next) → ns.length ≤ 10000000 → ss.length ≤ 10000000 →
    WF E f [.agg cs.toArray] H fun q => ∃ cs' : List Value, q.1 = .agg cs'.toArray ∧ cs'.length = n ∧ cs'.all oneC = true ∧ Owned H q.2 s cs' ns ss
def CopOK (E : Env) (f : FuncId) (e sz : Nat) (z : List Value) : Prop :=
  ∀ H a len cap cells, newElems sz (.slice a len cap) H = some (len, cells) → cells.length = len * sz → (∀ x, a = some x → len = 0 ∨ x.block < H.next) → len ≤ 900000000 →
    WF E f [.slice a len cap] H fun q => q.1 = .slice (some ⟨H.next, 0, none⟩) len (len + 2) ∧ q.2.next = H.next + 1 ∧ q.2.row H.next = some ⟨e, true, true, cells ++ zerosFor z 2⟩ ∧ ∀ j, j < H.next → q.2.row j = H.row j
theorem newElems_frame {sz n c : Nat} {a : Option Addr} {H H' : AHeap} (h : ∀ x, a = some x → n = 0 ∨ H'.row x.block = H.row x.block) : newElems sz (.slice a n c) H' = newElems sz (.slice a n c) H := by
  cases a with
  | none => rfl
  | some x =>
    rcases h x rfl with rfl | h
    · simp [newElems, lenV, vSl, firstCellsA, firstSl, rowCells]
    · simp only [newElems, lenV, vSl, firstCellsA, firstSl, rowCells, h]
theorem zerosFor_drop {z : List Value} (m : Nat) : ∀ n, (zerosFor z (n + m)).drop (n * z.length) = zerosFor z m
  | 0 => by simp
  | n + 1 => by
    have e : n + 1 + m = (n + m) + 1 := by omega
    rw [e]
    simp only [zerosFor]
    have e2 : (n + 1) * z.length = z.length + n * z.length := by rw [Nat.add_mul]; omega
    rw [e2, ← List.drop_drop, List.drop_append_of_le_length (Nat.le_refl _), List.drop_length, List.nil_append]
    exact zerosFor_drop m n
theorem list_first {w : Bool × Bool} {H : AHeap} {s : Sh} {sz len cap : Nat} {a : Option Addr} {ns : List Int} {ss : List ByteArray} {D : List Nat} (hsz : 0 < sz) (hf : ∀ i, i < sz → i ∈ s.cells)
    (hL : (cnt false len cap = 0 ∧ ns = [] ∧ ss = [] ∧ D = []) ∨ ∃ b off sp r D', a = some ⟨b, off, sp⟩ ∧ H.row b = some r ∧ (w.1 = true → Wm ⟨false, w.1, w.2⟩ r) ∧ D = b :: D' ∧ RdN (Rd H ⟨false, w.1, w.2⟩ s) r.cs sz (cnt false len cap) off ns ss D') (h0 : a = none → len = 0) :
    ∃ cells, newElems sz (.slice a len cap) H = some (len, cells) ∧ cells.length = len * sz ∧ ((len = 0 ∧ cells = [] ∧ ns = [] ∧ ss = [] ∧ D = []) ∨ ∃ b off r D', cells = (r.cs.drop off).take (len * sz) ∧ H.row b = some r ∧ D = b :: D' ∧ RdN (Rd H ⟨false, w.1, w.2⟩ s) r.cs sz len off ns ss D') := by
  have hcn : cnt false len cap = len := rfl
  rw [hcn] at hL
  rcases hL with ⟨rfl, rfl, rfl, rfl⟩ | ⟨b, off, sp, r, D', rfl, k2, k3, rfl, k5⟩
  · refine ⟨[], ?_, by simp, .inl ⟨rfl, rfl, rfl, rfl, rfl⟩⟩
    cases a with
    | none => exact newElems_nil
    | some a => simp [show Nat.ble 0 0 = true from rfl, newElems, lenV, vSl, firstCellsA, firstSl, rowCells]
  · obtain ⟨h1, h2⟩ := list_cells hsz hf k5
    exact ⟨_, newElems_of k2 rfl h1 h2, h1, .inr ⟨b, off, r, D', rfl, k2, rfl, k5⟩⟩
theorem CopOK.flat {E : Env} {f : FuncId} {e sz : Nat} {z : List Value} {s : Sh} {nz : List Int} {tz : List ByteArray} (hc : CopOK E f e sz z) (hs : s.flat = true) (hsz : 0 < sz) (hf : ∀ i, i < sz → i ∈ s.cells) (hlt : ∀ i ∈ s.cells, i < sz) (hzl : z.length = sz) (hz : ∀ H, Rd H ⟨true, true, false⟩ s z 0 nz tz []) (hn : nz.length ≤ 10) (ht : tz.length ≤ 10) : OwnL E f sz s := by
  intro w H a len cap ns ss D hR hD l1 l2 l3
  obtain ⟨a', len', cap', hcv, ⟨hlc, hcn⟩, -, ns1, rfl, hL⟩ := hR
  simp only [List.getElem?_cons_zero, Option.some.injEq, Value.slice.injEq] at hcv
  obtain ⟨rfl, rfl, rfl⟩ := hcv
  have hL' := hL
  obtain ⟨cells, h1, h2, h3⟩ := list_first (a := a) hsz hf hL (fun ha => by
    subst ha
    rcases hL' with h | ⟨_, _, _, _, _, h, -⟩
    · exact h.1
    · cases h)
  refine (hc H a len cap cells h1 h2 (fun x hx => by
    rcases hL' with h | ⟨b, off, sp, r, D', h, -, -, rfl, -⟩
    · exact .inl h.1
    · rw [h] at hx; cases hx; exact .inr (hD _ List.mem_cons_self)) l3).mono ?_
  rintro ⟨v, G⟩ ⟨rfl, hnx, hrow, hk⟩
  refine ⟨⟨_, _, _, rfl⟩, by rw [hnx]; exact Nat.le_succ _, hk, ?_⟩
  have hzc : ∀ k, k < 2 → Rd G ⟨true, true, false⟩ s (cells ++ zerosFor z 2) (0 + (len + k) * sz) nz tz [] := by
    intro k hk2
    have := (hz G).flatten hs
    refine this.2 G ⟨true, true, false⟩ _ _ fun i hi => ?_
    have hi' := hlt i hi
    have e1 : 0 + (len + k) * sz + i = cells.length + (k * sz + i) := by rw [h2, Nat.add_mul]; omega
    rw [e1, List.getElem?_append_right (by omega), Nat.add_sub_cancel_left, ← hzl, zerosFor_get hk2 (by omega), Nat.zero_add]
  have hfirst : D.length = D.length ∧ ∃ ns0 ss0, ns0.length = ns1.length ∧ ss0.length = ss.length ∧ RdN (Rd G ⟨true, true, false⟩ s) (cells ++ zerosFor z 2) sz len 0 ns0 ss0 [] := by
    refine ⟨rfl, ns1, ss, rfl, rfl, ?_⟩
    rcases h3 with ⟨rfl, rfl, rfl, rfl, rfl⟩ | ⟨b, off, r, D', rfl, k2, rfl, k5⟩
    · exact ⟨rfl, rfl, rfl⟩
    · refine (RdN.imp2 (o' := 0) (R' := Rd G ⟨true, true, false⟩ s) (cs' := (r.cs.drop off).take (len * sz) ++ zerosFor z 2) (fun i hi ns ss D'' hr => ?_) k5).2
      obtain ⟨rfl, hr2⟩ := hr.flatten hs
      refine ⟨rfl, hr2 G ⟨true, true, false⟩ _ _ fun c hcc => ?_⟩
      have hc' := hlt c hcc
      have hlt2 : i * sz + c < len * sz := by
        have : (i + 1) * sz ≤ len * sz := Nat.mul_le_mul_right sz hi
        rw [Nat.add_mul] at this; omega
      rw [Nat.zero_add, List.getElem?_append_left (by rw [h2]; exact hlt2), List.getElem?_take_of_lt hlt2, List.getElem?_drop, Nat.add_assoc]
  obtain ⟨-, ns0, ss0, e1, e2, hN⟩ := hfirst
  have hN2 := (hN.snoc (by simpa using hzc 0 (by omega))).snoc (by simpa using hzc 1 (by omega))
  refine ⟨(len : Int) :: (ns0 ++ nz ++ nz), ss0 ++ tz ++ tz, [H.next], ⟨_, len, len + 2, rfl, ⟨by omega, by simp only [cnt, if_true]; omega⟩, fun _ => rfl, _, rfl, .inr ⟨H.next, 0, none, _, [], rfl, hrow, fun _ => .inl rfl, rfl, by simpa [cnt] using hN2⟩⟩, by simp, ?_, ?_, ?_⟩
  · intro j hj
    simp only [List.mem_singleton] at hj
    subst hj
    exact ⟨Nat.le_refl _, by show H.next < G.next; rw [hnx]; exact Nat.lt_succ_self _⟩
  · simp only [List.length_cons, List.length_append]; omega
  · simp only [List.length_cons, List.length_append]; omega
end Go.Eng

namespace Go.Eng
open Go
theorem oneC_slice {a : Option Addr} {l c : Nat} : oneC (.slice a l c) = true := rfl
theorem goodAgg {cs : List Value} {n : Nat} (h : cs.length = n) (ho : cs.all oneC = true) : goodCells (.agg cs.toArray) n = some cs := by
  have h2 : (cellsV (.agg cs.toArray)) = cs := by simp [cellsV]
  have h3 : Nat.beq cs.length n = true := by rw [h]; exact Nat.beq_refl n
  simp only [goodCells, isTup, h2, ho, h3, Bool.not_false, Bool.and_self, cond_true]
theorem boxAgg {cs : List Value} (ho : cs.all oneC = true) : (!isTup (.agg cs.toArray) && (cellsV (.agg cs.toArray)).all oneC) = true := by
  have h2 : (cellsV (.agg cs.toArray)) = cs := by simp [cellsV]
  rw [h2, ho]; rfl
def OwnedP (lo hi : Nat) (H : AHeap) (s : Sh) (cs : List Value) (o : Nat) (N S : Nat) : Prop :=
  ∃ ns ss D, Rd H ⟨true, true, false⟩ s cs o ns ss D ∧ D.Nodup ∧ (∀ j ∈ D, lo ≤ j ∧ j < hi) ∧ ns.length ≤ 21 * N ∧ ss.length ≤ S + 21 * N
theorem OwnedP.nil {lo hi : Nat} {H : AHeap} {cs : List Value} {o : Nat} : OwnedP lo hi H .nil cs o 0 0 := ⟨[], [], [], ⟨rfl, rfl, rfl⟩, .nil, fun _ h => absurd h List.not_mem_nil, Nat.le_refl _, Nat.le_refl _⟩
theorem OwnedP.flat {lo hi o : Nat} {H H0 : AHeap} {s : Sh} {cs cs' : List Value} {o' : Nat} {ns : List Int} {ss : List ByteArray} {D : List Nat} {room : Md} (hs : s.flat = true) (h : Rd H0 room s cs o ns ss D) (hc : ∀ i ∈ s.cells, cs'[o' + i]? = cs[o + i]?) : OwnedP lo hi H s cs' o' ns.length ss.length :=
  ⟨ns, ss, [], (h.flatten hs).2 H ⟨true, true, false⟩ cs' o' hc, .nil, fun _ h => absurd h List.not_mem_nil, by omega, by omega⟩
theorem OwnedP.of {H0 H1 H : AHeap} {s : Sh} {cs cs' : List Value} {o : Nat} {ns : List Int} {ss : List ByteArray} (h : Owned H0 H1 s cs ns ss) (hr : ∀ j, H0.next ≤ j → j < H1.next → H.row j = H1.row j) (hc : ∀ i ∈ s.cells, cs'[o + i]? = cs[0 + i]?) : OwnedP H0.next H1.next H s cs' o ns.length ss.length := by
  obtain ⟨ns', ss', D, h1, h2, h3, h4, h5⟩ := h.ex
  refine ⟨ns', ss', D, Rd.shift (fun j hj => hr j (h3 j hj).1 (h3 j hj).2) hc h1, h2, h3, h4, h5⟩
  where
  Rd.shift {H H' : AHeap} {room : Md} : ∀ {s : Sh} {cs cs' : List Value} {o o' : Nat} {ns : List Int} {ss : List ByteArray} {D : List Nat}, (∀ j ∈ D, H'.row j = H.row j) → (∀ i ∈ s.cells, cs'[o' + i]? = cs[o + i]?) → Rd H room s cs o ns ss D → Rd H' room s cs' o' ns ss D
  | .num k, cs, cs', o, o', ns, ss, D, _, hc, h => by
    obtain ⟨v, h1, h2⟩ := h
    exact ⟨v, by have := hc 0 (by simp [Sh.cells]); rw [Nat.add_zero, Nat.add_zero] at this; rw [this]; exact h1, h2⟩
  | .bool, cs, cs', o, o', ns, ss, D, _, hc, h => by
    obtain ⟨v, h1, h2⟩ := h
    exact ⟨v, by have := hc 0 (by simp [Sh.cells]); rw [Nat.add_zero, Nat.add_zero] at this; rw [this]; exact h1, h2⟩
  | .str, cs, cs', o, o', ns, ss, D, _, hc, h => by
    obtain ⟨v, h1, h2⟩ := h
    exact ⟨v, by have := hc 0 (by simp [Sh.cells]); rw [Nat.add_zero, Nat.add_zero] at this; rw [this]; exact h1, h2⟩
  | .list sz s, cs, cs', o, o', ns, ss, D, hr, hc, h => by
    have hf := Rd.frame (s := .list sz s) hr h
    obtain ⟨a, len, cap, h1, h2⟩ := hf
    exact ⟨a, len, cap, by have := hc 0 (by simp [Sh.cells]); rw [Nat.add_zero, Nat.add_zero] at this; rw [this]; exact h1, h2⟩
  | .nil, _, _, _, _, _, _, _, _, _, h => h
  | .fld off s r, cs, cs', o, o', ns, ss, D, hr, hc, h => by
    obtain ⟨n1, s1, D1, n2, s2, D2, h1, h2, rfl, rfl, rfl⟩ := h
    refine ⟨n1, s1, D1, n2, s2, D2, Rd.shift (fun j hj => hr j (List.mem_append_left _ hj)) (fun i hi => ?_) h1, Rd.shift (fun j hj => hr j (List.mem_append_right _ hj)) (fun i hi => ?_) h2, rfl, rfl, rfl⟩
    · have := hc (off + i) (by simp only [Sh.cells, List.mem_append, List.mem_map]; exact .inl ⟨i, hi, rfl⟩)
      rw [Nat.add_assoc, Nat.add_assoc]; exact this
    · exact hc i (by simp only [Sh.cells, List.mem_append]; exact .inr hi)
theorem Rd.shift {H H' : AHeap} {room : Md} {s : Sh} {cs cs' : List Value} {o o' : Nat} {ns : List Int} {ss : List ByteArray} {D : List Nat} (h1 : ∀ j ∈ D, H'.row j = H.row j) (h2 : ∀ i ∈ s.cells, cs'[o' + i]? = cs[o + i]?) (h : Rd H room s cs o ns ss D) : Rd H' room s cs' o' ns ss D :=
  OwnedP.of.Rd.shift h1 h2 h
theorem OwnedP.fld {lo mid hi off o N1 S1 N2 S2 : Nat} {H : AHeap} {s r : Sh} {cs : List Value} (h1 : OwnedP lo mid H s cs (o + off) N1 S1) (h2 : OwnedP mid hi H r cs o N2 S2) (a : lo ≤ mid) (b : mid ≤ hi) : OwnedP lo hi H (.fld off s r) cs o (N1 + N2) (S1 + S2) := by
  obtain ⟨n1, s1, D1, k1, k2, k3, k4, k5⟩ := h1
  obtain ⟨n2, s2, D2, m1, m2, m3, m4, m5⟩ := h2
  refine ⟨n1 ++ n2, s1 ++ s2, D1 ++ D2, ⟨n1, s1, D1, n2, s2, D2, k1, m1, rfl, rfl, rfl⟩, List.nodup_append.2 ⟨k2, m2, fun x hx y hy e => ?_⟩, fun j hj => ?_, ?_, ?_⟩
  · have := k3 x hx; have := m3 y hy; omega
  · rcases List.mem_append.1 hj with h | h
    · have := k3 j h; omega
    · have := m3 j h; omega
  · simp only [List.length_append]; omega
  · simp only [List.length_append]; omega
theorem OwnedP.wide {lo hi lo' hi' o N S : Nat} {H : AHeap} {s : Sh} {cs : List Value} (h : OwnedP lo hi H s cs o N S) (a : lo' ≤ lo) (b : hi ≤ hi') : OwnedP lo' hi' H s cs o N S := by
  obtain ⟨n1, s1, D1, k1, k2, k3, k4, k5⟩ := h
  exact ⟨n1, s1, D1, k1, k2, fun j hj => by have := k3 j hj; omega, k4, k5⟩
theorem Owned.ofP {H H' : AHeap} {s : Sh} {cs : List Value} {ns : List Int} {ss : List ByteArray} {N S : Nat} (h : OwnedP H.next H'.next H' s cs 0 N S) (hn : H.next ≤ H'.next) (hk : ∀ j, j < H.next → H'.row j = H.row j) (eN : N = ns.length) (eS : S = ss.length) : Owned H H' s cs ns ss := by
  subst eN; subst eS
  exact ⟨hn, hk, h⟩
def Sh.shows : Sh → Bool
  | .num _ | .bool | .str | .list _ _ => true
  | .nil => false
  | .fld _ s r => s.shows || r.shows
theorem Rd.shown {H : AHeap} {room : Md} : ∀ {s : Sh} {cs : List Value} {o : Nat} {ns : List Int} {ss : List ByteArray} {D : List Nat}, s.shows = true → Rd H room s cs o ns ss D → 1 ≤ ns.length + ss.length
  | .num k, _, _, _, _, _, _, h => by obtain ⟨_, _, _, rfl, rfl, _⟩ := h; simp
  | .bool, _, _, _, _, _, _, h => by obtain ⟨_, _, rfl, rfl, _⟩ := h; simp
  | .str, _, _, _, _, _, _, h => by obtain ⟨_, _, rfl, rfl, _⟩ := h; simp
  | .list _ _, _, _, _, _, _, _, h => by obtain ⟨_, _, _, _, _, _, _, rfl, _⟩ := h; simp only [List.length_cons]; omega
  | .nil, _, _, _, _, _, hs, _ => by cases hs
  | .fld _ s r, _, _, _, _, _, hs, h => by
    obtain ⟨n1, s1, D1, n2, s2, D2, h1, h2, rfl, rfl, rfl⟩ := h
    simp only [Sh.shows, Bool.or_eq_true] at hs
    simp only [List.length_append]
    rcases hs with hs | hs
    · have := Rd.shown hs h1; omega
    · have := Rd.shown hs h2; omega
theorem RdN.shown {H : AHeap} {room : Md} {s : Sh} {cs : List Value} {sz : Nat} (hs : s.shows = true) : ∀ {n o : Nat} {ns : List Int} {ss : List ByteArray} {D : List Nat}, RdN (Rd H room s) cs sz n o ns ss D → n ≤ ns.length + ss.length
  | 0, _, _, _, _, _ => Nat.zero_le _
  | n + 1, o, ns, ss, D, h => by
    obtain ⟨n1, s1, D1, n2, s2, D2, h1, h2, rfl, rfl, rfl⟩ := h
    have := Rd.shown hs h1
    have := RdN.shown hs h2
    simp only [List.length_append]; omega
theorem list_len {w : Bool × Bool} {H : AHeap} {s : Sh} {sz o len cap : Nat} {a : Option Addr} {cs : List Value} {ns : List Int} {ss : List ByteArray} {D : List Nat} (h : Rd H ⟨false, w.1, w.2⟩ (.list sz s) cs o ns ss D) (hc : cs[o]? = some (.slice a len cap)) (l1 : ns.length ≤ 10000000) (l2 : ss.length ≤ 10000000) (hs : s.shows = true) : len ≤ 900000000 := by
  obtain ⟨a', len', cap', hc', -, -, n1, rfl, h5⟩ := h
  rw [hc] at hc'
  cases hc'
  rcases h5 with ⟨h, -⟩ | ⟨b, off, sp, r, D', -, -, -, -, k5⟩
  · have : len = 0 := h
    omega
  · have := k5.shown hs
    have e : cnt false len cap = len := rfl
    rw [e] at this
    simp only [List.length_cons] at l1
    omega
end Go.Eng

namespace Go.Eng
open Go
def EyeAt (tI tS tE : Nat) (H : AHeap) (e lo hi : Nat) (ns : List Int) (ss : List ByteArray) : Prop := ∃ cs, H.row e = some ⟨tE, true, true, cs⟩ ∧ EyeV tI tS H lo hi cs 0 ns ss
theorem EyeAt.frame {tI tS tE : Nat} {H H' : AHeap} {e lo hi : Nat} {ns : List Int} {ss : List ByteArray} (h : EyeAt tI tS tE H e lo hi ns ss) (he : H'.row e = H.row e) (hr : ∀ j, lo ≤ j → j < hi → H'.row j = H.row j) : EyeAt tI tS tE H' e lo hi ns ss := by
  obtain ⟨cs, h1, h2⟩ := h
  exact ⟨cs, by rw [he]; exact h1, h2.frame (Nat.le_refl _) hr (fun _ _ => rfl)⟩
section
variable {E : Env} {tI tS tE : Nat} {s : Sh} {H : AHeap} {be : Nat} {room : Md} {a : Int} {bx : Nat} {ns : List Int} {ss : List ByteArray} {D : List Nat} {f : FuncId}
theorem SeeOK.reads (hf : SeeOK E tI tS f s) (he : H.row be = some ⟨tE, true, true, [.slice none 0 0, .slice none 0 0, .bool false, .int .i64 a, .bool room.r]⟩) (hb : be < H.next) {r : Row} (hx : H.row bx = some r) (hw : room.w = true → Wm room r) (hwm : s.bools = true → room.w = true) (hR : Rd H room s r.cs 0 ns ss D) (hbx : bx < H.next) (hD : ∀ j ∈ D, j < H.next) (h1 : bx ≠ be) (h2 : be ∉ D) (l1 : ns.length ≤ 1000000000) (l2 : ss.length ≤ 1000000000) :
    WF E f [.pointer (some ⟨be, 0, none⟩), .pointer (some ⟨bx, 0, none⟩)] H fun q => EyeAt tI tS tE q.2 be H.next q.2.next ns ss ∧ H.next ≤ q.2.next ∧ ∀ j, j < H.next → j ≠ be → q.2.row j = H.row j := by
  refine (hf.read (Eye.ofCells he rfl rfl rfl rfl rfl rfl hb) hx hw hwm hR hbx hD h1 h2 l1 l2).mono ?_
  rintro ⟨v, G⟩ ⟨a', re', Fn, Fs, he', hF1, hF2, hER, hn1, hk1⟩
  refine ⟨⟨re'.cs, ?_, he'.toV hF1 hF2 (Nat.le_refl _)⟩, hn1, hk1⟩
  have h3 := he'.row
  have h4 := he'.rw
  obtain ⟨e1, e2, -⟩ := hER
  obtain ⟨e, w, rw', c⟩ := re'
  simp_all
theorem SeeOK.readsO (hf : SeeOK E tI tS f s) (he : H.row be = some ⟨tE, true, true, [.slice none 0 0, .slice none 0 0, .bool false, .int .i64 a, .bool room.r]⟩) (hb : be < H.next) (hrm : room.w = true) (hx : Own H room s bx ns ss D) (h1 : bx ≠ be) (h2 : be ∉ D) (l1 : ns.length ≤ 1000000000) (l2 : ss.length ≤ 1000000000) :
    WF E f [.pointer (some ⟨be, 0, none⟩), .pointer (some ⟨bx, 0, none⟩)] H fun q => EyeAt tI tS tE q.2 be H.next q.2.next ns ss ∧ H.next ≤ q.2.next ∧ ∀ j, j < H.next → j ≠ be → q.2.row j = H.row j := by
  obtain ⟨r, k1, k2, k3⟩ := hx.ex
  exact hf.reads he hb k1 (fun _ => .inl k2) (fun _ => hrm) k3 hx.lb hx.lD h1 h2 l1 l2
theorem SeeOK.marksO (hf : SeeOK E tI tS f s) (he : H.row be = some ⟨tE, true, true, [.slice none 0 0, .slice none 0 0, .bool true, .int .i64 a, .bool room.r]⟩) (hb : be < H.next) (hrm : room.w = true) (hkm : room.k = false) (hx : Own H room s bx ns ss D) (h1 : bx ≠ be) (h2 : be ∉ D) (l1 : ns.length ≤ 1000000000) (l2 : ss.length ≤ 1000000000) :
    WF E f [.pointer (some ⟨be, 0, none⟩), .pointer (some ⟨bx, 0, none⟩)] H fun q => ∃ ns' ss', Own q.2 room s bx ns' ss' D ∧ ns'.length = ns.length ∧ ss'.length = ss.length ∧ H.next ≤ q.2.next ∧ ∀ j, j < H.next → j ≠ be → j ≠ bx → j ∉ D → q.2.row j = H.row j :=
  hf.marks (Eye.ofCells he rfl rfl rfl rfl rfl rfl hb) hrm hkm hx h1 h2 l1 l2
end
def CallOK' (E : Env) (tI tS tF : Nat) (f : FuncId) (s : Sh) : Prop :=
  ∀ H bx ns ss D, Own H ⟨true, true, false⟩ s bx ns ss D → ns.length ≤ 63000 → ss.length ≤ 300000000 →
    WF E f [.pointer (some ⟨bx, 0, none⟩)] H fun q => ∃ L, ResV q.2 tF q.1 L H.next q.2.next ∧ ResAll E tI tS q.2 H.next q.2.next L ∧ H.next ≤ q.2.next ∧ ∀ j, j < H.next → q.2.row j = H.row j
theorem EyeAt.load {tI tS tE : Nat} {H : AHeap} {e lo hi : Nat} {ns : List Int} {ss : List ByteArray} (h : EyeAt tI tS tE H e lo hi ns ss) : ∃ cs nv sv mk a rm Fn Fs, H.row e = some ⟨tE, true, true, cs⟩ ∧ takeN 5 (cs.drop 0) = some [nv, sv, .bool mk, .int .i64 a, .bool rm] ∧ Lst H tI 1 nv (ns.map (Value.int .i64)) Fn ∧ Lst H tS 1 sv (ss.map Value.string) Fs ∧ (∀ j ∈ Fn, lo ≤ j ∧ j < hi) ∧ ∀ j ∈ Fs, lo ≤ j ∧ j < hi := by
  obtain ⟨cs, h1, h2⟩ := h
  obtain ⟨nv, sv, mk, a, rm, Fn, Fs, t1, t2⟩ := h2.take
  exact ⟨cs, nv, sv, mk, a, rm, Fn, Fs, h1, t1, t2⟩
theorem ResAll.mark {E : Env} {tI tS : Nat} {H H' : AHeap} {lo hi k : Nat} {L : List R1} {r : R1} {ns' : List Int} {ss' : List ByteArray} (h : ResAll E tI tS H lo hi L) (hk : L[k]? = some r) (hr : Res1 E tI tS H' r.v ns' ss' r.D) (hn : H.next ≤ H'.next) (hs : ∀ j, lo ≤ j → j < hi → j ∉ r.D → H'.row j = H.row j) :
    ResAll E tI tS H' lo hi (L.set k ⟨r.v, ns', ss', r.D⟩) := by
  have hkl := (List.getElem?_eq_some_iff.1 hk).1
  have hmem : ∀ (i : Nat) (q : R1), (L.set k ⟨r.v, ns', ss', r.D⟩)[i]? = some q → (i = k ∧ q = ⟨r.v, ns', ss', r.D⟩) ∨ (i ≠ k ∧ L[i]? = some q) := by
    intro i q hq
    rw [List.getElem?_set] at hq
    by_cases hik : k = i
    · subst hik
      rw [if_pos rfl, if_pos hkl] at hq
      exact .inl ⟨rfl, (Option.some.inj hq).symm⟩
    · rw [if_neg hik] at hq
      exact .inr ⟨fun e => hik e.symm, hq⟩
  have hD : ∀ (i : Nat) (q : R1), (L.set k ⟨r.v, ns', ss', r.D⟩)[i]? = some q → ∃ p, L[i]? = some p ∧ p.D = q.D := by
    intro i q hq
    rcases hmem i q hq with ⟨rfl, rfl⟩ | ⟨-, h⟩
    · exact ⟨r, hk, rfl⟩
    · exact ⟨q, h, rfl⟩
  refine ⟨fun q hq => ?_, fun q hq j hj => ?_, fun i m him p q hp hq j hj => ?_, by rw [List.length_set]; exact h.few⟩
  · obtain ⟨i, hi⟩ := List.getElem?_of_mem hq
    rcases hmem i q hi with ⟨rfl, rfl⟩ | ⟨hik, hi'⟩
    · exact hr
    · have hqm := List.mem_of_getElem? hi'
      refine (h.one q hqm).frame hn fun j hj => hs j (h.rng q hqm j hj).1 (h.rng q hqm j hj).2 (h.dis i k hik q r hi' hk j hj)
  · obtain ⟨i, hi⟩ := List.getElem?_of_mem hq
    obtain ⟨p, hp, hpD⟩ := hD i q hi
    exact h.rng p (List.mem_of_getElem? hp) j (hpD ▸ hj)
  · obtain ⟨p', hp', e1⟩ := hD i p hp
    obtain ⟨q', hq', e2⟩ := hD m q hq
    rw [← e2]
    exact h.dis i m him p' q' hp' hq' j (by rw [e1]; exact hj)
theorem ResV.mark {H H' : AHeap} {tF : Nat} {v : Value} {L : List R1} {lo hi k : Nat} {r : R1} {ns' : List Int} {ss' : List ByteArray} (h : ResV H tF v L lo hi) (hk : L[k]? = some r) (hs : ∀ j, lo ≤ j → j < hi → j ∉ r.D → H'.row j = H.row j) : ResV H' tF v (L.set k ⟨r.v, ns', ss', r.D⟩) lo hi := by
  have hkl := (List.getElem?_eq_some_iff.1 hk).1
  have hLk : L[k] = r := by
    have := List.getElem?_eq_getElem hkl
    rw [hk] at this; exact (Option.some.inj this).symm
  rcases h with ⟨h, rfl⟩ | ⟨b, h1, h2, h3, h4, h5⟩
  · simp at hkl
  · refine .inr ⟨b, by rw [List.length_set]; exact h1, ?_, h3, h4, fun q hq hb => ?_⟩
    · rw [hs b h3 h4 (h5 r (List.mem_of_getElem? hk)), h2]
      congr 2
      apply List.ext_getElem?
      intro i
      rw [List.getElem?_map, List.getElem?_map, List.getElem?_set]
      by_cases hik : k = i
      · subst hik; rw [if_pos rfl, if_pos hkl, hk]; rfl
      · rw [if_neg hik]
    · rcases List.mem_or_eq_of_mem_set hq with hq | rfl
      · exact h5 q hq hb
      · exact h5 r (List.mem_of_getElem? hk) hb
end Go.Eng

namespace Go.Eng
open Go
def Frh (H H' : AHeap) : Prop := H.next ≤ H'.next ∧ ∀ j, j < H.next → H'.row j = H.row j
end Go.Eng

namespace Go.Eng
open Go
structure NL (H0 A : AHeap) (e sz : Nat) (k : IntKind) (v : Value) (us : List Int) (D : List Nat) : Prop where
  l : Lst A e sz v (us.map (Value.int k)) D
  w : ∀ u ∈ us, k.wrap u = u
  f : Frh H0 A
  d : ∀ j ∈ D, H0.next ≤ j ∧ j < A.next
theorem boundV_nat {m n : Nat} {k : IntKind} (h : n ≤ m) : boundV m (.int k (n : Int)) = some n := by simp [boundV, vNat, vInt, iNat, ble_nat.2 h]
theorem no_res {E : Env} {tI tS tF : Nat} {H E1 : AHeap} (hk : Frh H E1) : ∃ L, ResV E1 tF (.slice none 0 0) L H.next E1.next ∧ ResAll E tI tS E1 H.next E1.next L ∧ H.next ≤ E1.next ∧ ∀ j, j < H.next → E1.row j = H.row j :=
  ⟨[], .inl ⟨rfl, rfl⟩, ⟨fun _ h => absurd h List.not_mem_nil, fun _ h => absurd h List.not_mem_nil, fun i k _ r q h => by simp at h, by simp⟩, hk.1, hk.2⟩
theorem one_res {E : Env} {tI tS tF : Nat} {H E1 : AHeap} {f : FuncId} {s : Sh} {ba bl : Nat} {ns : List Int} {ss : List ByteArray} {D : List Nat} (hx : E.ext f = none) (hs : SeeOK E tI tS f s) (ho : Own E1 ⟨false, true, false⟩ s ba ns ss D) (hb : H.next ≤ ba) (hD : ∀ j ∈ D, H.next ≤ j)
    (hl : E1.row bl = some ⟨tF, true, true, [.func (.func f) #[] #[.pointer (some ⟨ba, 0, none⟩)]]⟩) (h1 : H.next ≤ bl) (h2 : bl < E1.next) (h3 : bl ≠ ba) (h4 : bl ∉ D) (l1 : ns.length ≤ 1000000000) (l2 : ss.length ≤ 1000000000) (hk : Frh H E1) :
    ∃ L, ResV E1 tF (.slice (some ⟨bl, 0, none⟩) 1 1) L H.next E1.next ∧ ResAll E tI tS E1 H.next E1.next L ∧ H.next ≤ E1.next ∧ ∀ j, j < H.next → E1.row j = H.row j := by
  refine ⟨[⟨_, ns, ss, ba :: D⟩], .inr ⟨bl, rfl, hl, h1, h2, fun r hr => ?_⟩, ⟨fun r hr => ?_, fun r hr j hj => ?_, fun i k hik r q hi hq => ?_, by simp⟩, hk.1, hk.2⟩
  · simp only [List.mem_singleton] at hr
    subst hr
    intro h
    rcases List.mem_cons.1 h with h | h
    · exact h3 h
    · exact h4 h
  · simp only [List.mem_singleton] at hr
    subst hr
    exact ⟨⟨f, s, ba, D, rfl, hx, hs, ho, rfl⟩, l1, l2⟩
  · simp only [List.mem_singleton] at hr
    subst hr
    rcases List.mem_cons.1 hj with rfl | h
    · exact ⟨hb, ho.lb⟩
    · exact ⟨hD j h, ho.lD j h⟩
  · have e1 := (List.getElem?_eq_some_iff.1 hi).1
    have e2 := (List.getElem?_eq_some_iff.1 hq).1
    simp only [List.length_singleton] at e1 e2
    omega
end Go.Eng

namespace Go.Eng
open Go
def Fits (P : Program) : Sh → TypeId → Prop
  | .num k, t => P.underlying t = some (.int k)
  | .bool, t => P.underlying t = some .bool
  | .str, t => P.underlying t = some .string
  | .list sz s, t => ∃ e, P.underlying t = some (.slice e) ∧ P.cellsOf e = sz ∧ 0 < sz ∧ (∀ i, i < sz → i ∈ s.cells) ∧ (∀ i ∈ s.cells, i < sz) ∧ (Fits P s e ∨ ∃ gs : Array Field, P.underlying e = some (.struct gs) ∧ go s gs.toList 0 (P.cellsOf e))
  | .nil, _ => False
  | .fld _ _ _, _ => False
  where
  go : Sh → List Field → Nat → Nat → Prop
  | .nil, fs, o, n => fs = [] ∧ o = n
  | .fld off s r, fs, o, n => ∃ f fs', fs = f :: fs' ∧ f.offset = o ∧ off = o ∧ go r fs' (o + P.cellsOf f.type) n ∧ (Fits P s f.type ∨ ∃ gs : Array Field, P.underlying f.type = some (.struct gs) ∧ go s gs.toList 0 (P.cellsOf f.type))
  | _, _, _, _ => False
structure Msr {H : Type} (B : DataW H → Nat) : Prop where
  one : ∀ d, 1 ≤ B d
  sl : ∀ e s, 1 + (e.map B).sum ≤ B (.slice e s)
  agg : ∀ p, (p.map B).sum ≤ B (.agg p)
def Vws (H : AHeap) : Prop := ∀ i o, H.get i = some o → owned o = false
theorem view_row {G : Nat} {φ : Emb} {H : AHeap} {w : World} (h : HRel G φ H w) (hv : Vws H) {b shift : Nat} {C : Array Value} {e : TypeId} {fr : Nat × Nat} {cs : List Value} (hb : w.heap[b]? = some (.cells C e fr)) (hl : shift + cs.length ≤ C.size) (hz : ∀ k, k < cs.length → ¬ (fr.1 ≤ shift + k ∧ shift + k < fr.2)) (hc : LRel φ cs ((C.toList.drop shift).take cs.length)) :
    ∃ φ' H', HRel G φ' H' w ∧ Vws H' ∧ φ.le φ' ∧ H'.next = H.next + 1 ∧ H'.row H.next = some ⟨e, true, false, cs⟩ ∧ (∀ j, j < H.next → H'.row j = H.row j) ∧ φ' H.next = ⟨b, shift, C.size⟩ ∧ φ'.dom H.next := by
  have hle : φ.le (extEmb φ H.next ⟨b, shift, C.size⟩) := extEmb_le h.notNext
  have hsame : ∀ i p, H.get i = some p → extEmb φ H.next ⟨b, shift, C.size⟩ i = φ i := fun i p hi => hle.loc i (h.obj i p hi).1
  refine ⟨extEmb φ H.next ⟨b, shift, C.size⟩, H.new (.cells e true false cs), ⟨fun g hg => ?_, ?_, ?_, ?_⟩, ?_, hle, rfl, ?_, ?_, extEmb_self, extEmb_dom⟩
  · obtain ⟨h1, h2⟩ := h.glob g hg
    rw [hle.loc g h1]; exact ⟨.inl h1, h2⟩
  · intro i hi
    simp only [AHeap.next_new]
    rcases hi with hi | rfl
    · have := h.lt i hi; omega
    · omega
  · intro i p hi
    rw [AHeap.get_new] at hi
    split at hi
    · rename_i e1
      subst e1
      obtain rfl : AObj.cells e true false cs = p := by simpa using hi
      refine ⟨extEmb_dom, _, by rw [extEmb_self]; exact hb, ?_⟩
      rw [extEmb_self]
      exact .cells rfl hl (hc.mono hle) (fun x => by cases x) (fun _ => hz)
    · rw [hsame i p hi]
      obtain ⟨hd, ob, hob, hr⟩ := h.obj i p hi
      exact ⟨.inl hd, ob, hob, hr.mono hle⟩
  · intro i j p q hi hj hij hp
    exfalso
    rw [AHeap.get_new] at hi
    split at hi
    · obtain rfl : AObj.cells e true false cs = p := by simpa using hi
      cases hp
    · rw [hv i p hi] at hp; cases hp
  · intro i o hi
    rw [AHeap.get_new] at hi
    split at hi
    · obtain rfl : AObj.cells e true false cs = o := by simpa using hi
      rfl
    · exact hv i o hi
  · rw [row_new, if_pos rfl]; rfl
  · intro j hj
    rw [row_new, if_neg (by omega)]
theorem views_below {φ φ' : Emb} {H H' : AHeap} {w w' : World} (hv : Vws H) (h : Later φ H w φ' H' w') : RowKit.Below w.heap.size w w' :=
  ⟨h.os, h.tape, h.output, h.size, fun k hk => h.same k hk (by rintro ⟨i, o, hi, ho, _⟩; rw [hv i o hi] at ho; cases ho)⟩
theorem le_sum_of_mem : ∀ {l : List Nat} {x : Nat}, x ∈ l → x ≤ l.sum
  | y :: r, x, h => by
    rcases List.mem_cons.1 h with rfl | h
    · simp
    · have := le_sum_of_mem h; simp only [List.sum_cons]; omega
section
variable {K : Type} {enc : TypeId × Value → K} {P : Program} {w : World} {base : Nat} {spare : Nat → Bool} {held : Bool} {B : DataW K → Nat}
theorem int_wrap_wf {k : IntKind} {n : Int} (h : (Lit.int k n).wf = true) : k.wrap n = n := by
  cases k <;> simp [Lit.wf, IntKind.min, IntKind.max, IntKind.bits, IntKind.signed, IntKind.wrap] at h ⊢ <;> omega
theorem view_id {G : Nat} {φ : Emb} {H : AHeap} (h : HRel G φ H w) (L : Loc) : HRel G (extEmb φ H.next L) ⟨H.next + 1, H.objs⟩ w := by
  have hle : φ.le (extEmb φ H.next L) := extEmb_le h.notNext
  have hsame : ∀ i p, H.get i = some p → extEmb φ H.next L i = φ i := fun i p hi => hle.loc i (h.obj i p hi).1
  refine ⟨fun g hg => ?_, fun i hi => ?_, fun i p hi => ?_, fun i j p q hi hj hij hp => ?_⟩
  · obtain ⟨h1, h2⟩ := h.glob g hg
    rw [hle.loc g h1]; exact ⟨.inl h1, h2⟩
  · rcases hi with hi | rfl
    · have := h.lt i hi; exact Nat.lt_succ_of_lt this
    · exact Nat.lt_succ_self _
  · rw [hsame i p hi]
    obtain ⟨hd, ob, hob, hr⟩ := h.obj i p hi
    exact ⟨.inl hd, ob, hob, hr.mono hle⟩
  · rw [hsame i p hi, hsame j q hj]
    exact h.inj i j p q hi hj hij hp
def VR (_B : DataW K → Nat) (G : Nat) (w : World) (s : Sh) (cs : List Value) (bd : Nat) : Prop :=
  ∀ φ H, HRel G φ H w → Vws H → ∃ φ' H' acs ns ss D, HRel G φ' H' w ∧ Vws H' ∧ φ.le φ' ∧ H.next ≤ H'.next ∧ (∀ j, j < H.next → H'.row j = H.row j) ∧ LRel φ' acs cs ∧ acs.all oneC = true ∧ Rd H' ⟨false, true, true⟩ s acs 0 ns ss D ∧ (∀ j ∈ D, j < H'.next) ∧ ns.length + ss.length ≤ bd
theorem LRel.len {φ : Emb} : ∀ {a b : List Value}, LRel φ a b → a.length = b.length
  | _, _, .nil => rfl
  | _, _, .cons _ h => by simp only [List.length_cons, LRel.len h]
theorem LRel.app {φ : Emb} : ∀ {a b c d : List Value}, LRel φ a b → LRel φ c d → LRel φ (a ++ c) (b ++ d)
  | _, _, _, _, .nil, h => h
  | _, _, _, _, .cons k l, h => .cons k (LRel.app l h)
theorem elems_vr {G sz : Nat} {s : Sh} {Q : Nat → List Value} {f : Nat → Nat} (hin : ∀ i ∈ s.cells, i < sz) : ∀ (n : Nat), (∀ i, i < n → VR B G w s (Q i) (f i) ∧ (Q i).length = sz) → ∀ φ H, HRel G φ H w → Vws H →
    ∃ φ' H' acs ns ss D, HRel G φ' H' w ∧ Vws H' ∧ φ.le φ' ∧ H.next ≤ H'.next ∧ (∀ j, j < H.next → H'.row j = H.row j) ∧ LRel φ' acs ((List.range n).flatMap Q) ∧ acs.length = n * sz ∧ acs.all oneC = true ∧ RdN (Rd H' ⟨false, true, true⟩ s) acs sz n 0 ns ss D ∧ (∀ j ∈ D, j < H'.next) ∧ ns.length + ss.length ≤ ((List.range n).map f).sum
  | 0, _, φ, H, hH, hV => ⟨φ, H, [], [], [], [], hH, hV, φ.le_refl, Nat.le_refl _, fun _ _ => rfl, .nil, by simp, rfl, ⟨rfl, rfl, rfl⟩, fun _ h => absurd h List.not_mem_nil, by simp⟩
  | n + 1, h, φ, H, hH, hV => by
    obtain ⟨φ1, H1, a1, n1, s1, D1, p1, p2, p3, p4, p5, p6, p7, p8, p9, p10, p11⟩ := elems_vr hin n (fun i hi => h i (Nat.lt_succ_of_lt hi)) φ H hH hV
    obtain ⟨hv, hl⟩ := h n (Nat.lt_succ_self n)
    obtain ⟨φ2, H2, a2, n2, s2, D2, q1, q2, q3, q4, q5, q6, q7, q8, q9, q10⟩ := hv φ1 H1 p1 p2
    have hl2 : a2.length = sz := (LRel.len q6).trans hl
    refine ⟨φ2, H2, a1 ++ a2, n1 ++ n2, s1 ++ s2, D1 ++ D2, q1, q2, p3.trans q3, Nat.le_trans p4 q4, fun j hj => (q5 j (by omega)).trans (p5 j hj), ?_, by rw [List.length_append, p7, hl2, Nat.add_mul]; omega, by rw [List.all_append, p8, q7]; rfl, ?_, fun j hj => ?_, ?_⟩
    · rw [List.range_succ, List.flatMap_append]
      have := (p6.mono q3).app q6
      simpa using this
    · refine RdN.snoc (RdN.imp (fun i hi ns ss D' hD hr => ?_) p9) ?_
      · refine Rd.congr (fun j hj => q5 j (p10 j (hD j hj))) (fun k hk => ?_) hr
        have hk' := hin k hk
        have : i * sz + k < a1.length := by
          have : (i + 1) * sz ≤ n * sz := Nat.mul_le_mul_right sz hi
          rw [Nat.add_mul] at this
          omega
        rw [Nat.zero_add, List.getElem?_append_left this]
      · refine Rd.shift (fun j hj => rfl) (fun k hk => ?_) q8
        rw [Nat.zero_add, Nat.zero_add, List.getElem?_append_right (by omega), p7]
        congr 1; omega
    · rcases List.mem_append.1 hj with h | h
      · have := p10 j h; omega
      · exact q9 j h
    · rw [List.range_succ, List.map_append, List.sum_append]
      simp only [List.length_append, List.map_cons, List.map_nil, List.sum_cons, List.sum_nil]; omega
theorem flat_parts {X : List Value} {sz : Nat} : ∀ {n : Nat}, n * sz ≤ X.length → (List.range n).flatMap (fun i => (X.drop (i * sz)).take sz) = X.take (n * sz)
  | 0, _ => by simp
  | n + 1, h => by
    have h' : n * sz ≤ X.length := by rw [Nat.add_mul] at h; omega
    rw [List.range_succ, List.flatMap_append, flat_parts h', Nat.add_mul, Nat.one_mul, List.take_add]
    simp
theorem list_vr (hB : Msr B) {G : Nat} {sz : Nat} {s : Sh} {t : TypeId} (ht : Fits P (.list sz s) t)
    (ih : ∀ {e : TypeId}, (Fits P s e ∨ ∃ gs : Array Field, P.underlying e = some (.struct gs) ∧ Fits.go P s gs.toList 0 (P.cellsOf e)) → ∀ {fuel : Nat} {cs : List Value} {x : DataW K × List MemPlace}, cs.length = P.cellsOf e → DataW.trod enc P w base spare held fuel e cs = some x → w.noneFrozen x.2 → B x.1 ≤ 1000000000 → VR B G w s cs (B x.1))
    {fuel : Nat} {cs : List Value} {x : DataW K × List MemPlace} (hsp : ∀ b, spare b = true) (h : DataW.trod enc P w base spare held fuel t cs = some x) (hz : w.noneFrozen x.2) (hbd : B x.1 ≤ 1000000000) : VR B G w (.list sz s) cs (B x.1) := by
  intro φ H hH hV
  obtain ⟨e, he, hsz, hsz0, hfull, hin, hfe⟩ := ht
  rcases Deep.open_slice he h with ⟨rfl, rfl⟩ | ⟨a, len, cap, m, n, D, Pl, rfl, hb, hlc, hmx, hm, rfl, hel⟩
  · exact ⟨φ, H, _, [0], [], [], hH, hV, φ.le_refl, Nat.le_refl _, fun _ _ => rfl, .cons (.base rfl) .nil, rfl, ⟨none, 0, 0, rfl, ⟨Nat.le_refl _, by decide⟩, (fun h => by cases h), [], rfl, .inl ⟨rfl, rfl, rfl, rfl⟩⟩, fun _ h => absurd h List.not_mem_nil, by simpa using hB.one DataW.nil⟩
  · rw [hsp, if_pos rfl] at hm
    subst hm
    dsimp only at hbd
    by_cases hc0 : m = 0
    · subst hc0
      obtain rfl : len = 0 := by omega
      exact ⟨φ, H, [.slice (some ODD) 0 0], [0], [], [], hH, hV, φ.le_refl, Nat.le_refl _, fun _ _ => rfl, .cons .sl0 .nil, rfl, ⟨_, 0, 0, rfl, ⟨Nat.zero_le _, show 0 ≤ 1000000000 from Nat.zero_le _⟩, (fun h => by cases h), [], rfl, .inl ⟨rfl, rfl, rfl, rfl⟩⟩, fun _ h => absurd h List.not_mem_nil, by simpa using hB.one _⟩
    have hspot : a.spot = none := by
      obtain ⟨cs', h1, -⟩ := hel 0 (by omega)
      obtain ⟨-, hl', hc'⟩ := World.cells?_some h1
      rw [hsz] at hl' hc'
      have := hc' 0 hsz0
      have e0 : ((a.add (0 * sz)).add 0) = a := by simp [Addr.add]
      rw [e0, List.getElem?_eq_getElem (by omega)] at this
      unfold World.cell? at this
      split at this
      · split at this
        · cases this
        · rename_i hq; simpa using hq
      · cases this
    obtain ⟨ab, ao, asp⟩ := a
    simp only at hspot
    subst hspot
    have hbs := hB.sl ((List.range len).map D) ((List.range (m - len)).map fun j => D (len + j))
    have hsum : ((List.range len).map fun i => B (D i)).sum ≤ B (.slice ((List.range len).map D) ((List.range (m - len)).map fun j => D (len + j))) := by
      rw [List.map_map] at hbs
      have e : ((List.range len).map (B ∘ D)).sum = ((List.range len).map fun i => B (D i)).sum := rfl
      rw [e] at hbs; omega
    have hlen1 : len ≤ 1000000000 := by
      have : ∀ l : List (DataW K), l.length ≤ (l.map B).sum := by
        intro l
        induction l with
        | nil => simp
        | cons y r ih => have := hB.one y; simp only [List.length_cons, List.map_cons, List.sum_cons]; omega
      have := this ((List.range len).map D)
      rw [List.length_map, List.length_range] at this
      omega
    by_cases h0 : len = 0
    · subst h0
      refine ⟨_, _, [.slice (some ⟨H.next, ao, none⟩) 0 m], [0], [], [], view_id hH ⟨ab, 0, 0⟩, hV, extEmb_le hH.notNext, Nat.le_succ _, fun _ _ => rfl, .cons ?_ .nil, rfl, ⟨_, 0, m, rfl, ⟨Nat.zero_le _, show 0 ≤ 1000000000 from Nat.zero_le _⟩, (fun h => by cases h), [], rfl, .inl ⟨rfl, rfl, rfl, rfl⟩⟩, fun _ h => absurd h List.not_mem_nil, by simpa using hB.one _⟩
      have := VRel.sl (φ := extEmb φ H.next ⟨ab, 0, 0⟩) (i := H.next) (o := ao) (l := 0) (c := m) extEmb_dom
      rw [extEmb_self] at this
      simpa using this
    · -- the row of the block
      have hcell : ∀ i, i < len → ∀ j, j < sz → w.cell? ⟨ab, ao + i * sz + j, none⟩ ≠ none := by
        intro i hi j hj hn
        obtain ⟨cs', h1, h2⟩ := hel i (by omega)
        obtain ⟨-, hl', hc'⟩ := World.cells?_some h1
        rw [hsz] at hl' hc'
        have := hc' j hj
        have e : ((Addr.add ⟨ab, ao, none⟩ (i * sz)).add j) = ⟨ab, ao + i * sz + j, none⟩ := by
          unfold Addr.add
          by_cases q1 : i * sz = 0 <;> by_cases q2 : j = 0 <;> simp [q1, q2]
        rw [e, hn, List.getElem?_eq_getElem (by omega)] at this
        cases this
      obtain ⟨C, ce, fr, hC⟩ : ∃ C ce fr, w.heap[ab]? = some (.cells C ce fr) := by
        have := hcell 0 (by omega) 0 hsz0
        unfold World.cell? at this
        simp only at this
        split at this
        · rename_i C ce fr hq; exact ⟨C, ce, fr, hq⟩
        · exact absurd rfl this
      have hget : ∀ off, w.cell? ⟨ab, off, none⟩ = C[off]? := fun off => by simp [World.cell?, hC]
      have hbig : ao + len * sz ≤ C.size := by
        have := hcell (len - 1) (by omega) (sz - 1) (by omega)
        rw [hget] at this
        have hlt : ao + (len - 1) * sz + (sz - 1) < C.size := by
          by_cases hq : ao + (len - 1) * sz + (sz - 1) < C.size
          · exact hq
          · exact absurd (Array.getElem?_eq_none (by omega)) this
        have e : (len - 1) * sz + sz = len * sz := by
          obtain ⟨q, rfl⟩ : ∃ q, len = q + 1 := ⟨len - 1, by omega⟩
          simp [Nat.add_mul]
        omega
      have hes : ∀ i, i < len → VR B G w s (((C.toList.drop ao).drop (i * sz)).take sz) (B (D i)) ∧ (((C.toList.drop ao).drop (i * sz)).take sz).length = sz := by
        intro i hi
        obtain ⟨cs', h1, h2⟩ := hel i (by omega)
        obtain ⟨-, hl', hc'⟩ := World.cells?_some h1
        rw [hsz] at hl' hc'
        have hle : ao + i * sz + sz ≤ C.size := by
          have : (i + 1) * sz ≤ len * sz := Nat.mul_le_mul_right sz hi
          rw [Nat.add_mul] at this; omega
        have hlq : (((C.toList.drop ao).drop (i * sz)).take sz).length = sz := by
          rw [List.length_take, List.length_drop, List.length_drop, Array.length_toList]; omega
        have hcs : cs' = ((C.toList.drop ao).drop (i * sz)).take sz := by
          refine List.ext_getElem? fun j => ?_
          by_cases hj : j < sz
          · have := hc' j hj
            have e : ((Addr.add ⟨ab, ao, none⟩ (i * sz)).add j) = ⟨ab, ao + i * sz + j, none⟩ := by
              unfold Addr.add
              by_cases q1 : i * sz = 0 <;> by_cases q2 : j = 0 <;> simp [q1, q2]
            rw [e, hget] at this
            rw [List.getElem?_take_of_lt hj, List.getElem?_drop, List.getElem?_drop, ← this, Array.getElem?_toList, Nat.add_assoc]
          · rw [List.getElem?_eq_none (by omega), List.getElem?_eq_none (by omega)]
        rw [← hcs]
        refine ⟨ih hfe (by rw [hl', hsz]) h2 (fun b off hm => hz b off (List.mem_append_right _ (List.mem_flatMap.2 ⟨i, List.mem_range.2 (by omega), hm⟩))) ?_, by rw [hl']⟩
        have hmem : B (D i) ≤ ((List.range len).map fun i => B (D i)).sum := le_sum_of_mem (List.mem_map.2 ⟨i, List.mem_range.2 hi, rfl⟩)
        exact Nat.le_trans hmem (Nat.le_trans hsum hbd)
      have hacl : ((C.toList.drop ao).take (len * sz)).length = len * sz := by rw [List.length_take, List.length_drop, Array.length_toList]; omega
      have hunf : ∀ k, k < len * sz → ¬ (fr.1 ≤ ao + k ∧ ao + k < fr.2) := by
        intro k hk
        have hmk : len * sz ≤ m * sz := Nat.mul_le_mul_right sz hlc
        have := hz ab (ao + k) (List.mem_append_left _ (MemPlace.mem_row.2 ⟨k, by rw [hsz]; omega, rfl⟩))
        obtain ⟨lo, hi⟩ := fr
        simp only [World.frozen?, hC, Bool.and_eq_false_iff, decide_eq_false_iff_not] at this
        simp only; omega
      obtain ⟨φ1, H1, acs, ns1, ss1, D1, p1, p2, p3, p4, p5, p6, p7, p8, p9, p10, p11⟩ := elems_vr (sz := sz) hin len hes φ H hH hV
      rw [flat_parts (by rw [List.length_drop, Array.length_toList]; omega)] at p6
      obtain ⟨φ', H', r1, r2, r3, r4, r5, r6, r7, r8⟩ := view_row p1 p2 (b := ab) (shift := ao) (cs := acs) hC (by rw [p7]; exact hbig) (by rw [p7]; exact hunf) (by rw [p7]; exact p6)
      refine ⟨φ', H', [.slice (some ⟨H1.next, 0, none⟩) len m], (len : Int) :: ns1, ss1, H1.next :: D1, r1, r2, p3.trans r3, by omega, fun j hj => (r6 j (by omega)).trans (p5 j hj), .cons ?_ .nil, rfl, ⟨_, len, m, rfl, ⟨hlc, hlen1⟩, (fun h => by cases h), ns1, rfl, .inr ⟨H1.next, 0, none, _, D1, rfl, r5, (fun _ => .inr ⟨rfl, rfl⟩), rfl, ?_⟩⟩, fun j hj => ?_, ?_⟩
      · have := VRel.sl (φ := φ') (i := H1.next) (o := 0) (l := len) (c := m) r8
        rw [r7] at this
        simpa using this
      · exact RdN.imp (fun i hi ns ss D' hD hr => Rd.congr (fun j hj => r6 j (p10 j (hD j hj))) (fun k hk => rfl) hr) p9
      · rcases List.mem_cons.1 hj with rfl | hj
        · omega
        · have := p10 j hj; omega
      · simp only [List.length_cons]
        rw [List.map_map] at hbs
        have e : ((List.range len).map (B ∘ D)).sum = ((List.range len).map fun i => B (D i)).sum := rfl
        rw [e] at hbs
        omega
end
end Go.Eng

namespace Go.Eng
open Go
section
variable {K : Type} {enc : TypeId × Value → K} {P : Program} {w : World} {base : Nat} {spare : Nat → Bool} {held : Bool} {B : DataW K → Nat}
theorem go_le : ∀ {s : Sh} {fs : List Field} {o n : Nat}, Fits.go P s fs o n → o ≤ n
  | .nil, _, _, _, h => by obtain ⟨-, rfl⟩ := h; exact Nat.le_refl _
  | .fld _ _ r, _, o, n, h => by
    obtain ⟨f, fs', -, -, -, hr, -⟩ := h
    have := go_le hr
    omega
  | .num _, _, _, _, h => by cases h
  | .bool, _, _, _, h => by cases h
  | .str, _, _, _, h => by cases h
  | .list _ _, _, _, _, h => by cases h
def GoVR (B : DataW K → Nat) (enc : TypeId × Value → K) (P : Program) (w : World) (base : Nat) (spare : Nat → Bool) (held : Bool) (G : Nat) (s : Sh) : Prop :=
    ∀ {fs : List Field} {o n : Nat}, Fits.go P s fs o n → ∀ {fuel : Nat} {cs : List Value} {xs : List (DataW K × List MemPlace)}, cs.length = n → xs.length = fs.length → (∀ (i : Nat) (f : Field), fs[i]? = some f → DataW.trod enc P w base spare held fuel f.type ((cs.drop f.offset).take (P.cellsOf f.type)) = xs[i]?) →
      (∀ y ∈ xs, w.noneFrozen y.2) → (xs.map fun x => B x.1).sum ≤ 1000000000 → ∀ φ H, HRel G φ H w → Vws H → ∃ φ' H' acs ns ss D, HRel G φ' H' w ∧ Vws H' ∧ φ.le φ' ∧ H.next ≤ H'.next ∧ (∀ j, j < H.next → H'.row j = H.row j) ∧ LRel φ' acs (cs.drop o) ∧ acs.all oneC = true ∧
        (∀ pre : List Value, pre.length = o → Rd H' ⟨false, true, true⟩ s (pre ++ acs) 0 ns ss D) ∧ (∀ j ∈ D, j < H'.next) ∧ ns.length + ss.length ≤ (xs.map fun x => B x.1).sum
theorem struct_vr (hB : Msr B) {G : Nat} {s : Sh} {t : TypeId} {gs : Array Field} (hu : P.underlying t = some (.struct gs)) (hg : Fits.go P s gs.toList 0 (P.cellsOf t)) (i2 : GoVR B enc P w base spare held G s) {fuel : Nat} {cs : List Value} {x : DataW K × List MemPlace} (h : DataW.trod enc P w base spare held fuel t cs = some x) (hz : w.noneFrozen x.2) (hbd : B x.1 ≤ 1000000000) : VR B G w s cs (B x.1) := by
  obtain ⟨ys, m, rfl, rfl, hlen, hyl, hy⟩ := DataW.trod_struct hu h
  have hag := hB.agg (ys.map (·.1))
  rw [List.map_map] at hag
  have hag' : (ys.map fun x => B x.1).sum ≤ B (DataW.agg (ys.map (·.1))) := hag
  dsimp only at hbd
  intro φ H hH hV
  obtain ⟨φ', H', acs, ns, ss, D, k1, k2, k3, k4, k5, k6, k7, k8, k9, k10⟩ := i2 hg hlen (by simpa using hyl) (fun i f hf => hy i f (by simpa using hf)) (fun y hy b off hm => hz b off (List.mem_flatMap.2 ⟨y, hy, hm⟩)) (by omega) φ H hH hV
  exact ⟨φ', H', acs, ns, ss, D, k1, k2, k3, k4, k5, by simpa using k6, k7, by simpa using k8 [] rfl, k9, by dsimp only; omega⟩
theorem any_vr (hB : Msr B) {G : Nat} (hsp : ∀ b, spare b = true) : ∀ {s : Sh},
    (∀ {t : TypeId}, Fits P s t → ∀ {fuel : Nat} {cs : List Value} {x : DataW K × List MemPlace}, DataW.trod enc P w base spare held fuel t cs = some x → w.noneFrozen x.2 → B x.1 ≤ 1000000000 → VR B G w s cs (B x.1)) ∧
    (∀ {fs : List Field} {o n : Nat}, Fits.go P s fs o n → ∀ {fuel : Nat} {cs : List Value} {xs : List (DataW K × List MemPlace)}, cs.length = n → xs.length = fs.length → (∀ (i : Nat) (f : Field), fs[i]? = some f → DataW.trod enc P w base spare held fuel f.type ((cs.drop f.offset).take (P.cellsOf f.type)) = xs[i]?) →
      (∀ y ∈ xs, w.noneFrozen y.2) → (xs.map fun x => B x.1).sum ≤ 1000000000 → ∀ φ H, HRel G φ H w → Vws H → ∃ φ' H' acs ns ss D, HRel G φ' H' w ∧ Vws H' ∧ φ.le φ' ∧ H.next ≤ H'.next ∧ (∀ j, j < H.next → H'.row j = H.row j) ∧ LRel φ' acs (cs.drop o) ∧ acs.all oneC = true ∧
        (∀ pre : List Value, pre.length = o → Rd H' ⟨false, true, true⟩ s (pre ++ acs) 0 ns ss D) ∧ (∀ j ∈ D, j < H'.next) ∧ ns.length + ss.length ≤ (xs.map fun x => B x.1).sum)
  | .num k => ⟨fun ht => fun h _ _ => by
      obtain ⟨n, rfl, rfl, hw⟩ := DataW.trod_int ht h
      exact fun φ H hH hV => ⟨φ, H, _, _, _, [], hH, hV, φ.le_refl, Nat.le_refl _, fun _ _ => rfl, .cons (.base rfl) .nil, rfl, ⟨n, rfl, int_wrap_wf hw, rfl, rfl, rfl⟩, fun _ h => absurd h List.not_mem_nil, hB.one _⟩, fun h => by cases h⟩
  | .bool => ⟨fun ht => fun h _ _ => by
      obtain ⟨b, rfl, rfl⟩ := DataW.trod_bool ht h
      exact fun φ H hH hV => ⟨φ, H, _, _, _, [], hH, hV, φ.le_refl, Nat.le_refl _, fun _ _ => rfl, .cons (.base rfl) .nil, rfl, ⟨b, rfl, rfl, rfl, rfl⟩, fun _ h => absurd h List.not_mem_nil, hB.one _⟩, fun h => by cases h⟩
  | .str => ⟨fun ht => fun h _ _ => by
      obtain ⟨b, rfl, rfl, -⟩ := DataW.trod_string ht h
      exact fun φ H hH hV => ⟨φ, H, _, _, _, [], hH, hV, φ.le_refl, Nat.le_refl _, fun _ _ => rfl, .cons (.base rfl) .nil, rfl, ⟨b, rfl, rfl, rfl, rfl⟩, fun _ h => absurd h List.not_mem_nil, hB.one _⟩, fun h => by cases h⟩
  | .list sz s => ⟨fun ht => fun h hz hbd => by
      obtain ⟨i1, i2⟩ := any_vr hB (G := G) hsp (s := s)
      refine list_vr hB ht (fun {e} he {fuel cs x} hcl hx hz hbd => ?_) hsp h hz hbd
      rcases he with hf | ⟨gs, hu, hg⟩
      · exact i1 hf hx hz hbd
      · exact struct_vr hB hu hg i2 hx hz hbd, fun h => by cases h⟩
  | .nil => ⟨(fun h => by cases h), fun {fs o n} h => fun {fuel cs xs} hcl hl _ _ _ φ H hH hV => by
      obtain ⟨rfl, rfl⟩ := h
      refine ⟨φ, H, [], [], [], [], hH, hV, φ.le_refl, Nat.le_refl _, fun _ _ => rfl, ?_, rfl, fun _ _ => ⟨rfl, rfl, rfl⟩, fun _ h => absurd h List.not_mem_nil, by simp⟩
      rw [← hcl, List.drop_length]; exact .nil⟩
  | .fld off s r => by
    obtain ⟨i1, i2⟩ := any_vr hB (G := G) hsp (s := s)
    obtain ⟨-, j2⟩ := any_vr hB (G := G) hsp (s := r)
    refine ⟨(fun h => by cases h), fun {fs o n} h => fun {fuel cs xs} hcl hl hx hz hbd φ H hH hV => ?_⟩
    obtain ⟨f, fs', rfl, hfo, rfl, hr, hf⟩ := h
    have hle := go_le hr
    match xs, hl with
    | x :: xs', hl =>
      simp only [List.map_cons, List.sum_cons] at hbd ⊢
      have h0 : DataW.trod enc P w base spare held fuel f.type ((cs.drop f.offset).take (P.cellsOf f.type)) = some x := hx 0 f rfl
      rw [hfo] at h0
      have h1 : VR B G w s ((cs.drop off).take (P.cellsOf f.type)) (B x.1) := by
        rcases hf with hf | ⟨gs, hu, hg⟩
        · exact i1 hf h0 (hz x List.mem_cons_self) (by omega)
        · exact struct_vr hB hu hg i2 h0 (hz x List.mem_cons_self) (by omega)
      obtain ⟨φ1, H1, a1, n1, s1, D1, p1, p2, p3, p4, p5, p6, p7, p8, p9, p10⟩ := h1 φ H hH hV
      obtain ⟨φ2, H2, a2, n2, s2, D2, q1, q2, q3, q4, q5, q6, q7, q8, q9, q10⟩ := j2 hr hcl (xs := xs') (by simpa using hl) (fun i f hf => hx (i + 1) f hf) (fun y hy => hz y (List.mem_cons_of_mem _ hy)) (by omega) φ1 H1 p1 p2
      have ha1 : a1.length = P.cellsOf f.type := by rw [LRel.len p6, List.length_take, List.length_drop]; omega
      refine ⟨φ2, H2, a1 ++ a2, n1 ++ n2, s1 ++ s2, D1 ++ D2, q1, q2, p3.trans q3, Nat.le_trans p4 q4, fun j hj => (q5 j (by omega)).trans (p5 j hj), ?_, by rw [List.all_append, p7, q7]; rfl, fun pre hpre => ?_, fun j hj => ?_, by simp only [List.length_append]; omega⟩
      · have := (p6.mono q3).app q6
        rw [← List.drop_drop, List.take_append_drop] at this
        exact this
      · refine ⟨n1, s1, D1, n2, s2, D2, ?_, ?_, rfl, rfl, rfl⟩
        · refine Rd.shift (fun j hj => q5 j (p9 j hj)) (fun i hi => ?_) p8
          obtain ⟨v, hv, -⟩ := p8.cell i hi
          have hlt := lt_of_get hv
          rw [List.getElem?_append_right (by omega), List.getElem?_append_left (by omega)]
          congr 1; omega
        · have := q8 (pre ++ a1) (by rw [List.length_append, hpre, ha1])
          rw [List.append_assoc] at this; exact this
      · rcases List.mem_append.1 hj with h | h
        · have := p9 j h; omega
        · exact q9 j h
theorem arg_vr (hB : Msr B) {G : Nat} {s : Sh} (hsp : ∀ b, spare b = true) {t : TypeId} {gs : Array Field} (hu : P.underlying t = some (.struct gs)) (hg : Fits.go P s gs.toList 0 (P.cellsOf t)) {fuel : Nat} {cs : List Value} {x : DataW K × List MemPlace} (h : DataW.trod enc P w base spare held fuel t cs = some x) (hz : w.noneFrozen x.2) (hbd : B x.1 ≤ 1000000000) : VR B G w s cs (B x.1) :=
  struct_vr hB hu hg (any_vr hB hsp).2 h hz hbd
end
end Go.Eng

namespace Go.Eng
open Go
structure OI (w : Bool × Bool) (s : Sh) (sz len e b : Nat) (z : List Value) (N S : Nat) (H A : AHeap) (i : Nat) : Prop where
  le : i ≤ len
  next : b < A.next
  keep : ∀ j, j < b → A.row j = H.row j
  ex : ∃ C, A.row b = some ⟨e, true, true, C⟩ ∧ C.length = (len + 2) * sz ∧ C.all oneC = true ∧ (∀ k c, k < 2 → c < sz → C[(len + k) * sz + c]? = z[c]?) ∧
    ∃ n1 s1 D1 n2 s2 D2 N1 S1, RdN (Rd A ⟨true, true, false⟩ s) C sz i 0 n1 s1 D1 ∧ D1.Nodup ∧ (∀ j ∈ D1, b < j ∧ j < A.next) ∧ n1.length ≤ 21 * N1 ∧ s1.length ≤ S1 + 21 * N1 ∧
      RdN (Rd A ⟨false, w.1, w.2⟩ s) C sz (len - i) (i * sz) n2 s2 D2 ∧ (∀ j ∈ D2, j < b) ∧ N1 + n2.length = N ∧ S1 + s2.length = S
end Go.Eng

namespace Go.Eng
open Go Go.Proofs Go.Sort
section
variable {P : Program} {G : Nat} {φ φ' : Emb} {H H' : AHeap} {w w' : World}
theorem HRel.grown (h : HRel G φ H w) (k : Nat) (os : Array Obj) : HRel G φ H (grow (Go.Sort.ahead w k) os) := by
  refine ⟨h.glob, h.lt, fun i o hi => ?_, h.inj⟩
  obtain ⟨h1, ob, h2, h3⟩ := h.obj i o hi
  refine ⟨h1, ob, ?_, h3⟩
  show (w.heap ++ os)[(φ i).block]? = some ob
  rw [Array.getElem?_append_left (Array.getElem?_eq_some_iff.1 h2).1]; exact h2
theorem Later.grown (h : Later φ H w φ' H' w') (k : Nat) (os : Array Obj) : Later φ H w φ' H' (grow (Go.Sort.ahead w' k) os) := by
  have hs := h.size
  refine ⟨h.ids, h.next, ?_, fun b hb hf => ?_, h.foot, h.fresh, h.blocks, h.os, h.tape, h.output⟩
  · show w.heap.size ≤ (w'.heap ++ os).size
    rw [Array.size_append]; omega
  · show (w'.heap ++ os)[b]? = w.heap[b]?
    rw [Array.getElem?_append_left (by omega)]; exact h.same b hb hf
def intsOf : List Value → Option (List Int)
  | [] => some []
  | .int .i64 x :: r => (intsOf r).map fun l => x :: l
  | _ => none
theorem intsOf_some : ∀ {vs : List Value} {zs : List Int}, intsOf vs = some zs → vs = zs.map (Value.int .i64)
  | [], zs, h => by cases h; rfl
  | v :: r, zs, h => by
    unfold intsOf at h
    split at h
    · rename_i hq; cases hq
    · rename_i hq
      cases hq
      simp only [Option.map_eq_some_iff] at h
      obtain ⟨l, hl, rfl⟩ := h
      rw [intsOf_some hl]; rfl
    · cases h
theorem intsOf_map : ∀ (zs : List Int), intsOf (zs.map (Value.int .i64)) = some zs
  | [] => rfl
  | z :: r => by show (intsOf (r.map (Value.int .i64))).map _ = _; rw [intsOf_map r]; rfl
theorem LRel.intsI {vs : List Value} : ∀ {zs : List Int}, LRel φ (zs.map (Value.int .i64)) vs → vs = zs.map (Value.int .i64)
  | [], h => by cases h; rfl
  | z :: r, h => by
    cases h with
    | cons h1 h2 =>
      rw [h1.int_inv, LRel.intsI h2]; rfl
theorem lrel_ints (zs : List Int) : LRel φ (zs.map (Value.int .i64)) (zs.map (Value.int .i64)) := by
  induction zs with
  | nil => exact .nil
  | cons z r ih => exact .cons (.base rfl) ih
theorem all_ints (zs : List Int) : (zs.map (Value.int .i64)).all oneC = true := by simp [oneC]
theorem put_world (P : Program) (h : HRel G φ H w) {b o n : Nat} {r : Row} {zs zs' : List Int} (hr : H.row b = some r) (hrw : r.rw = true) (ht : takeN n (r.cs.drop o) = some (zs.map (Value.int .i64))) (hl : zs'.length = n) (hw : writeA H b o (zs'.map (Value.int .i64)) = some H') :
    (φ b).block < w.heap.size ∧ Holds (Value.int .i64) w (φ b).block ((φ b).shift + o) zs.toArray ∧ zs.length = n ∧ ∀ (k : Nat) (os : Array Obj),
      HRel G φ H' (grow (putRow (Value.int .i64) (Go.Sort.ahead w k) (φ b).block ((φ b).shift + o) zs'.toArray) os) ∧ Later φ H w φ H' (grow (putRow (Value.int .i64) (Go.Sort.ahead w k) (φ b).block ((φ b).shift + o) zs'.toArray) os) := by
  obtain ⟨C, fr, hC, hsz, hsh, hrel, hfr, hwh⟩ := h.rowAt hr
  obtain rfl := hfr hrw
  obtain ⟨hlen, hcs⟩ := takeN_some ht
  rw [List.length_map] at hlen
  obtain ⟨vs', hv1, hv2, hv3⟩ := h.cells hr ht
  obtain rfl := hv1.intsI
  have hbl : (φ b).block < w.heap.size := (Array.getElem?_eq_some_iff.1 hC).1
  refine ⟨hbl, fun j hj => ⟨?_, ?_⟩, hlen, ?_⟩
  · have hj' : j < zs.length := by simpa using hj
    have := hv3 j (.int .i64 zs[j]) (by simp [hj'])
    rw [add_at] at this
    rw [this]
    simp [hj']
  · simp [World.frozen?, hC]
  · obtain ⟨w1, hrun, k1, k2⟩ := writeA_sound (P := P) h (lrel_ints zs') (all_ints zs') hw
    have hle : (φ b).shift + o + zs'.length ≤ C.size := by
      have hw2 := hw
      simp only [writeA, hr, Option.bind_some, hrw, cond_true, Option.map_eq_some_iff] at hw2
      obtain ⟨cs, hcs2, -⟩ := hw2
      have := (putCells_some hcs2).1
      rw [List.length_map] at this
      omega
    have hrun2 := run_storeCells_at P (φ b).block ((φ b).shift + o) r.elem (zs'.map (Value.int .i64)) 0 C w hC (by rw [List.length_map]; omega) (allOne (all_ints zs'))
    simp only [Nat.add_zero] at hrun2
    rw [hrun2] at hrun
    have e1 : w1 = putRow (Value.int .i64) w (φ b).block ((φ b).shift + o) zs'.toArray := by
      have := Result.ok.inj hrun
      rw [← this.2, setRow_put hC]
      unfold putRow mapBlock World.put
      congr 1
      apply Array.ext_getElem?
      intro i
      rw [Array.getElem?_setIfInBounds, Array.getElem?_modify]
      by_cases hi : (φ b).block = i
      · subst hi
        simp only [if_pos, hbl, hC, Option.map_some, onCells]
        congr 2
        apply Array.ext_getElem?
        intro j
        simp only [Go.Sort.putCells, Array.getElem?_mapIdx, List.size_toArray, List.getElem?_toArray]
        by_cases h1 : j < (φ b).shift + o
        · rw [List.append_assoc, List.getElem?_append_left (by simp; omega), List.getElem?_take_of_lt h1, Array.getElem?_toList, Array.getElem?_eq_getElem (by omega), Option.map_some, if_neg (by omega)]
        · by_cases h2 : j < (φ b).shift + o + zs'.length
          · rw [List.append_assoc, List.getElem?_append_right (by simp; omega), List.getElem?_append_left (by simp; omega), Array.getElem?_eq_getElem (by omega), Option.map_some, if_pos ⟨by omega, h2⟩]
            have hq : j - ((φ b).shift + o) < zs'.length := by omega
            have hm : min ((φ b).shift + o) C.size = (φ b).shift + o := by omega
            simp [hm, hq]
          · rw [List.getElem?_append_right (by simp; omega), List.getElem?_drop]
            by_cases h3 : j < C.size
            · rw [Array.getElem?_eq_getElem h3, Option.map_some, if_neg (by omega)]
              have hm : min ((φ b).shift + o) C.size = (φ b).shift + o := by omega
              have e : (φ b).shift + o + (zs'.map (Value.int .i64)).length + (j - (List.take ((φ b).shift + o) C.toList ++ zs'.map (Value.int .i64)).length) = j := by simp [hm]; omega
              rw [e]; simp [h3]
            · rw [Array.getElem?_eq_none (by omega), Option.map_none, List.getElem?_eq_none]
              simp; omega
      · rw [if_neg hi, if_neg hi]
    subst e1
    intro k os
    rw [putRow_ahead]
    exact ⟨k1.grown k os, k2.grown k os⟩
end
end Go.Eng

namespace Go.Eng
open Go
theorem PV.quo {E : Env} {l : Kn} {t u : TypeId} {x y : Operand} {k : IntKind} {a b n : Int} (hx : kval E.G l x = some (.int k a)) (hy : kval E.G l y = some (.int k b)) (hb : b ≠ 0) (hn : k.wrap (a.tdiv b) = n) : PV E l (.binOp .quo t x y u) (.int k n) :=
  PV.bin hx hy (by simp only [binInt, binOp, ne_eq, not_true, if_false, Op.intDiv, hb, hn]; rfl)
theorem range64 {a : Int} (h : IntKind.i64.wrap a = a) : -9223372036854775808 ≤ a ∧ a < 9223372036854775808 := by
  rw [← h]; simp [IntKind.wrap, IntKind.bits, IntKind.signed]; omega
theorem appOut_zero {H : AHeap} {e sz n c : Nat} {new : List Value} {a : Option Addr} (ha : exactBase a = true) : appOut H e sz ⟨a, 0, c⟩ n new = some (appNew H e sz n new) := by
  cases a with
  | none => rfl
  | some x => cases x with | mk b o sp => cases sp with | none => rfl | some y => cases ha
end Go.Eng

namespace Go.Eng
open Go
theorem PV.eqNil {E : Env} {l : Kn} {t e u : TypeId} {x : Operand} {a : Option Addr} {n c : Nat} (ht : E.P.underlying t = some (.slice e)) (hx : kval E.G l x = some (.slice a n c)) : PV E l (.binOp .eql t x (.const (.slice none 0 0)) u) (.bool (isNone a)) := by
  intro F N hF cc yy H
  have hk : kval E.G l (.const (.slice none 0 0)) = some (.slice none 0 0) := rfl
  simp only [opA, opBin, kval_ok hF hx, kval_ok hF hk, keepH, Option.bind_some, binA, vInt, vStr]
  cases a <;> simp [eqA, isEql, ht, dSlice, dPtr, dStruct, vSl, isNone, isNilIface, eqD, eqSlice, nilOnly, sameB]
end Go.Eng

namespace Go.Eng
open Go
theorem wrapU64 {a : Int} (h1 : 0 ≤ a) (h2 : a < 18446744073709551616) : IntKind.u64.wrap a = a := by
  simp [IntKind.wrap, IntKind.bits, IntKind.signed]; omega
theorem exact_spot {a : Option Addr} {sz : Nat} (h : exactBase a = true) : ∀ x, a = some x → spotIs sz x = true := by
  intro x hx
  subst hx
  obtain ⟨b, o, sp⟩ := x
  cases sp with
  | none => rfl
  | some y => cases h
end Go.Eng

namespace Go.Eng
open Go
end Go.Eng

namespace Go.Eng
open Go
theorem row_of_get {H H' : AHeap} {j : Nat} (h : H'.get j = H.get j) : H'.row j = H.row j := by simp only [AHeap.row, h]
theorem row_cells {H : AHeap} {b : Nat} {e : TypeId} {w rw : Bool} {cs : List Value} (h : H.get b = some (.cells e w rw cs)) : H.row b = some ⟨e, w, rw, cs⟩ := by simp only [AHeap.row, h, Option.bind_some, rowOf]
structure UpdG (H H1 : AHeap) (b : Nat) (o : AObj) : Prop where
  next : H1.next = H.next
  get : ∀ j, H1.get j = if j = b then some o else H.get j
structure NewG (H H1 : AHeap) (o : AObj) : Prop where
  next : H1.next = H.next + 1
  get : ∀ j, H1.get j = if j = H.next then some o else H.get j
theorem UpdG.set {H : AHeap} {b : Nat} {o : AObj} : UpdG H (H.set b o) b o := ⟨rfl, fun j => AHeap.get_set H b o j⟩
theorem NewG.new {H : AHeap} {o : AObj} : NewG H (H.new o) o := ⟨rfl, fun j => AHeap.get_new H o j⟩
structure Res where
  D : List Nat
  ok : AHeap → Prop
  fr : ∀ {H H' : AHeap}, (∀ j ∈ D, H'.get j = H.get j) → ok H → ok H'
structure Mem (M : List Nat) (B H : AHeap) (L : List Res) : Prop where
  next : B.next ≤ H.next
  keep : ∀ j, j < B.next → j ∉ M → H.get j = B.get j
  ok : ∀ r ∈ L, r.ok H
  nd : ∀ r ∈ L, r.D.Nodup
  lo : ∀ r ∈ L, ∀ j ∈ r.D, (j ∈ M ∨ B.next ≤ j) ∧ j < H.next
  dis : ∀ (i k : Nat), i ≠ k → ∀ (r q : Res), L[i]? = some r → L[k]? = some q → ∀ j ∈ r.D, j ∉ q.D
section
variable {M : List Nat} {B H H1 : AHeap} {L : List Res}
theorem Mem.start {H : AHeap} : Mem [] H H [] :=
  ⟨Nat.le_refl _, fun _ _ _ => rfl, fun _ h => absurd h List.not_mem_nil, fun _ h => absurd h List.not_mem_nil, fun _ h => absurd h List.not_mem_nil, fun i k _ r q h => by simp at h⟩
theorem Mem.startR {r : Res} (h : r.ok H) (hn : r.D.Nodup) (hl : ∀ j ∈ r.D, j < H.next) : Mem r.D H H [r] :=
  ⟨Nat.le_refl _, fun _ _ _ => rfl, fun q hq => by simp only [List.mem_singleton] at hq; subst hq; exact h, fun q hq => by simp only [List.mem_singleton] at hq; subst hq; exact hn, fun q hq j hj => by simp only [List.mem_singleton] at hq; subst hq; exact ⟨.inl hj, hl j hj⟩,
    fun i k hik r' q hi hk => by
      have h1 := (List.getElem?_eq_some_iff.1 hi).1
      have h2 := (List.getElem?_eq_some_iff.1 hk).1
      simp only [List.length_singleton] at h1 h2
      omega⟩
theorem Mem.res {i : Nat} {r : Res} (m : Mem M B H L) (hi : L[i]? = some r) : r.ok H := m.ok r (List.mem_of_getElem? hi)
theorem Mem.lt {i : Nat} {r : Res} (m : Mem M B H L) (hi : L[i]? = some r) : ∀ j ∈ r.D, j < H.next := fun j hj => (m.lo r (List.mem_of_getElem? hi) j hj).2
theorem Mem.ge {i : Nat} {r : Res} (m : Mem [] B H L) (hi : L[i]? = some r) : ∀ j ∈ r.D, B.next ≤ j := fun j hj => (m.lo r (List.mem_of_getElem? hi) j hj).1.resolve_left List.not_mem_nil
theorem Mem.frh (m : Mem [] B H L) : Frh B H := ⟨m.next, fun j hj => row_of_get (m.keep j hj List.not_mem_nil)⟩
theorem Mem.get (m : Mem [] B H L) {j : Nat} (hj : j < B.next) : H.get j = B.get j := m.keep j hj List.not_mem_nil
theorem Mem.row0 (m : Mem [] B H L) {j : Nat} (hj : j < B.next) {r : Row} (hr : B.row j = some r) : H.row j = some r := by rw [row_of_get (m.get hj)]; exact hr
theorem Mem.row0M (m : Mem M B H L) {j : Nat} (hj : j < B.next) (hM : j ∉ M) {r : Row} (hr : B.row j = some r) : H.row j = some r := by rw [row_of_get (m.keep j hj hM)]; exact hr
theorem Mem.chg {i : Nat} {r : Res} (m : Mem M B H L) (hi : L[i]? = some r) (r' : Res) (hn : H.next ≤ H1.next) (hk : ∀ j, j < H.next → j ∉ r.D → H1.get j = H.get j) (hok : r'.ok H1) (hnd : r'.D.Nodup) (hD : ∀ j ∈ r'.D, j ∈ r.D ∨ (H.next ≤ j ∧ j < H1.next)) : Mem M B H1 (L.set i r') := by
  have hil := (List.getElem?_eq_some_iff.1 hi).1
  have hget : ∀ k q, (L.set i r')[k]? = some q → (k = i ∧ q = r') ∨ (k ≠ i ∧ L[k]? = some q) := by
    intro k q hq
    rw [List.getElem?_set] at hq
    by_cases e : i = k
    · subst e
      rw [if_pos rfl, if_pos hil] at hq
      cases hq; exact .inl ⟨rfl, rfl⟩
    · rw [if_neg e] at hq
      exact .inr ⟨fun h => e h.symm, hq⟩
  have hmem : ∀ q ∈ L.set i r', q = r' ∨ ∃ k, k ≠ i ∧ L[k]? = some q := by
    intro q hq
    obtain ⟨k, hk⟩ := List.mem_iff_getElem?.1 hq
    rcases hget k q hk with ⟨-, h⟩ | ⟨h1, h2⟩
    · exact .inl h
    · exact .inr ⟨k, h1, h2⟩
  have hold : ∀ k q, k ≠ i → L[k]? = some q → ∀ j ∈ q.D, H1.get j = H.get j := fun k q hki hq j hj => hk j (m.lt hq j hj) (m.dis k i hki q r hq hi j hj)
  have hDlo : ∀ j ∈ r'.D, (j ∈ M ∨ B.next ≤ j) ∧ j < H1.next := fun j hj => by
    rcases hD j hj with h | h
    · have := m.lo r (List.mem_of_getElem? hi) j h
      exact ⟨this.1, Nat.lt_of_lt_of_le this.2 hn⟩
    · exact ⟨.inr (Nat.le_trans m.next h.1), h.2⟩
  have hsep : ∀ k q, k ≠ i → L[k]? = some q → ∀ j ∈ r'.D, j ∉ q.D := fun k q hki hq j hj hjq => by
    rcases hD j hj with h | h
    · exact m.dis k i hki q r hq hi j hjq h
    · have := m.lt hq j hjq; omega
  refine ⟨Nat.le_trans m.next hn, fun j hj hM => ?_, fun q hq => ?_, fun q hq => ?_, fun q hq j hj => ?_, fun a b hab r1 r2 h1 h2 j hj => ?_⟩
  · rw [hk j (Nat.lt_of_lt_of_le hj m.next) (fun h => ?_)]
    · exact m.keep j hj hM
    · rcases (m.lo r (List.mem_of_getElem? hi) j h).1 with h | h
      · exact hM h
      · omega
  · rcases hmem q hq with rfl | ⟨k, hki, hq⟩
    · exact hok
    · exact q.fr (hold k q hki hq) (m.res hq)
  · rcases hmem q hq with rfl | ⟨k, hki, hq⟩
    · exact hnd
    · exact m.nd q (List.mem_of_getElem? hq)
  · rcases hmem q hq with rfl | ⟨k, hki, hq⟩
    · exact hDlo j hj
    · have := m.lo q (List.mem_of_getElem? hq) j hj
      exact ⟨this.1, Nat.lt_of_lt_of_le this.2 hn⟩
  · rcases hget a r1 h1 with ⟨ha, hr1⟩ | ⟨ha, g1⟩
    · rcases hget b r2 h2 with ⟨hb, hr2⟩ | ⟨hb, g2⟩
      · exact absurd (ha.trans hb.symm) hab
      · rw [hr1] at hj; exact hsep b r2 hb g2 j hj
    · rcases hget b r2 h2 with ⟨hb, hr2⟩ | ⟨hb, g2⟩
      · intro hj2
        rw [hr2] at hj2
        exact hsep a r1 ha g1 j hj2 hj
      · exact m.dis a b hab r1 r2 g1 g2 j hj
theorem Mem.seq {L1 : List Res} (m : Mem M B H L) (m1 : Mem [] H H1 L1) : Mem M B H1 (L1 ++ L) := by
  have hold : ∀ q ∈ L, ∀ j ∈ q.D, H1.get j = H.get j := fun q hq j hj => m1.get (m.lo q hq j hj).2
  refine ⟨Nat.le_trans m.next m1.next, fun j hj hM => (m1.get (Nat.lt_of_lt_of_le hj m.next)).trans (m.keep j hj hM), fun q hq => ?_, fun q hq => ?_, fun q hq j hj => ?_, fun a b hab r1 r2 h1 h2 j hj => ?_⟩
  · rcases List.mem_append.1 hq with h | h
    · exact m1.ok q h
    · exact q.fr (hold q h) (m.ok q h)
  · rcases List.mem_append.1 hq with h | h
    · exact m1.nd q h
    · exact m.nd q h
  · rcases List.mem_append.1 hq with h | h
    · have := m1.lo q h j hj
      exact ⟨.inr (Nat.le_trans m.next (this.1.resolve_left List.not_mem_nil)), this.2⟩
    · have := m.lo q h j hj
      exact ⟨this.1, Nat.lt_of_lt_of_le this.2 m1.next⟩
  · by_cases ha : a < L1.length
    · rw [List.getElem?_append_left ha] at h1
      by_cases hb : b < L1.length
      · rw [List.getElem?_append_left hb] at h2
        exact m1.dis a b hab r1 r2 h1 h2 j hj
      · rw [List.getElem?_append_right (by omega)] at h2
        intro hj2
        have := m1.ge h1 j hj
        have := m.lt h2 j hj2
        omega
    · rw [List.getElem?_append_right (by omega)] at h1
      by_cases hb : b < L1.length
      · rw [List.getElem?_append_left hb] at h2
        intro hj2
        have := m1.ge h2 j hj2
        have := m.lt h1 j hj
        omega
      · rw [List.getElem?_append_right (by omega)] at h2
        exact m.dis _ _ (by omega) r1 r2 h1 h2 j hj
theorem Mem.one {r : Res} (hn : H.next ≤ H1.next) (hk : ∀ j, j < H.next → H1.get j = H.get j) (hok : r.ok H1) (hnd : r.D.Nodup) (hD : ∀ j ∈ r.D, H.next ≤ j ∧ j < H1.next) : Mem [] H H1 [r] :=
  ⟨hn, fun j hj _ => hk j hj, fun q hq => by simp only [List.mem_singleton] at hq; subst hq; exact hok, fun q hq => by simp only [List.mem_singleton] at hq; subst hq; exact hnd, fun q hq j hj => by simp only [List.mem_singleton] at hq; subst hq; exact ⟨.inr (hD j hj).1, (hD j hj).2⟩,
    fun i k hik r' q hi hk' => by
      have h1 := (List.getElem?_eq_some_iff.1 hi).1
      have h2 := (List.getElem?_eq_some_iff.1 hk').1
      simp only [List.length_singleton] at h1 h2
      omega⟩
theorem Mem.add {r : Res} (m : Mem M B H L) (hn : H.next ≤ H1.next) (hk : ∀ j, j < H.next → H1.get j = H.get j) (hok : r.ok H1) (hnd : r.D.Nodup) (hD : ∀ j ∈ r.D, H.next ≤ j ∧ j < H1.next) : Mem M B H1 (r :: L) :=
  m.seq (Mem.one hn hk hok hnd hD)
theorem Mem.nil {r : Res} (m : Mem M B H L) (hok : r.ok H) (hD : r.D = []) : Mem M B H (r :: L) :=
  m.add (Nat.le_refl _) (fun _ _ => rfl) hok (by rw [hD]; exact .nil) (fun j hj => by rw [hD] at hj; cases hj)
def pickL (L : List Res) : List Nat → List Res
  | [] => []
  | i :: r => (match L[i]? with | some q => [q] | none => []) ++ pickL L r
theorem pickL_mem {L : List Res} : ∀ {is : List Nat} {q : Res}, q ∈ pickL L is → ∃ i ∈ is, L[i]? = some q
  | i :: r, q, h => by
    simp only [pickL, List.mem_append] at h
    rcases h with h | h
    · cases hi : L[i]? with
      | none => rw [hi] at h; cases h
      | some s =>
        rw [hi] at h
        simp only [List.mem_singleton] at h
        subst h; exact ⟨i, List.mem_cons_self, hi⟩
    · obtain ⟨k, hk, h⟩ := pickL_mem h
      exact ⟨k, List.mem_cons_of_mem _ hk, h⟩
theorem pickL_dis {L : List Res} (hd : ∀ (i k : Nat), i ≠ k → ∀ (r q : Res), L[i]? = some r → L[k]? = some q → ∀ j ∈ r.D, j ∉ q.D) : ∀ {is : List Nat}, is.Nodup → ∀ (a b : Nat), a < b → ∀ (r q : Res), (pickL L is)[a]? = some r → (pickL L is)[b]? = some q → ∀ j ∈ r.D, j ∉ q.D
  | [], _, a, b, _, r, q, h, _ => by simp [pickL] at h
  | i :: t, hnd, a, b, hab, r, q, h1, h2 => by
    rw [List.nodup_cons] at hnd
    simp only [pickL] at h1 h2
    cases hi : L[i]? with
    | none =>
      rw [hi] at h1 h2
      exact pickL_dis hd hnd.2 a b hab r q h1 h2
    | some s =>
      rw [hi] at h1 h2
      obtain ⟨b, rfl⟩ : ∃ b', b = b' + 1 := ⟨b - 1, by omega⟩
      simp only [List.singleton_append, List.getElem?_cons_succ] at h2
      cases a with
      | zero =>
        simp only [List.singleton_append, List.getElem?_cons_zero, Option.some.injEq] at h1
        subst h1
        obtain ⟨k, hk, hq⟩ := pickL_mem (List.mem_of_getElem? h2)
        exact hd i k (fun e => hnd.1 (e ▸ hk)) s q hi hq
      | succ a =>
        simp only [List.singleton_append, List.getElem?_cons_succ] at h1
        exact pickL_dis hd hnd.2 a b (by omega) r q h1 h2
theorem Mem.pick {L' : List Res} (m : Mem M B H L) (is : List Nat) (hnd : is.Nodup) (hL : pickL L is = L') : Mem M B H L' := by
  subst hL
  refine ⟨m.next, m.keep, fun q hq => ?_, fun q hq => ?_, fun q hq => ?_, fun a b hab r q h1 h2 j hj => ?_⟩
  · obtain ⟨i, -, h⟩ := pickL_mem hq; exact m.res h
  · obtain ⟨i, -, h⟩ := pickL_mem hq; exact m.nd q (List.mem_of_getElem? h)
  · obtain ⟨i, -, h⟩ := pickL_mem hq; exact m.lo q (List.mem_of_getElem? h)
  · rcases Nat.lt_or_gt_of_ne hab with h | h
    · exact pickL_dis m.dis hnd a b h r q h1 h2 j hj
    · exact fun hj2 => pickL_dis m.dis hnd b a h q r h2 h1 j hj2 hj
theorem Mem.seqR {L1 : List Res} {r : Res} {i : Nat} (m : Mem M B H L) (hi : L[i]? = some r) (m1 : Mem r.D H H1 L1) : Mem M B H1 (L1 ++ L.eraseIdx i) := by
  have hil := (List.getElem?_eq_some_iff.1 hi).1
  have hget : ∀ k q, (L.eraseIdx i)[k]? = some q → ∃ k', k' ≠ i ∧ L[k']? = some q ∧ (∀ n, n ≠ k → (if n < i then n else n + 1) ≠ k') := by
    intro k q hq
    rw [List.getElem?_eraseIdx] at hq
    by_cases e : k < i
    · rw [if_pos e] at hq
      exact ⟨k, by omega, hq, fun n hn => by split <;> omega⟩
    · rw [if_neg e] at hq
      exact ⟨k + 1, by omega, hq, fun n hn => by split <;> omega⟩
  have hm : ∀ q ∈ L.eraseIdx i, ∃ k', k' ≠ i ∧ L[k']? = some q := fun q hq => by
    obtain ⟨k, hk⟩ := List.mem_iff_getElem?.1 hq
    obtain ⟨k', h1, h2, -⟩ := hget k q hk
    exact ⟨k', h1, h2⟩
  have hold : ∀ k q, k ≠ i → L[k]? = some q → ∀ j ∈ q.D, H1.get j = H.get j := fun k q hki hq j hj => m1.keep j (m.lt hq j hj) (m.dis k i hki q r hq hi j hj)
  have hnew : ∀ q ∈ L1, ∀ j ∈ q.D, (j ∈ M ∨ B.next ≤ j) ∧ j < H1.next := fun q hq j hj => by
    have := m1.lo q hq j hj
    refine ⟨?_, this.2⟩
    rcases this.1 with h | h
    · exact (m.lo r (List.mem_of_getElem? hi) j h).1
    · exact .inr (Nat.le_trans m.next h)
  have hsep : ∀ q ∈ L1, ∀ k s, k ≠ i → L[k]? = some s → ∀ j ∈ q.D, j ∉ s.D := fun q hq k s hk hs j hj hjs => by
    rcases (m1.lo q hq j hj).1 with h | h
    · exact m.dis k i hk s r hs hi j hjs h
    · have := m.lt hs j hjs; omega
  refine ⟨Nat.le_trans m.next m1.next, fun j hj hM => ?_, fun q hq => ?_, fun q hq => ?_, fun q hq j hj => ?_, fun a b hab r1 r2 h1 h2 j hj => ?_⟩
  · rw [m1.keep j (Nat.lt_of_lt_of_le hj m.next) (fun h => ?_)]
    · exact m.keep j hj hM
    · rcases (m.lo r (List.mem_of_getElem? hi) j h).1 with h | h
      · exact hM h
      · omega
  · rcases List.mem_append.1 hq with h | h
    · exact m1.ok q h
    · obtain ⟨k, hki, hk⟩ := hm q h
      exact q.fr (hold k q hki hk) (m.res hk)
  · rcases List.mem_append.1 hq with h | h
    · exact m1.nd q h
    · obtain ⟨k, hki, hk⟩ := hm q h
      exact m.nd q (List.mem_of_getElem? hk)
  · rcases List.mem_append.1 hq with h | h
    · exact hnew q h j hj
    · obtain ⟨k, hki, hk⟩ := hm q h
      have := m.lo q (List.mem_of_getElem? hk) j hj
      exact ⟨this.1, Nat.lt_of_lt_of_le this.2 m1.next⟩
  · by_cases ha : a < L1.length
    · rw [List.getElem?_append_left ha] at h1
      by_cases hb : b < L1.length
      · rw [List.getElem?_append_left hb] at h2
        exact m1.dis a b hab r1 r2 h1 h2 j hj
      · rw [List.getElem?_append_right (by omega)] at h2
        obtain ⟨k, hki, hk, -⟩ := hget _ _ h2
        exact hsep r1 (List.mem_of_getElem? h1) k r2 hki hk j hj
    · rw [List.getElem?_append_right (by omega)] at h1
      by_cases hb : b < L1.length
      · rw [List.getElem?_append_left hb] at h2
        obtain ⟨k, hki, hk, -⟩ := hget _ _ h1
        exact fun hj2 => hsep r2 (List.mem_of_getElem? h2) k r1 hki hk j hj2 hj
      · rw [List.getElem?_append_right (by omega)] at h2
        rw [List.getElem?_eraseIdx] at h1 h2
        split at h1 <;> split at h2 <;> exact m.dis _ _ (by omega) r1 r2 h1 h2 j hj
theorem Mem.as {i : Nat} {r : Res} (m : Mem M B H L) (hi : L[i]? = some r) (r' : Res) (hD : r'.D = r.D) (h : r.ok H → r'.ok H) : Mem M B H (L.set i r') :=
  m.chg hi r' (Nat.le_refl _) (fun _ _ _ => rfl) (h (m.res hi)) (by rw [hD]; exact m.nd r (List.mem_of_getElem? hi)) (fun j hj => .inl (hD ▸ hj))
end
def R.row (b : Nat) (e : TypeId) (w : Bool) (cs : List Value) : Res := ⟨[b], fun H => H.get b = some (.cells e w true cs), fun h k => (h b List.mem_cons_self).trans k⟩
def R.free (b : Nat) : Res := ⟨[b], fun _ => True, fun _ _ => trivial⟩
def Gr (H : AHeap) (e sz : Nat) (a : Option Addr) (n : Nat) (cs : List Value) (D : List Nat) : Prop :=
  cs.length = n * sz ∧ ((n = 0 ∧ D = [] ∧ exactBase a = true) ∨ ∃ b, a = some ⟨b, 0, some sz⟩ ∧ D = [b] ∧ H.get b = some (.cells e false true cs))
def R.lst (e sz : Nat) (a : Option Addr) (n : Nat) (cs : List Value) (D : List Nat) : Res := ⟨D, fun H => Gr H e sz a n cs D, fun h k => by
  obtain ⟨h1, h2⟩ := k
  refine ⟨h1, ?_⟩
  rcases h2 with h2 | ⟨b, h2, rfl, h3⟩
  · exact .inl h2
  · exact .inr ⟨b, h2, rfl, (h b List.mem_cons_self).trans h3⟩⟩
theorem Gr.nd {H : AHeap} {e sz : Nat} {a : Option Addr} {n : Nat} {cs : List Value} {D : List Nat} (h : Gr H e sz a n cs D) : D.Nodup := by
  rcases h.2 with ⟨-, rfl, -⟩ | ⟨b, -, rfl, -⟩ <;> simp
theorem Gr.nil {H : AHeap} {e sz : Nat} {a : Option Addr} (h : exactBase a = true) : Gr H e sz a 0 [] [] := ⟨by simp, .inl ⟨rfl, rfl, h⟩⟩
theorem Mem.lnil {M : List Nat} {B H : AHeap} {L : List Res} {e sz : Nat} (a : Option Addr) (m : Mem M B H L) (h : exactBase a = true) : Mem M B H (R.lst e sz a 0 [] [] :: L) := m.nil (r := R.lst e sz a 0 [] []) (Gr.nil h) rfl
section
variable {M : List Nat} {B H H1 : AHeap} {L : List Res} {i b : Nat} {e : TypeId} {w : Bool} {cs : List Value}
theorem Mem.row (m : Mem M B H L) (hi : L[i]? = some (R.row b e w cs)) : H.row b = some ⟨e, w, true, cs⟩ := row_cells (m.res hi)
theorem Mem.blt (m : Mem M B H L) (hi : L[i]? = some (R.row b e w cs)) : b < H.next := m.lt hi b List.mem_cons_self
theorem Mem.upd {r : Res} (m : Mem M B H L) (hi : L[i]? = some r) (hr : r.D = [b]) (u : UpdG H H1 b (.cells e w true cs)) : Mem M B H1 (L.set i (R.row b e w cs)) :=
  m.chg hi (R.row b e w cs) (by rw [u.next]; exact Nat.le_refl _) (fun j _ hj => by rw [u.get, if_neg (fun h => hj (by rw [hr, h]; exact List.mem_cons_self))]) (by show H1.get b = _; rw [u.get, if_pos rfl]) (by show [b].Nodup; simp) (fun j hj => .inl (by rw [hr]; exact hj))
theorem Mem.new (m : Mem M B H L) (u : NewG H H1 (.cells e w true cs)) : Mem M B H1 (R.row H.next e w cs :: L) :=
  m.add (by rw [u.next]; exact Nat.le_succ _) (fun j hj => by rw [u.get, if_neg (by omega)]) (by show H1.get H.next = _; rw [u.get, if_pos rfl]) (by show [H.next].Nodup; simp) (fun j hj => by
    have : j = H.next := List.mem_singleton.1 hj
    rw [u.next]; omega)
theorem nodup_inj {l : List Nat} (h : l.Nodup) {a b : Nat} (ha : a < l.length) (hb : b < l.length) (e : l[a] = l[b]) : a = b := by
  have h2 := List.pairwise_iff_getElem.1 h
  rcases Nat.lt_trichotomy a b with k | k | k
  · exact absurd e (h2 a b ha hb k)
  · exact k
  · exact absurd e.symm (h2 b a hb ha k)
theorem Mem.room {n : Nat} (m : Mem M B H L) (hn : H1.next = H.next + n) (hg : ∀ j, H1.get j = H.get j) : ∀ (is : List Nat), is.Nodup → (∀ i ∈ is, i < n) → Mem M B H1 (is.map (fun i => R.free (H.next + i)) ++ L) := by
  intro is hnd hlt
  refine m.seq ⟨by omega, fun j _ _ => hg j, fun q hq => ?_, fun q hq => ?_, fun q hq j hj => ?_, fun a b hab r1 r2 h1 h2 j hj hj2 => ?_⟩
  · obtain ⟨i, -, rfl⟩ := List.mem_map.1 hq; exact trivial
  · obtain ⟨i, -, rfl⟩ := List.mem_map.1 hq; show [_].Nodup; simp
  · obtain ⟨i, hi, rfl⟩ := List.mem_map.1 hq
    have : j = H.next + i := List.mem_singleton.1 hj
    have := hlt i hi
    exact ⟨.inr (by omega), by omega⟩
  · rw [List.getElem?_map, Option.map_eq_some_iff] at h1 h2
    obtain ⟨x, h1, rfl⟩ := h1
    obtain ⟨y, h2, rfl⟩ := h2
    have e1 : j = H.next + x := List.mem_singleton.1 hj
    have e2 : j = H.next + y := List.mem_singleton.1 hj2
    obtain ⟨ha, h1⟩ := List.getElem?_eq_some_iff.1 h1
    obtain ⟨hb, h2⟩ := List.getElem?_eq_some_iff.1 h2
    exact hab (nodup_inj hnd ha hb (by rw [h1, h2]; omega))
end
end Go.Eng

namespace Go.Eng
open Go
structure Enc (α : Type) where
  sz : Nat
  f : α → List Value
  wf : α → Prop
  len : ∀ x, (f x).length = sz
  one : ∀ x, (f x).all oneC = true
  pos : 0 < sz
def EI (k : IntKind) : Enc Int := ⟨1, fun u => [.int k u], fun u => k.wrap u = u, fun _ => rfl, fun _ => rfl, Nat.one_pos⟩
def EB : Enc Bool := ⟨1, fun b => [.bool b], fun _ => True, fun _ => rfl, fun _ => rfl, Nat.one_pos⟩
def EP : Enc (Int × Int) := ⟨2, fun p => [.int .i64 p.1, .int .i64 p.2], fun p => IntKind.i64.wrap p.1 = p.1 ∧ IntKind.i64.wrap p.2 = p.2, fun _ => rfl, fun _ => rfl, by decide⟩
def ES : Enc (Option Addr × Nat × Nat) := ⟨1, fun s => [.slice s.1 s.2.1 s.2.2], fun _ => True, fun _ => rfl, fun _ => rfl, Nat.one_pos⟩
def cells {α : Type} (E : Enc α) (xs : List α) : List Value := xs.flatMap E.f
section
variable {α : Type} {E : Enc α}
theorem cells_cons {x : α} {xs : List α} : cells E (x :: xs) = E.f x ++ cells E xs := by simp [cells]
theorem cells_append {xs ys : List α} : cells E (xs ++ ys) = cells E xs ++ cells E ys := by simp [cells]
theorem cells_length (xs : List α) : (cells E xs).length = xs.length * E.sz := by
  induction xs with
  | nil => simp [cells]
  | cons x r ih => rw [cells_cons, List.length_append, E.len, ih, List.length_cons, Nat.add_mul]; omega
theorem cells_all (xs : List α) : (cells E xs).all oneC = true := by
  induction xs with
  | nil => rfl
  | cons x r ih => rw [cells_cons, List.all_append, E.one, ih]; rfl
theorem cells_drop (xs : List α) (i : Nat) : (cells E xs).drop (i * E.sz) = cells E (xs.drop i) := by
  induction i generalizing xs with
  | zero => simp
  | succ n ih =>
    cases xs with
    | nil => simp [cells]
    | cons x r =>
      rw [List.drop_succ_cons, cells_cons, ← ih, Nat.add_mul, Nat.one_mul, Nat.add_comm, ← List.drop_drop, List.drop_append_of_le_length (by rw [E.len]; exact Nat.le_refl _), ← E.len x, List.drop_length, List.nil_append, E.len]
theorem cells_take (xs : List α) (i : Nat) : (cells E xs).take (i * E.sz) = cells E (xs.take i) := by
  induction i generalizing xs with
  | zero => simp [cells]
  | succ n ih =>
    cases xs with
    | nil => simp [cells]
    | cons x r =>
      rw [List.take_succ_cons, cells_cons, cells_cons, ← ih, Nat.add_mul, Nat.one_mul, Nat.add_comm, List.take_append, E.len, List.take_of_length_le (by rw [E.len]; omega)]
      congr 2; omega
theorem cells_at {xs : List α} {i : Nat} {x : α} (h : xs[i]? = some x) {k : Nat} (hk : k < E.sz) : (cells E xs)[i * E.sz + k]? = (E.f x)[k]? := by
  have hd : (cells E xs).drop (i * E.sz) = E.f x ++ cells E (xs.drop (i + 1)) := by
    rw [cells_drop]
    obtain ⟨hi, rfl⟩ := List.getElem?_eq_some_iff.1 h
    rw [List.drop_eq_getElem_cons hi, cells_cons]
  rw [← List.getElem?_drop, hd, List.getElem?_append_left (by rw [E.len]; exact hk)]
theorem cells_takeN {xs : List α} {i : Nat} {x : α} (h : xs[i]? = some x) : takeN E.sz ((cells E xs).drop (i * E.sz)) = some (E.f x) := by
  refine takeN_of ?_ (E.len x)
  rw [cells_drop]
  obtain ⟨hi, rfl⟩ := List.getElem?_eq_some_iff.1 h
  rw [List.drop_eq_getElem_cons hi, cells_cons, List.take_append_of_le_length (by rw [E.len]; exact Nat.le_refl _), List.take_of_length_le (by rw [E.len]; exact Nat.le_refl _)]
theorem cells_put {xs : List α} {i : Nat} (y : α) (hi : i < xs.length) : putL (cells E xs) (i * E.sz) (E.f y) = cells E (xs.set i y) := by
  have h1 : (cells E xs).take (i * E.sz) = cells E (xs.take i) := cells_take xs i
  have h2 : (cells E xs).drop (i * E.sz + (E.f y).length) = cells E (xs.drop (i + 1)) := by
    rw [E.len, ← cells_drop]; congr 1; rw [Nat.add_mul]; omega
  rw [putL, h1, h2, List.set_eq_take_append_cons_drop, if_pos hi, cells_append, cells_cons]
theorem cells_replicate (n : Nat) (x : α) : zerosFor (E.f x) n = cells E (List.replicate n x) := by
  induction n with
  | zero => rfl
  | succ n ih => rw [List.replicate_succ, cells_cons, ← ih]; rfl
def V (E : Enc α) (H : AHeap) (a : Option Addr) (n c : Nat) (xs : List α) : Prop :=
  n ≤ c ∧ n ≤ 1000000000 ∧ xs.length = n ∧ (∀ x ∈ xs, E.wf x) ∧ (∀ x, a = some x → spotIs E.sz x = true) ∧
    (n = 0 ∨ ∃ b off sp r, a = some ⟨b, off, sp⟩ ∧ b < H.next ∧ H.row b = some r ∧ ∀ i, i < n * E.sz → r.cs[off + i]? = (cells E xs)[i]?)
theorem V.mem {M : List Nat} {B H : AHeap} {L : List Res} {a : Option Addr} {n c : Nat} {xs : List α} (m : Mem M B H L) (h : V E B a n c xs) (hM : 0 < n → ∀ x, a = some x → x.block ∉ M := by intro _ _ _; exact List.not_mem_nil) : V E H a n c xs := by
  obtain ⟨h1, h2, h3, h4, h5, h6⟩ := h
  refine ⟨h1, h2, h3, h4, h5, ?_⟩
  rcases Nat.eq_zero_or_pos n with h0 | h0
  · exact .inl h0
  rcases h6 with h | ⟨b, off, sp, r, rfl, e2, e3, e4⟩
  · exact .inl h
  · exact .inr ⟨b, off, sp, r, rfl, Nat.lt_of_lt_of_le e2 m.next, m.row0M e2 (hM h0 _ rfl) e3, e4⟩
theorem V.len {H : AHeap} {a : Option Addr} {n c : Nat} {xs : List α} (h : V E H a n c xs) : xs.length = n ∧ n ≤ c ∧ n ≤ 1000000000 ∧ ∀ x ∈ xs, E.wf x := ⟨h.2.2.1, h.1, h.2.1, h.2.2.2.1⟩
theorem V.nil {H : AHeap} {a : Option Addr} {c : Nat} (h : ∀ x, a = some x → spotIs E.sz x = true) : V E H a 0 c [] := ⟨Nat.zero_le _, by decide, rfl, fun _ h => absurd h List.not_mem_nil, h, .inl rfl⟩
theorem V.at_ {H : AHeap} {a : Option Addr} {n c : Nat} {xs : List α} (h : V E H a n c xs) {z : Int} (h0 : 0 ≤ z) (h1 : z < n) :
    ∃ b off sp r x, a = some ⟨b, off, sp⟩ ∧ b < H.next ∧ H.row b = some r ∧ xs[z.toNat]? = some x ∧ E.wf x ∧ (∀ k, k < E.sz → r.cs[off + z.toNat * E.sz + k]? = (E.f x)[k]?) ∧ takeN E.sz (r.cs.drop (off + z.toNat * E.sz)) = some (E.f x) := by
  obtain ⟨h3, h4, h5, h6, h7, h8⟩ := h
  have hz : z.toNat < n := by omega
  rcases h8 with h8 | ⟨b, off, sp, r, e1, e2, e3, e4⟩
  · omega
  · have hx : xs[z.toNat]? = some xs[z.toNat] := List.getElem?_eq_getElem (by omega)
    have hlt : ∀ k, k < E.sz → z.toNat * E.sz + k < n * E.sz := fun k hk => by
      have : (z.toNat + 1) * E.sz ≤ n * E.sz := Nat.mul_le_mul_right _ hz
      rw [Nat.add_mul] at this; omega
    have hk : ∀ k, k < E.sz → r.cs[off + z.toNat * E.sz + k]? = (E.f xs[z.toNat])[k]? := fun k hk => by
      rw [Nat.add_assoc, e4 _ (hlt k hk), cells_at hx hk]
    refine ⟨b, off, sp, r, xs[z.toNat], e1, e2, e3, hx, h6 _ (List.getElem_mem _), hk, takeN_of ?_ (E.len _)⟩
    apply List.ext_getElem?
    intro k
    rw [List.getElem?_take, List.getElem?_drop]
    by_cases h : k < E.sz
    · rw [if_pos h]; exact hk k h
    · rw [if_neg h]; exact (List.getElem?_eq_none (by rw [E.len]; omega)).symm
theorem V.take {H : AHeap} {a : Option Addr} {n c m c' : Nat} {xs : List α} (h : V E H a n c xs) (hm : m ≤ n) (hc : m ≤ c') : V E H a m c' (xs.take m) := by
  obtain ⟨h1, h2, h3, h4, h5, h6⟩ := h
  refine ⟨hc, by omega, by rw [List.length_take]; omega, fun x hx => h4 x (List.mem_of_mem_take hx), h5, ?_⟩
  rcases h6 with h | ⟨b, off, sp, r, e1, e2, e3, e4⟩
  · exact .inl (by omega)
  · refine .inr ⟨b, off, sp, r, e1, e2, e3, fun i hi => ?_⟩
    rw [e4 i (Nat.lt_of_lt_of_le hi (Nat.mul_le_mul_right _ hm)), ← cells_take, List.getElem?_take, if_pos hi]
theorem V.drop {H : AHeap} {b off : Nat} {sp sp' : Option Nat} {n c j c' : Nat} {xs : List α} (h : V E H (some ⟨b, off, sp⟩) n c xs) (hj : j ≤ n) (hc : n - j ≤ c') (hs : spotIs E.sz ⟨b, off, sp'⟩ = true) : V E H (some ⟨b, off + j * E.sz, sp'⟩) (n - j) c' (xs.drop j) := by
  obtain ⟨h1, h2, h3, h4, h5, h6⟩ := h
  refine ⟨hc, by omega, by rw [List.length_drop, h3], fun x hx => h4 x (List.mem_of_mem_drop hx), fun x hx => by cases hx; exact hs, ?_⟩
  rcases h6 with h | ⟨b', off', sp', r, e1, e2, e3, e4⟩
  · exact .inl (by omega)
  · cases e1
    refine .inr ⟨b, _, _, r, rfl, e2, e3, fun i hi => ?_⟩
    have : j * E.sz + i < n * E.sz := by
      have h7 : (j + (n - j)) * E.sz = n * E.sz := by congr 1; omega
      rw [Nat.add_mul] at h7; omega
    rw [Nat.add_assoc, e4 _ this, ← cells_drop, List.getElem?_drop]
theorem V.new {H : AHeap} {a : Option Addr} {n c : Nat} {xs : List α} (h : V E H a n c xs) : newElems E.sz (.slice a n c) H = some (n, cells E xs) := by
  obtain ⟨h1, h2, h3, h4, h5, h6⟩ := h
  rcases h6 with rfl | ⟨b, off, sp, r, rfl, e2, e3, e4⟩
  · have : xs = [] := List.length_eq_zero_iff.1 h3
    subst this
    cases a <;> simp [show Nat.ble 0 0 = true from rfl, newElems, lenV, vSl, firstCellsA, firstSl, rowCells, cells]
  · refine newElems_of e3 ?_ (by rw [cells_length, h3]) (cells_all xs)
    apply List.ext_getElem?
    intro k
    rw [List.getElem?_take, List.getElem?_drop]
    by_cases h : k < n * E.sz
    · rw [if_pos h]; exact e4 k h
    · rw [if_neg h]; exact (List.getElem?_eq_none (by rw [cells_length, h3]; omega)).symm
theorem Mem.vrow {M : List Nat} {B H : AHeap} {L : List Res} {i b e n c : Nat} {w : Bool} {sp : Option Nat} {xs : List α} (m : Mem M B H L) (hi : L[i]? = some (R.row b e w (cells E xs))) (hwf : ∀ x ∈ xs, E.wf x) (hn : xs.length = n) (hc : n ≤ c) (h9 : n ≤ 1000000000) (hs : spotIs E.sz ⟨b, 0, sp⟩ = true := by rfl) : V E H (some ⟨b, 0, sp⟩) n c xs :=
  ⟨hc, h9, hn, hwf, fun x hx => by cases hx; exact hs, .inr ⟨b, 0, sp, _, rfl, m.blt hi, m.row hi, fun j _ => by rw [Nat.zero_add]⟩⟩
theorem spot_self {b o n : Nat} : spotIs n ⟨b, o, some n⟩ = true := Nat.beq_refl n
theorem Mem.vlst {M : List Nat} {B H : AHeap} {L : List Res} {i e n : Nat} {a : Option Addr} {D : List Nat} {xs : List α} (m : Mem M B H L) (hi : L[i]? = some (R.lst e E.sz a n (cells E xs) D)) (hwf : ∀ x ∈ xs, E.wf x) (h9 : n ≤ 1000000000) : V E H a n n xs := by
  obtain ⟨h1, h2⟩ := m.res hi
  have hl : xs.length = n := by
    rw [cells_length] at h1
    exact Nat.eq_of_mul_eq_mul_right E.pos h1
  refine ⟨Nat.le_refl _, h9, hl, hwf, fun x hx => ?_, ?_⟩
  · subst hx
    rcases h2 with ⟨-, -, h⟩ | ⟨b, h, -⟩
    · exact exact_spot h x rfl
    · cases h; exact spot_self
  · rcases h2 with ⟨h, -⟩ | ⟨b, rfl, rfl, h⟩
    · exact .inl h
    · exact .inr ⟨b, 0, _, _, rfl, m.lt hi b List.mem_cons_self, row_cells h, fun j _ => by rw [Nat.zero_add]⟩
theorem Mem.lstLen {M : List Nat} {B H : AHeap} {L : List Res} {i e n : Nat} {a : Option Addr} {D : List Nat} {xs : List α} (m : Mem M B H L) (hi : L[i]? = some (R.lst e E.sz a n (cells E xs) D)) : xs.length = n := by
  have h1 := (m.res hi).1
  rw [cells_length] at h1
  exact Nat.eq_of_mul_eq_mul_right E.pos h1
theorem Mem.lstRow {M : List Nat} {B H : AHeap} {L : List Res} {i e sz n : Nat} {a : Option Addr} {D : List Nat} {cs : List Value} (m : Mem M B H L) (hi : L[i]? = some (R.lst e sz a n cs D)) (hn : 0 < n) : ∃ b, a = some ⟨b, 0, some sz⟩ ∧ D = [b] ∧ Mem M B H (L.set i (R.row b e false cs)) := by
  obtain ⟨h1, h2⟩ := m.res hi
  rcases h2 with ⟨h, -⟩ | ⟨b, rfl, rfl, h⟩
  · omega
  · exact ⟨b, rfl, rfl, m.as hi (R.row b e false cs) rfl fun h' => h⟩
theorem Mem.rowLst {M : List Nat} {B H : AHeap} {L : List Res} {i e sz n b : Nat} {cs : List Value} (m : Mem M B H L) (hi : L[i]? = some (R.row b e false cs)) (hn : cs.length = n * sz) : Mem M B H (L.set i (R.lst e sz (some ⟨b, 0, some sz⟩) n cs [b])) :=
  m.as hi (R.lst e sz (some ⟨b, 0, some sz⟩) n cs [b]) rfl fun h => ⟨hn, .inr ⟨b, rfl, rfl, h⟩⟩
end
section
variable {E : Env} {l : Kn} {t u : TypeId} {x y : Operand} {k : IntKind} {a b : Int} {c : Bool}
theorem PV.lssD (hx : kval E.G l x = some (.int k a)) (hy : kval E.G l y = some (.int k b)) (h : decide (a < b) = c) : PV E l (.binOp .lss t x y u) (.bool c) := h ▸ PV.lss hx hy
theorem PV.gtrD (hx : kval E.G l x = some (.int k a)) (hy : kval E.G l y = some (.int k b)) (h : decide (b < a) = c) : PV E l (.binOp .gtr t x y u) (.bool c) := h ▸ PV.gtr hx hy
theorem PV.leqD (hx : kval E.G l x = some (.int k a)) (hy : kval E.G l y = some (.int k b)) (h : decide (a ≤ b) = c) : PV E l (.binOp .leq t x y u) (.bool c) := by
  have e : (!decide (b < a)) = c := by rw [← h, Bool.eq_iff_iff]; simp
  exact e ▸ PV.leq hx hy
theorem PV.geqD (hx : kval E.G l x = some (.int k a)) (hy : kval E.G l y = some (.int k b)) (h : decide (b ≤ a) = c) : PV E l (.binOp .geq t x y u) (.bool c) := by
  have e : (!decide (a < b)) = c := by rw [← h, Bool.eq_iff_iff]; simp
  exact e ▸ PV.geq hx hy
theorem PV.eqlD (hx : kval E.G l x = some (.int k a)) (hy : kval E.G l y = some (.int k b)) (h : decide (a = b) = c) : PV E l (.binOp .eql t x y u) (.bool c) := by
  have e : (a == b) = c := by rw [← h, Bool.eq_iff_iff]; simp
  exact e ▸ PV.eql hx hy
theorem PV.neqD (hx : kval E.G l x = some (.int k a)) (hy : kval E.G l y = some (.int k b)) (h : decide (a ≠ b) = c) : PV E l (.binOp .neq t x y u) (.bool c) := by
  have e : (!(a == b)) = c := by rw [← h, Bool.eq_iff_iff]; simp
  exact e ▸ PV.neq hx hy
theorem PV.notD {p : Prop} [Decidable p] (hx : kval E.G l x = some (.bool (decide p))) : PV E l (.unOp .not t x) (.bool (decide (¬ p))) := by
  have e : (!decide p) = decide (¬ p) := by rw [Bool.eq_iff_iff]; simp
  exact e ▸ PV.not hx
theorem PV.notB {p q : Bool} (hx : kval E.G l x = some (.bool p)) (h : (!p) = q) : PV E l (.unOp .not t x) (.bool q) := h ▸ PV.not hx
theorem PV.indexAddrZ {T e sz : Nat} {i : Operand} {ad : Option Addr} {bl o len cap : Nat} {sp : Option Nat} {z : Int} (hT : E.P.underlying T = some (.slice e)) (hs : sizeT E.P e = some sz)
    (hx : kval E.G l x = some (.slice ad len cap)) (ha : ad = some ⟨bl, o, sp⟩) (hi : kval E.G l i = some (.int k z)) (h0 : 0 ≤ z) (h1 : z < len) : PV E l (.indexAddr T x i) (.pointer (some ⟨bl, o + z.toNat * sz, none⟩)) := by
  subst ha
  obtain ⟨n, rfl⟩ := Int.eq_ofNat_of_zero_le h0
  exact PV.indexAddr hT hs hx hi (by omega)
theorem PV.indexArrZ {T n e sz : Nat} {i : Operand} {bl o : Nat} {z : Int} (hT : E.P.underlying T = some (.array n e)) (hs : sizeT E.P e = some sz)
    (hx : kval E.G l x = some (.pointer (some ⟨bl, o, none⟩))) (hi : kval E.G l i = some (.int k z)) (h0 : 0 ≤ z) (h1 : z < n) : PV E l (.indexAddr T x i) (.pointer (some ⟨bl, o + z.toNat * sz, none⟩)) := by
  obtain ⟨m, rfl⟩ := Int.eq_ofNat_of_zero_le h0
  exact PV.indexArr hT hs hx hi (by omega)
theorem PV.shr1 {k' : IntKind} (hx : kval E.G l x = some (.int k a)) (hy : kval E.G l y = some (.int k' 1)) (hn : a / 2 = b) : PV E l (.binOp .shr t x y u) (.int k b) := by
  have := PV.shr (t := t) (u := u) hx hy (by decide)
  have e : a.fdiv (2 ^ (Min.min (1 : Int).toNat k.bits)) = b := by
    have h1 : Min.min (1 : Int).toNat k.bits = 1 := by cases k <;> rfl
    rw [h1, Int.fdiv_eq_ediv_of_nonneg _ (by decide)]; exact hn
  exact e ▸ this
end
section
variable {E : Env} {f : FuncId} {N : Nat} {l : Kn} {H : AHeap} {Q : AExit → Kn → AHeap → Prop}
theorem KC.condD {x : Operand} {a b : Code} {p : Prop} [Decidable p] (hx : kval E.G l x = some (.bool (decide p))) (h1 : p → KC E f N a l H Q) (h2 : ¬ p → KC E f N b l H Q) : KC E f N (.cond x a b) l H Q :=
  KC.cond hx (fun h => h1 (of_decide_eq_true h)) (fun h => h2 (of_decide_eq_false h))
theorem KC.condT {x : Operand} {a b : Code} (hx : kval E.G l x = some (.bool true)) (h1 : KC E f N a l H Q) : KC E f N (.cond x a b) l H Q :=
  KC.cond hx (fun _ => h1) (fun h => by cases h)
theorem KC.condF {x : Operand} {a b : Code} (hx : kval E.G l x = some (.bool false)) (h1 : KC E f N b l H Q) : KC E f N (.cond x a b) l H Q :=
  KC.cond hx (fun h => by cases h) (fun _ => h1)
end
end Go.Eng
