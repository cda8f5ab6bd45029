/- Rules for runs of the interpreter whose memory is known in part. Conditions: none beyond each theorem's own. -/
import Derived.Test.YtphehedgnhmahaaGreatDoorEngC
/- Symbolic runs with known slots: what is known of a frame is a list; what an operation gives is told by rules that compute. -/
namespace Go.Eng
open Go

/-- What is known of the slots: the newest ahead. -/
abbrev Kn := List (Nat × Value)
def lk : Kn → Nat → Option Value
  | [], _ => none
  | p :: r, i => bif Nat.beq p.1 i then some p.2 else lk r i
def Knows (F : Fr) (N : Nat) (l : Kn) : Prop := F.n = N ∧ ∀ i v, lk l i = some v → F.at i = v
theorem Knows.set {F : Fr} {N : Nat} {l : Kn} {d : Nat} {v : Value} (h : Knows F N l) (hd : Nat.blt d N = true) : Knows (F.set d v) N ((d, v) :: l) := by
  refine ⟨by rw [Fr.n_set]; exact h.1, fun i u hu => ?_⟩
  have hd2 : d < F.n := by rw [h.1]; exact blt_nat.1 hd
  simp only [lk] at hu
  cases hb : Nat.beq d i with
  | true =>
    rw [hb] at hu
    have := Nat.eq_of_beq_eq_true hb
    subst this
    simp only [cond_true, Option.some.injEq] at hu
    subst hu
    exact at_self hd2
  | false =>
    rw [hb] at hu
    rw [at_ne (fun x => by subst x; simp at hb)]
    exact h.2 i u hu
/-- Less is known. -/
def Sub (l' l : Kn) : Prop := ∀ p ∈ l', lk l p.1 = some p.2
theorem lk_mem : ∀ {l : Kn} {i : Nat} {v : Value}, lk l i = some v → (i, v) ∈ l
  | [], _, _, h => by cases h
  | p :: r, i, v, h => by
    simp only [lk] at h
    cases hb : Nat.beq p.1 i with
    | true =>
      rw [hb] at h
      simp only [cond_true, Option.some.injEq] at h
      have := Nat.eq_of_beq_eq_true hb
      cases p; simp_all
    | false =>
      rw [hb] at h
      exact List.mem_cons_of_mem _ (lk_mem h)
theorem Knows.sub {F : Fr} {N : Nat} {l l' : Kn} (h : Knows F N l) (hs : Sub l' l) : Knows F N l' :=
  ⟨h.1, fun _ _ hv => h.2 _ _ (hs _ (lk_mem hv))⟩
theorem Sub.nil {l : Kn} : Sub [] l := fun _ h => absurd h (List.not_mem_nil)
theorem Sub.cons {l l' : Kn} {i : Nat} {v : Value} (h : lk l i = some v) (hs : Sub l' l) : Sub ((i, v) :: l') l := by
  intro p hp
  rcases List.mem_cons.1 hp with rfl | hp
  · exact h
  · exact hs p hp

def kval (G : Nat) (l : Kn) : Operand → Option Value
  | .tmp t => lk l t
  | .const v => bif plain v then some v else none
  | .global g => bif Nat.blt g G then some (.pointer (some ⟨g, 0, none⟩)) else none
  | .func f => some (.func (.func f) #[] #[])
theorem kval_ok {G : Nat} {F : Fr} {N : Nat} {l : Kn} (h : Knows F N l) {x : Operand} {v : Value} (hv : kval G l x = some v) : aval G F x = some v := by
  cases x with
  | tmp t => simp only [aval, h.2 t v hv]
  | const c => exact hv
  | global g => exact hv
  | func f => exact hv
def kvals (G : Nat) (l : Kn) : List Operand → Option (List Value)
  | [] => some []
  | x :: r => (kval G l x).bind fun v => (kvals G l r).map fun vs => v :: vs
theorem kvals_ok {G : Nat} {F : Fr} {N : Nat} {l : Kn} (h : Knows F N l) : ∀ {xs : List Operand} {vs : List Value}, kvals G l xs = some vs → avals G F xs = some vs
  | [], _, hv => hv
  | x :: r, vs, hv => by
    simp only [kvals, Option.bind_eq_some_iff, Option.map_eq_some_iff] at hv
    obtain ⟨v, h1, us, h2, rfl⟩ := hv
    simp only [avals, kval_ok h h1, Option.bind_some, kvals_ok h h2, Option.map_some]
def kparts (G : Nat) (l : Kn) : List (Nat × Operand) → Option (List (Nat × Value))
  | [] => some []
  | p :: r => (kval G l p.2).bind fun v => (kparts G l r).map fun vs => (p.1, v) :: vs
theorem kparts_ok {G : Nat} {F : Fr} {N : Nat} {l : Kn} (h : Knows F N l) : ∀ {xs : List (Nat × Operand)} {vs : List (Nat × Value)}, kparts G l xs = some vs → partVals G F xs = some vs
  | [], _, hv => hv
  | x :: r, vs, hv => by
    simp only [kparts, Option.bind_eq_some_iff, Option.map_eq_some_iff] at hv
    obtain ⟨v, h1, us, h2, rfl⟩ := hv
    simp only [partVals, kval_ok h h1, Option.bind_some, kparts_ok h h2, Option.map_some]
/-- Is the operation wanted? -/
def kwant (ops : List Oper) (l : Kn) (o : Oper) : Option Bool :=
  match o.guard with
  | none => some true
  | some g => (ops[g.1]?).bind fun p => p.dst.bind fun d => (lk l d).bind fun v => yieldB v g.2
theorem kwant_ok {F : Fr} {N : Nat} {l : Kn} (h : Knows F N l) {ops : List Oper} {o : Oper} {w : Bool} (hw : kwant ops l o = some w) : wantedA ops F o = some w := by
  unfold kwant at hw
  unfold wantedA
  cases hg : o.guard with
  | none => rw [hg] at hw; exact hw
  | some g =>
    rw [hg] at hw
    simp only [Option.bind_eq_some_iff] at hw ⊢
    obtain ⟨p, h1, d, h2, v, h3, h4⟩ := hw
    exact ⟨p, h1, d, h2, by rw [h.2 d v h3]; exact h4⟩

/-- An operation gives a value and leaves the memory. -/
def PV (E : Env) (l : Kn) (op : Op) (v : Value) : Prop := ∀ F N, Knows F N l → ∀ c y H, opA E c y F H op = some (v, H)
/-- An operation that reads. -/
def PR (E : Env) (l : Kn) (H : AHeap) (op : Op) (v : Value) : Prop := ∀ F N, Knows F N l → ∀ c y, opA E c y F H op = some (v, H)
/-- Any operation without a call. -/
def PX (E : Env) (l : Kn) (H : AHeap) (op : Op) (v : Value) (H1 : AHeap) : Prop := ∀ F N, Knows F N l → ∀ c y, opA E c y F H op = some (v, H1)
theorem PV.read {E : Env} {l : Kn} {op : Op} {v : Value} (h : PV E l op v) (H : AHeap) : PX E l H op v H := fun F N k c y => h F N k c y H

/-- Regions in text order. -/
def KO (E : Env) (N : Nat) (ops rest : List Oper) (l : Kn) (H : AHeap) (Q : Kn → AHeap → Prop) : Prop :=
  ∀ F, Knows F N l → WO E ops rest F H fun F' H' => ∃ l', Knows F' N l' ∧ Q l' H'
/-- Code. -/
def KC (E : Env) (f : FuncId) (N : Nat) (c : Code) (l : Kn) (H : AHeap) (Q : AExit → Kn → AHeap → Prop) : Prop :=
  ∀ F, Knows F N l → WC E c ⟨f, F, [], none⟩ H fun o => ∃ l', o.F.fn = f ∧ o.F.defs = [] ∧ o.F.round = none ∧ Knows o.F.tmps N l' ∧ Q o.e l' o.H

section
variable {E : Env} {N : Nat} {ops rest : List Oper} {l : Kn} {H : AHeap} {Q : Kn → AHeap → Prop}
theorem KO.nil (h : Q l H) : KO E N ops [] l H Q := fun _ hF => WO.nil ⟨l, hF, h⟩
theorem KO.sub {l' : Kn} (hs : Sub l' l) (h : KO E N ops rest l' H Q) : KO E N ops rest l H Q := fun F hF => h F (hF.sub hs)
theorem KO.mono {Q' : Kn → AHeap → Prop} (h : KO E N ops rest l H Q) (hq : ∀ l' H', Q l' H' → Q' l' H') : KO E N ops rest l H Q' := by
  intro F hF
  obtain ⟨n, w⟩ := h F hF
  exact ⟨n, w.mono fun p hp => by obtain ⟨l', a, b⟩ := hp; exact ⟨l', a, hq _ _ b⟩⟩
/-- An operation that leaves the memory. -/
theorem KO.pv {d : Nat} {op : Op} {ty : TypeId} {ps : String} {af : Array Edge} {g : Option (Nat × Bool)} {v : Value} (hp : PV E l op v) (hw : kwant ops l ⟨some d, op, ty, ps, af, g⟩ = some true) (hd : Nat.blt d N = true)
    (h : KO E N ops rest ((d, v) :: l) H Q) : KO E N ops (⟨some d, op, ty, ps, af, g⟩ :: rest) l H Q := by
  intro F hF
  refine WO.guard (w := true) (kwant_ok hF hw) ?_
  simp only [if_true]
  exact WP.of (fun c y => hp F N hF c y H) (h _ (hF.set hd))
/-- An operation with its memory. -/
theorem KO.px {d : Nat} {op : Op} {ty : TypeId} {ps : String} {af : Array Edge} {g : Option (Nat × Bool)} {v : Value} {H1 : AHeap} (hp : PX E l H op v H1) (hw : kwant ops l ⟨some d, op, ty, ps, af, g⟩ = some true) (hd : Nat.blt d N = true)
    (h : KO E N ops rest ((d, v) :: l) H1 Q) : KO E N ops (⟨some d, op, ty, ps, af, g⟩ :: rest) l H Q := by
  intro F hF
  refine WO.guard (w := true) (kwant_ok hF hw) ?_
  simp only [if_true]
  exact WP.of (fun c y => hp F N hF c y) (h _ (hF.set hd))
theorem KO.pn {op : Op} {ty : TypeId} {ps : String} {af : Array Edge} {g : Option (Nat × Bool)} {v : Value} {H1 : AHeap} (hp : PX E l H op v H1) (hw : kwant ops l ⟨none, op, ty, ps, af, g⟩ = some true)
    (h : KO E N ops rest l H1 Q) : KO E N ops (⟨none, op, ty, ps, af, g⟩ :: rest) l H Q := by
  intro F hF
  refine WO.guard (w := true) (kwant_ok hF hw) ?_
  simp only [if_true]
  exact WP.of (fun c y => hp F N hF c y) (h _ hF)
/-- An operation that is not wanted. -/
theorem KO.no {o : Oper} {d : Nat} (ho : o.dst = some d) (hw : kwant ops l o = some false) (hd : Nat.blt d N = true)
    (h : KO E N ops rest ((d, undefV) :: l) H Q) : KO E N ops (o :: rest) l H Q := by
  intro F hF
  refine WO.guard (w := false) (kwant_ok hF hw) ?_
  rw [if_neg (by simp), ho]
  exact h _ (hF.set hd)
/-- A call of a known function. -/
theorem KO.call {d : Nat} {f : FuncId} {as : Array Operand} {ts : Array TypeId} {ty : TypeId} {ps : String} {af : Array Edge} {g : Option (Nat × Bool)} {vs : List Value} {Q0 : Value × AHeap → Prop}
    (hx : E.ext f = none) (ha : kvals E.G l as.toList = some vs) (hw : kwant ops l ⟨some d, .call ⟨.value (.func f), as, ts⟩, ty, ps, af, g⟩ = some true) (hd : Nat.blt d N = true)
    (hf : WF E f vs H Q0) (h : ∀ v H1, Q0 (v, H1) → KO E N ops rest ((d, v) :: l) H1 Q) : KO E N ops (⟨some d, .call ⟨.value (.func f), as, ts⟩, ty, ps, af, g⟩ :: rest) l H Q := by
  intro F hF
  refine WO.guard (w := true) (kwant_ok hF hw) ?_
  simp only [if_true]
  exact WP.call rfl hx (kvals_ok hF ha) (hf.mono fun r hr => h _ _ hr _ (hF.set hd))
/-- A call of a function value. -/
theorem KO.callV {d : Nat} {t : Tmp} {f : FuncId} {a b : Array Value} {as : Array Operand} {ts : Array TypeId} {ty : TypeId} {ps : String} {af : Array Edge} {g : Option (Nat × Bool)} {vs : List Value} {Q0 : Value × AHeap → Prop}
    (hk : lk l t = some (.func (.func f) a b)) (hx : E.ext f = none) (ha : kvals E.G l as.toList = some vs) (hw : kwant ops l ⟨some d, .call ⟨.value (.tmp t), as, ts⟩, ty, ps, af, g⟩ = some true) (hd : Nat.blt d N = true)
    (hf : WF E f (a.toList ++ (vs ++ b.toList)) H Q0) (h : ∀ v H1, Q0 (v, H1) → KO E N ops rest ((d, v) :: l) H1 Q) : KO E N ops (⟨some d, .call ⟨.value (.tmp t), as, ts⟩, ty, ps, af, g⟩ :: rest) l H Q := by
  intro F hF
  refine WO.guard (w := true) (kwant_ok hF hw) ?_
  simp only [if_true]
  exact WP.callV rfl (hF.2 t _ hk) hx (kvals_ok hF ha) (hf.mono fun r hr => h _ _ hr _ (hF.set hd))
end

section
variable {E : Env} {f : FuncId} {N : Nat} {l : Kn} {H : AHeap} {Q : AExit → Kn → AHeap → Prop}
theorem KC.sub {c : Code} {l' : Kn} (hs : Sub l' l) (h : KC E f N c l' H Q) : KC E f N c l H Q := fun F hF => h F (hF.sub hs)
theorem KC.mono {c : Code} {Q' : AExit → Kn → AHeap → Prop} (h : KC E f N c l H Q) (hq : ∀ e l' H', Q e l' H' → Q' e l' H') : KC E f N c l H Q' := by
  intro F hF
  exact (h F hF).mono fun o ho => by
    obtain ⟨l', a, b, c, d, e⟩ := ho
    exact ⟨l', a, b, c, d, hq _ _ _ e⟩
theorem KC.skip (h : Q .normal l H) : KC E f N .skip l H Q := fun _ hF => WC.skip ⟨l, rfl, rfl, rfl, hF, h⟩
theorem KC.ret (h : Q .ret l H) : KC E f N .ret l H Q := fun _ hF => WC.ret ⟨l, rfl, rfl, rfl, hF, h⟩
theorem KC.exit {id : Nat} (h : Q (.exit id) l H) : KC E f N (.exit id) l H Q := fun _ hF => WC.exit ⟨l, rfl, rfl, rfl, hF, h⟩
/-- What follows, if it comes to it. -/
abbrev aft (b : Kn → AHeap → Prop) (Q : AExit → Kn → AHeap → Prop) : AExit → Kn → AHeap → Prop
  | .normal, l, H => b l H
  | e, l, H => Q e l H
theorem aftN {b : Kn → AHeap → Prop} {Q : AExit → Kn → AHeap → Prop} {l : Kn} {H : AHeap} (h : b l H) : aft b Q .normal l H := h
theorem KC.seq {a b : Code} (h : KC E f N a l H (aft (fun l' H' => KC E f N b l' H' Q) Q)) : KC E f N (.seq a b) l H Q := by
  intro F hF
  refine WC.seq ((h F hF).mono fun o ho => ?_)
  obtain ⟨l', h1, h2, h3, h4, h5⟩ := ho
  cases he : o.e with
  | normal =>
    rw [he] at h5
    have := h5 o.F.tmps h4
    obtain ⟨e, ⟨fn, tm, df, rd⟩, Ho⟩ := o
    subst h1; subst h2; subst h3
    exact this
  | exit id => exact ⟨l', h1, h2, h3, h4, by rw [he] at h5; exact h5⟩
  | ret => exact ⟨l', h1, h2, h3, h4, by rw [he] at h5; exact h5⟩
theorem KC.region {id : Nat} {ops : Array Oper} (h : KO E N ops.toList ops.toList l H (Q .normal)) : KC E f N (.region id ops false) l H Q := by
  intro F hF
  refine WC.region ?_
  obtain ⟨n, w⟩ := h F hF
  exact ⟨n, w.mono fun p hp => by
    obtain ⟨l', a, b⟩ := hp
    exact ⟨l', rfl, rfl, rfl, a, b⟩⟩
/-- A region, and what follows. -/
theorem KC.rseq {id : Nat} {ops : Array Oper} {b : Code} (h : KO E N ops.toList ops.toList l H fun l' H' => KC E f N b l' H' Q) : KC E f N (.seq (.region id ops false) b) l H Q :=
  KC.seq (KC.region h)
theorem KC.cond {x : Operand} {a b : Code} {t : Bool} (hx : kval E.G l x = some (.bool t)) (h1 : t = true → KC E f N a l H Q) (h2 : t = false → KC E f N b l H Q) : KC E f N (.cond x a b) l H Q := by
  intro F hF
  refine WC.cond (kval_ok hF hx) ?_
  cases t
  · exact h2 rfl F hF
  · exact h1 rfl F hF
theorem KC.block {id : Nat} {c : Code} (h : KC E f N c l H fun e l' H' => Q (match e with | .exit i => bif Nat.beq i id then .normal else .exit i | e => e) l' H') : KC E f N (.block id c) l H Q := by
  intro F hF
  refine WC.block ((h F hF).mono fun o ho => ?_)
  obtain ⟨l', h1, h2, h3, h4, h5⟩ := ho
  obtain ⟨e, Fo, Ho⟩ := o
  cases e with
  | normal => exact ⟨l', h1, h2, h3, h4, h5⟩
  | ret => exact ⟨l', h1, h2, h3, h4, h5⟩
  | exit i =>
    show ∃ l', _
    simp only [leaveA] at h5 ⊢
    cases hb : Nat.beq i id with
    | true => rw [hb] at h5; exact ⟨l', h1, h2, h3, h4, h5⟩
    | false => rw [hb] at h5; exact ⟨l', h1, h2, h3, h4, h5⟩
theorem KC.loop {c : Code} (h : KC E f N c l H (aft (fun l' H' => KC E f N (.loop c) l' H' Q) Q)) : KC E f N (.loop c) l H Q := by
  intro F hF
  refine WC.loop ((h F hF).mono fun o ho => ?_)
  obtain ⟨l', h1, h2, h3, h4, h5⟩ := ho
  cases he : o.e with
  | normal =>
    rw [he] at h5
    have := h5 o.F.tmps h4
    obtain ⟨e, ⟨fn, tm, df, rd⟩, Ho⟩ := o
    subst h1; subst h2; subst h3
    exact this
  | exit id => exact ⟨l', h1, h2, h3, h4, by rw [he] at h5; exact h5⟩
  | ret => exact ⟨l', h1, h2, h3, h4, by rw [he] at h5; exact h5⟩
/-- A loop with an invariant that counts down. -/
theorem KC.loopN {c : Code} (I : Nat → Kn → AHeap → Prop) (hstep : ∀ k l H, I k l H → KC E f N c l H (aft (fun l' H' => ∃ k' l'', k' < k ∧ Sub l'' l' ∧ I k' l'' H') Q)) (k : Nat) (h0 : I k l H) : KC E f N (.loop c) l H Q := by
  induction k using Nat.strongRecOn generalizing l H with
  | ind k ih =>
    refine KC.loop ((hstep k l H h0).mono fun e l' H' he => ?_)
    cases e with
    | normal =>
      obtain ⟨k', l'', hk, hs, hi⟩ := he
      exact KC.sub hs (ih k' hk hi)
    | exit id => exact he
    | ret => exact he
/-- A function, from its body. -/
def args0 : Nat → List Value → Kn
  | _, [] => []
  | i, v :: r => (i, v) :: args0 (i + 1) r
def kres (l : Kn) : List ResultVar → Option (List Value)
  | [] => some []
  | .tmp t :: r => (lk l t).bind fun v => (kres l r).map fun vs => v :: vs
  | _ => none
theorem kres_ok {P : Program} {F : Fr} {N : Nat} {l : Kn} {H : AHeap} (h : Knows F N l) : ∀ {rs : List ResultVar} {vs : List Value}, kres l rs = some vs → resultsA P F H rs = some vs
  | [], _, hv => hv
  | .tmp t :: r, vs, hv => by
    simp only [kres, Option.bind_eq_some_iff, Option.map_eq_some_iff] at hv
    obtain ⟨v, h1, us, h2, rfl⟩ := hv
    simp only [resultsA, resultA, h.2 t v h1, Option.bind_some, kres_ok h h2, Option.map_some]
theorem putArgs_getk : ∀ (vs : List Value) (i : Nat) (t : Tr Value) (j : Nat), (putArgs vs i t).get j = if i ≤ j ∧ j < i + vs.length then vs[j - i]? else t.get j
  | [], i, t, j => by simp only [putArgs, List.length_nil]; rw [if_neg (by omega)]
  | v :: r, i, t, j => by
    simp only [putArgs]
    rw [putArgs_getk r (Nat.succ i) _ j]
    by_cases h : j = i
    · subst h
      rw [if_neg (by omega), Tr.get_put _ _ _ _ _ (Nat.lt_succ_self j), if_pos rfl, if_pos (by simp only [List.length_cons]; omega)]
      simp
    · rw [Tr.get_put _ _ _ _ _ (Nat.lt_succ_self i), if_neg h]
      by_cases h2 : i + 1 ≤ j ∧ j < i + 1 + r.length
      · rw [if_pos h2, if_pos (by simp only [List.length_cons]; omega)]
        have : j - i = (j - Nat.succ i) + 1 := by omega
        rw [this, List.getElem?_cons_succ]
      · rw [if_neg (by simpa [Nat.succ_eq_add_one] using h2), if_neg (by simp only [List.length_cons]; omega)]
theorem args0_lk : ∀ (vs : List Value) (i j : Nat) (v : Value), lk (args0 i vs) j = some v → i ≤ j ∧ vs[j - i]? = some v
  | [], _, _, _, h => by cases h
  | u :: r, i, j, v, h => by
    simp only [args0, lk] at h
    cases hb : Nat.beq i j with
    | true =>
      rw [hb] at h
      have := Nat.eq_of_beq_eq_true hb
      subst this
      exact ⟨Nat.le_refl _, by simpa using h⟩
    | false =>
      rw [hb] at h
      obtain ⟨h1, h2⟩ := args0_lk r (i + 1) j v h
      refine ⟨by omega, ?_⟩
      have : j - i = (j - (i + 1)) + 1 := by omega
      rw [this, List.getElem?_cons_succ]
      exact h2
theorem knows0 (vs : List Value) (n : Nat) (hn : Nat.ble vs.length n = true) : Knows (frame0 vs n) n (args0 0 vs) := by
  refine ⟨by simp only [frame0, maxN, hn, cond_true], fun i v hv => ?_⟩
  obtain ⟨-, h2⟩ := args0_lk vs 0 i v hv
  have hlt := (List.getElem?_eq_some_iff.1 h2).1
  simp only [Fr.at, frame0, putArgs_getk]
  rw [if_pos (by omega), h2]; rfl
theorem WF.k {fn : Func} {c : Code} {vs : List Value} {R : Value × AHeap → Prop} (hf : E.P.funcs[f]? = some fn) (hb : fn.body = some c) (hn : Nat.ble vs.length fn.ntmps = true)
    (h : KC E f fn.ntmps c (args0 0 vs) H fun e l' H' => isExit e = false ∧ ∃ us, kres l' fn.results.toList = some us ∧ R (pack us, H')) (hs : E.sum f = none := by rfl) : WF E f vs H R := by
  refine WF.of hs hf hb ((h _ (knows0 vs _ hn)).mono fun o ho => ?_)
  obtain ⟨l', h1, h2, h3, h4, h5, us, h6, h7⟩ := ho
  refine ⟨_, ?_, h7⟩
  simp only [funcEnd, h5, cond_false, h2, closeDefs, Option.bind_some, kres_ok h4 h6, Option.map_some]
/-- The same with a result that is loaded. -/
theorem WF.kc {fn : Func} {c : Code} {vs : List Value} {a : Tmp} {t : TypeId} {R : Value × AHeap → Prop} (hf : E.P.funcs[f]? = some fn) (hb : fn.body = some c) (hn : Nat.ble vs.length fn.ntmps = true) (hr : fn.results.toList = [.cell a t])
    (h : KC E f fn.ntmps c (args0 0 vs) H fun e l' H' => isExit e = false ∧ ∃ p v, lk l' a = some p ∧ loadA E.P t p H' = some v ∧ R (v, H')) (hs : E.sum f = none := by rfl) : WF E f vs H R := by
  refine WF.of hs hf hb ((h _ (knows0 vs _ hn)).mono fun o ho => ?_)
  obtain ⟨l', h1, h2, h3, h4, h5, p, v, h6, h7, h8⟩ := ho
  refine ⟨_, ?_, h8⟩
  simp only [funcEnd, h5, cond_false, h2, closeDefs, Option.bind_some, hr, resultsA, resultA, h4.2 a p h6, h7, Option.map_some, pack]
end
end Go.Eng

/- What the operations give, by what is known. -/
namespace Go.Eng
open Go

theorem wrap64 {a : Int} (h1 : -9223372036854775808 ≤ a) (h2 : a < 9223372036854775808) : IntKind.i64.wrap a = a := by
  simp [IntKind.wrap, IntKind.bits, IntKind.signed]; omega
theorem wrap_wrap (k : IntKind) (z : Int) : k.wrap (k.wrap z) = k.wrap z := by
  cases k <;> simp [IntKind.wrap, IntKind.bits, IntKind.signed] <;> omega
theorem ikBeq_self (k : IntKind) : ikBeq k k = true := by cases k <;> rfl

section
variable {E : Env} {l : Kn} {H : AHeap}
theorem PV.move {x : Operand} {v : Value} (hx : kval E.G l x = some v) : PV E l (.move x) v := by
  intro F N hF c y H; simp only [opA, kval_ok hF hx, keepH, Option.map_some]
theorem PV.assign {x : Operand} {v : Value} (hx : kval E.G l x = some v) : PV E l (.assign x) v := by
  intro F N hF c y H; simp only [opA, kval_ok hF hx, keepH, Option.map_some]
theorem PV.pick {c a b : Operand} {t : Bool} {v w : Value} (hc : kval E.G l c = some (.bool t)) (ha : kval E.G l a = some v) (hb : kval E.G l b = some w) : PV E l (.pick c a b) (if t then v else w) := by
  intro F N hF cc y H; simp only [opA, kval_ok hF hc, kval_ok hF ha, kval_ok hF hb, keepH, pickA, Option.bind_some, Option.map_some, vBool]; cases t <;> rfl
theorem PV.pickT {c a b : Operand} {v : Value} {w : Value} (hc : kval E.G l c = some (.bool true)) (ha : kval E.G l a = some v) (hb : kval E.G l b = some w) : PV E l (.pick c a b) v := PV.pick hc ha hb
theorem PV.pickF {c a b : Operand} {v : Value} {w : Value} (hc : kval E.G l c = some (.bool false)) (ha : kval E.G l a = some v) (hb : kval E.G l b = some w) : PV E l (.pick c a b) w := by
  have := PV.pick hc ha hb; simpa using this
theorem PV.nilCheck {x : Operand} {a : Addr} (hx : kval E.G l x = some (.pointer (some a))) : PV E l (.nilCheck x) (.pointer (some a)) := by
  intro F N hF c y H; simp only [opA, kval_ok hF hx, keepH, Option.bind_some, nonNil, vPtr, isNone, cond_false, Option.map_some]
/-- The offset of a field. -/
def foff (P : Program) (s : TypeId) (f : Nat) : Option Nat :=
  (fieldOf P s f).bind fun fd => (sizeT P fd.type).bind fun n => bif Nat.blt 0 n then some fd.offset else none
theorem PV.fieldAddr {s : TypeId} {f : Nat} {x : Operand} {b o k : Nat} (hk : foff E.P s f = some k) (hx : kval E.G l x = some (.pointer (some ⟨b, o, none⟩))) : PV E l (.fieldAddr s x f) (.pointer (some ⟨b, o + k, none⟩)) := by
  intro F N hF c y H
  simp only [foff, Option.bind_eq_some_iff, bif_some, Option.some.injEq] at hk
  obtain ⟨fd, h1, n, h2, h3, rfl⟩ := hk
  simp only [opA, kval_ok hF hx, keepH, Option.bind_some, fieldAddrA, h1, h2, h3, cond_true, vAddr, vPtr, plainAddr, isNone, Option.map_some]
def fty (P : Program) (s : TypeId) (f : Nat) : Option (TypeId × Nat) := (fieldOf P s f).map fun fd => (fd.type, fd.offset)
theorem PV.field {s : TypeId} {f : Nat} {x : Operand} {cs : Array Value} {T k : Nat} {v : Value} (hk : fty E.P s f = some (T, k)) (hx : kval E.G l x = some (.agg cs)) (hv : readAt E.P T cs.toList k = some v) : PV E l (.field s x f) v := by
  intro F N hF c y H
  simp only [fty, Option.map_eq_some_iff, Prod.mk.injEq] at hk
  obtain ⟨fd, h1, rfl, rfl⟩ := hk
  simp only [opA, kval_ok hF hx, keepH, Option.bind_some, fieldA, h1, vAgg, hv, Option.map_some]
/-! ### whole numbers -/
section
variable {t u : TypeId} {x y : Operand} {k : IntKind} {a b : Int}
theorem PV.bin (hx : kval E.G l x = some (.int k a)) (hy : kval E.G l y = some (.int k b)) {op : BinOp} {v : Value} (hv : binInt op t (.int k a) (.int k b) (k, a) (k, b) = some v) : PV E l (.binOp op t x y u) v := by
  intro F N hF c yy H
  simp only [opA, opBin, kval_ok hF hx, kval_ok hF hy, keepH, Option.bind_some, binA, vInt, hv, Option.map_some]
theorem PV.add (hx : kval E.G l x = some (.int k a)) (hy : kval E.G l y = some (.int k b)) {n : Int} (hn : k.wrap (a + b) = n) : PV E l (.binOp .add t x y u) (.int k n) := PV.bin hx hy (by simp only [binInt, arith, ikBeq_self, cond_true, addI_eq, hn])
theorem PV.sub (hx : kval E.G l x = some (.int k a)) (hy : kval E.G l y = some (.int k b)) {n : Int} (hn : k.wrap (a - b) = n) : PV E l (.binOp .sub t x y u) (.int k n) := PV.bin hx hy (by simp only [binInt, arith, ikBeq_self, cond_true, subI_eq, hn])
theorem PV.mul (hx : kval E.G l x = some (.int k a)) (hy : kval E.G l y = some (.int k b)) {n : Int} (hn : k.wrap (a * b) = n) : PV E l (.binOp .mul t x y u) (.int k n) := PV.bin hx hy (by simp only [binInt, arith, ikBeq_self, cond_true, mulI_eq, hn])
theorem PV.lss (hx : kval E.G l x = some (.int k a)) (hy : kval E.G l y = some (.int k b)) : PV E l (.binOp .lss t x y u) (.bool (decide (a < b))) := PV.bin hx hy (by simp only [binInt, cmpB, ikBeq_self, cond_true, ltI_eq])
theorem PV.gtr (hx : kval E.G l x = some (.int k a)) (hy : kval E.G l y = some (.int k b)) : PV E l (.binOp .gtr t x y u) (.bool (decide (b < a))) := PV.bin hx hy (by simp only [binInt, cmpB, ikBeq_self, cond_true, ltI_eq])
theorem PV.leq (hx : kval E.G l x = some (.int k a)) (hy : kval E.G l y = some (.int k b)) : PV E l (.binOp .leq t x y u) (.bool (!decide (b < a))) := PV.bin hx hy (by simp only [binInt, cmpB, ikBeq_self, cond_true, ltI_eq])
theorem PV.geq (hx : kval E.G l x = some (.int k a)) (hy : kval E.G l y = some (.int k b)) : PV E l (.binOp .geq t x y u) (.bool (!decide (a < b))) := PV.bin hx hy (by simp only [binInt, cmpB, ikBeq_self, cond_true, ltI_eq])
theorem PV.eql (hx : kval E.G l x = some (.int k a)) (hy : kval E.G l y = some (.int k b)) : PV E l (.binOp .eql t x y u) (.bool (a == b)) := PV.bin hx hy (by simp only [binInt, cmpB, ikBeq_self, cond_true, eqI_eq])
theorem PV.neq (hx : kval E.G l x = some (.int k a)) (hy : kval E.G l y = some (.int k b)) : PV E l (.binOp .neq t x y u) (.bool (!(a == b))) := PV.bin hx hy (by simp only [binInt, cmpB, ikBeq_self, cond_true, eqI_eq])
theorem PV.bits (hx : kval E.G l x = some (.int k a)) (hy : kval E.G l y = some (.int k b)) {op : BinOp} (hop : op = .and ∨ op = .or ∨ op = .xor) : ∃ n : Int, k.wrap n = n ∧ PV E l (.binOp op t x y u) (.int k n) := by
  rcases hop with rfl | rfl | rfl
  · refine ⟨k.wrap ((BitVec.ofInt k.bits a &&& BitVec.ofInt k.bits b).toNat), wrap_wrap _ _, PV.bin hx hy ?_⟩
    cases k <;> rfl
  · refine ⟨k.wrap ((BitVec.ofInt k.bits a ||| BitVec.ofInt k.bits b).toNat), wrap_wrap _ _, PV.bin hx hy ?_⟩
    cases k <;> rfl
  · refine ⟨k.wrap ((BitVec.ofInt k.bits a ^^^ BitVec.ofInt k.bits b).toNat), wrap_wrap _ _, PV.bin hx hy ?_⟩
    cases k <;> rfl
end
theorem PV.shl {t u : TypeId} {x y : Operand} {k k' : IntKind} {a b : Int} (hx : kval E.G l x = some (.int k a)) (hy : kval E.G l y = some (.int k' b)) (hb : 0 ≤ b) : PV E l (.binOp .shl t x y u) (.int k (k.wrap (a * 2 ^ (min b.toNat k.bits)))) := by
  intro F N hF c yy H
  have hb' : ¬ b < 0 := by omega
  simp only [opA, opBin, kval_ok hF hx, kval_ok hF hy, keepH, Option.bind_some, binA, vInt, binInt, binOp, Op.shift, hb', if_false]
  rfl
theorem PV.shr {t u : TypeId} {x y : Operand} {k k' : IntKind} {a b : Int} (hx : kval E.G l x = some (.int k a)) (hy : kval E.G l y = some (.int k' b)) (hb : 0 ≤ b) : PV E l (.binOp .shr t x y u) (.int k (a.fdiv (2 ^ (min b.toNat k.bits)))) := by
  intro F N hF c yy H
  have hb' : ¬ b < 0 := by omega
  simp only [opA, opBin, kval_ok hF hx, kval_ok hF hy, keepH, Option.bind_some, binA, vInt, binInt, binOp, Op.shift, hb', if_false]
  rfl
theorem PV.not {t : TypeId} {x : Operand} {b : Bool} (hx : kval E.G l x = some (.bool b)) : PV E l (.unOp .not t x) (.bool (!b)) := by
  intro F N hF c yy H
  simp only [opA, kval_ok hF hx, keepH, Option.bind_some, unA, plain, cond_true]
  rfl
theorem PV.bneq {t u : TypeId} {x y : Operand} {a b : Bool} (ht : E.P.underlying t = some TypeDesc.bool) (hx : kval E.G l x = some (.bool a)) (hy : kval E.G l y = some (.bool b)) : PV E l (.binOp .neq t x y u) (.bool (!(a == b))) := by
  intro F N hF c yy H
  simp only [opA, opBin, kval_ok hF hx, kval_ok hF hy, keepH, Option.bind_some, binA, vInt, vStr, eqA, isEql, isNilIface, Bool.false_and, cond_false, ht, eqD, dPtr, dStruct, dSlice, dMap, dFunc, dIface, dBool, cond_true, vBool, Option.map_some, sameB]
/-- A conversion between kinds of whole numbers. -/
theorem PV.convert {s d : TypeId} {x : Operand} {k k0 : IntKind} {a : Int} {ds : TypeDesc} (hs : E.P.underlying s = some ds) (hd : E.P.underlying d = some (.int k)) (hx : kval E.G l x = some (.int k0 a)) : PV E l (.convert s d x) (.int k (k.wrap a)) := by
  intro F N hF c yy H
  simp only [opA, kval_ok hF hx, Option.bind_some, convA, hs, hd, dSlice, convD, dInt, convInt, vInt, Option.map_some]
/-! ### addresses -/
theorem PV.indexAddr {T e sz : Nat} {x i : Operand} {b o len cap j : Nat} {sp : Option Nat} {k : IntKind} (hT : E.P.underlying T = some (.slice e)) (hs : sizeT E.P e = some sz)
    (hx : kval E.G l x = some (.slice (some ⟨b, o, sp⟩) len cap)) (hi : kval E.G l i = some (.int k (j : Nat))) (hj : j < len) : PV E l (.indexAddr T x i) (.pointer (some ⟨b, o + j * sz, none⟩)) := by
  intro F N hF c yy H
  simp only [opA, opIndexAddr, kval_ok hF hx, kval_ok hF hi, keepH, Option.bind_some, indexAddrA, vNat, vInt, iNat, hT, dSlice, hs, vSl, idxSl, blt_nat.2 hj, cond_true, Option.map_some]
theorem PV.indexArr {T n e sz : Nat} {x i : Operand} {b o j : Nat} {k : IntKind} (hT : E.P.underlying T = some (.array n e)) (hs : sizeT E.P e = some sz)
    (hx : kval E.G l x = some (.pointer (some ⟨b, o, none⟩))) (hi : kval E.G l i = some (.int k (j : Nat))) (hj : j < n) : PV E l (.indexAddr T x i) (.pointer (some ⟨b, o + j * sz, none⟩)) := by
  intro F N hF c yy H
  simp only [opA, opIndexAddr, kval_ok hF hx, kval_ok hF hi, keepH, Option.bind_some, indexAddrA, vNat, vInt, iNat, hT, dSlice, dArray, hs, vAddr, vPtr, plainAddr, isNone, cond_true, idxArr, blt_nat.2 hj, Option.map_some]
theorem PV.index {T n e sz : Nat} {x i : Operand} {cs : Array Value} {j : Nat} {k : IntKind} {v : Value} (hT : E.P.underlying T = some (.array n e)) (hs : sizeT E.P e = some sz)
    (hx : kval E.G l x = some (.agg cs)) (hi : kval E.G l i = some (.int k (j : Nat))) (hj : j < n) (hv : readAt E.P e cs.toList (j * sz) = some v) : PV E l (.index T x i) v := by
  intro F N hF c yy H
  simp only [opA, opIndex, kval_ok hF hx, kval_ok hF hi, keepH, Option.bind_some, indexA, vNat, vInt, iNat, hT, dString, dArray, cond_false, hs, vAgg, blt_nat.2 hj, cond_true, hv, Option.map_some]
theorem PV.extract {x : Operand} {cs : Array Value} {i : Nat} {v : Value} (hx : kval E.G l x = some (.tuple cs)) (hv : cs.toList[i]? = some v) : PV E l (.extract x i) v := by
  intro F N hF c yy H
  simp only [opA, kval_ok hF hx, keepH, Option.bind_some, extractA, vTup, hv, Option.map_some]
theorem PV.len {x : Operand} {t e : TypeId} {a : Option Addr} {n c : Nat} (ht : E.P.underlying t = some (.slice e)) (hx : kval E.G l x = some (.slice a n c)) : PV E l (.call ⟨.builtin .len, #[x], #[t]⟩) (.int .i64 (n : Int)) := by
  intro F N hF cc yy H
  have hx' : avals E.G F [x] = some [.slice a n c] := by simp only [avals, kval_ok hF hx, Option.bind_some, Option.map_some]
  show callOpA E cc yy F _ H = _
  simp only [callOpA, hx', Option.bind_some, calleeA, builtinA]
  show (bif true then keepH H (lenA E.P t (.slice a n c) H) else none) = _
  simp only [cond_true, lenA, ht, Option.bind_some, lenD, dString, cond_false, dSlice, vSl, Option.map_some, keepH, goI]
  rfl
theorem PV.cap {x : Operand} {t e : TypeId} {a : Option Addr} {n c : Nat} (ht : E.P.underlying t = some (.slice e)) (ha : exactBase a = true) (hx : kval E.G l x = some (.slice a n c)) : PV E l (.call ⟨.builtin .cap, #[x], #[t]⟩) (.int .i64 (c : Int)) := by
  intro F N hF cc yy H
  have hx' : avals E.G F [x] = some [.slice a n c] := by simp only [avals, kval_ok hF hx, Option.bind_some, Option.map_some]
  show callOpA E cc yy F _ H = _
  simp only [callOpA, hx', Option.bind_some, calleeA, builtinA]
  show (bif true then keepH H (capA E.P t (.slice a n c)) else none) = _
  simp only [cond_true, capA, elemT, ht, Option.bind_some, dSlice, vSl, ha, cond_true, Option.map_some, keepH, goI]
  rfl
theorem PV.makeFunc {f : FuncId} {a b : Array Operand} {va vb : List Value} (ha : kvals E.G l a.toList = some va) (hb : kvals E.G l b.toList = some vb) : PV E l (.makeFunc (.func f) a b) (.func (.func f) va.toArray vb.toArray) := by
  intro F N hF c yy H
  simp only [opA, keepH, makeFuncA, fnFunc, Option.bind_some, kvals_ok hF ha, kvals_ok hF hb, Option.map_some]
theorem PV.build {t : TypeId} {ps : Array (Nat × Operand)} {vs : List (Nat × Value)} {v : Value} (hp : kparts E.G l ps.toList = some vs) (hv : buildA E.P t vs = some v) : PV E l (.build t ps) v := by
  intro F N hF c yy H
  simp only [opA, keepH, opBuild, kparts_ok hF hp, Option.bind_some, hv, Option.map_some]
/-- A part of a slice, from a place on; the room is known, or the part begins within the length. -/
theorem PV.slice {t : TypeId} {x : Operand} {lo hi mx : Option Operand} {xv v : Value} {vl vh vm : Option Value} (hx : kval E.G l x = some xv)
    (hl : ∀ o, lo = some o → ∃ u, vl = some u ∧ kval E.G l o = some u) (hl0 : lo = none → vl = none)
    (hh : ∀ o, hi = some o → ∃ u, vh = some u ∧ kval E.G l o = some u) (hh0 : hi = none → vh = none)
    (hm : ∀ o, mx = some o → ∃ u, vm = some u ∧ kval E.G l o = some u) (hm0 : mx = none → vm = none)
    (hv : sliceA E.P t xv vl vh vm = some v) : PV E l (.slice t x lo hi mx) v := by
  intro F N hF c yy H
  have go : ∀ {q : Option Operand} {vq : Option Value}, (∀ o, q = some o → ∃ u, vq = some u ∧ kval E.G l o = some u) → (q = none → vq = none) → optVal E.G F q = some vq := by
    intro q vq h1 h2
    cases q with
    | none => rw [h2 rfl]; rfl
    | some o =>
      obtain ⟨u, rfl, hu⟩ := h1 o rfl
      simp only [optVal, kval_ok hF hu, Option.map_some]
  simp only [opA, keepH, opSlice, kval_ok hF hx, go hl hl0, go hh hh0, go hm hm0, Option.bind_some, hv, Option.map_some]

/-! ### memory -/
theorem PX.load {T : TypeId} {a : Operand} {b o : Nat} {r : Row} {v : Value} (ha : kval E.G l a = some (.pointer (some ⟨b, o, none⟩))) (hr : H.row b = some r) (hv : readAt E.P T r.cs o = some v) : PX E l H (.load T a) v H := by
  intro F N hF c yy
  simp only [opA, keepH, opLoad, kval_ok hF ha, Option.bind_some, load_row hr, hv, Option.map_some]
theorem read1 {P : Program} {T : TypeId} {cs : List Value} {o : Nat} (h : isAggT P T = some false) : readAt P T cs o = cs[o]? := by simp only [readAt, h, Option.bind_some, cond_false]
theorem readN {P : Program} {T n : Nat} {cs p : List Value} {o : Nat} (h : isAggT P T = some true) (hn : sizeT P T = some n) (hp : takeN n (cs.drop o) = some p) : readAt P T cs o = some (.agg p.toArray) := by simp only [readAt, h, Option.bind_some, cond_true, hn, hp, Option.map_some]

/-- One row is another. -/
structure Upd (H H1 : AHeap) (b : Nat) (r : Row) : Prop where
  next : H1.next = H.next
  row : ∀ j, H1.row j = if j = b then some r else H.row j
/-- A new row. -/
structure New (H H1 : AHeap) (r : Row) : Prop where
  next : H1.next = H.next + 1
  row : ∀ j, H1.row j = if j = H.next then some r else H.row j
def putL (cs : List Value) (o : Nat) (vs : List Value) : List Value := cs.take o ++ (vs ++ cs.drop (o + vs.length))
theorem writeA_row {b o : Nat} {r : Row} {vs : List Value} (hr : H.row b = some r) (hw : r.rw = true) (hl : o + vs.length ≤ r.cs.length) :
    writeA H b o vs = some (H.set b (.cells r.elem r.whole true (putL r.cs o vs))) := by
  simp only [writeA, hr, Option.bind_some, hw, cond_true, putCells, ble_nat.2 hl, Option.map_some, putL]
theorem Upd.set {b : Nat} {e : TypeId} {w rw : Bool} {cs : List Value} : Upd H (H.set b (.cells e w rw cs)) b ⟨e, w, rw, cs⟩ := ⟨rfl, fun j => by rw [row_set]; rfl⟩
theorem New.new {e : TypeId} {w rw : Bool} {cs : List Value} : New H (H.new (.cells e w rw cs)) ⟨e, w, rw, cs⟩ := ⟨rfl, fun j => by rw [row_new]; rfl⟩
theorem PX.store {T : TypeId} {a v : Operand} {b o n : Nat} {u : Value} {r : Row} {vs : List Value} (ha : kval E.G l a = some (.pointer (some ⟨b, o, none⟩))) (hv : kval E.G l v = some u) (hs : sizeT E.P T = some n) (hg : goodCells u n = some vs)
    (hr : H.row b = some r) (hw : r.rw = true) (hl : o + vs.length ≤ r.cs.length) : ∃ H1, Upd H H1 b ⟨r.elem, r.whole, true, putL r.cs o vs⟩ ∧ PX E l H (.store T a v) undefV H1 := by
  refine ⟨_, Upd.set, ?_⟩
  intro F N hF c yy
  simp only [opA, skipV, opStore, kval_ok hF ha, kval_ok hF hv, Option.bind_some, storeA, vAddr, vPtr, plainAddr, isNone, cond_true, hs, hg, writeA_row hr hw hl, Option.map_some]
theorem PX.alloc {e : TypeId} {z : List Value} (hz : zeroT E.P e = some z) : ∃ H1, New H H1 ⟨e, true, true, z⟩ ∧ PX E l H (.alloc e) (.pointer (some ⟨H.next, 0, none⟩)) H1 := by
  refine ⟨_, New.new, ?_⟩
  intro F N hF c yy
  simp only [opA, opAlloc, hz, Option.map_some, newVarA]
theorem PX.box {e : TypeId} {x : Operand} {v : Value} (hx : kval E.G l x = some v) (hv : (!isTup v && (cellsV v).all oneC) = true) : ∃ H1, New H H1 ⟨e, true, true, cellsV v⟩ ∧ PX E l H (.box e x) (.pointer (some ⟨H.next, 0, none⟩)) H1 := by
  refine ⟨_, New.new, ?_⟩
  intro F N hF c yy
  simp only [opA, kval_ok hF hx, Option.bind_some, boxA, hv, cond_true, newVarA]
theorem PX.makeSlice {t e sz : Nat} {z : List Value} {a b : Operand} {n c : Nat} {k k' : IntKind} (ht : elemT E.P t = some e) (hz : elemZ E.P e = some (sz, z)) (ha : kval E.G l a = some (.int k (n : Nat))) (hb : kval E.G l b = some (.int k' (c : Nat))) (hn : n ≤ c) (hs : smallBytes E.P e = true) (hc : c ≤ 1000000000) :
    ∃ H1, New H H1 ⟨e, true, true, zerosFor z c⟩ ∧ PX E l H (.makeSlice t a b) (.slice (some ⟨H.next, 0, none⟩) n c) H1 := by
  refine ⟨_, New.new, ?_⟩
  intro F N hF cc yy
  simp only [opA, opMakeSlice, kval_ok hF ha, kval_ok hF hb, Option.bind_some, makeSliceA, ht, hz, vNat, vInt, iNat, ble_nat.2 hn, hs, ble_nat.2 hc, Bool.and_true, cond_true, newRowA]
theorem PX.buildSlice {t e sz n : Nat} {z : List Value} {ps : Array (Nat × Operand)} {vs : List (Nat × Value)} {cs : List Value} (ht : elemT E.P t = some e) (hz : elemZ E.P e = some (sz, z)) (hp : kparts E.G l ps.toList = some vs)
    (hn : Nat.ble (n * sz) 10000 = true) (hf : fillA (fun i => some (i * sz, sz)) (zerosFor z n) vs = some cs) :
    ∃ H1, New H H1 ⟨e, true, true, cs⟩ ∧ PX E l H (.buildSlice t n ps) (.slice (some ⟨H.next, 0, none⟩) n n) H1 := by
  refine ⟨_, New.new, ?_⟩
  intro F N hF cc yy
  simp only [opA, opBuildSlice, kparts_ok hF hp, Option.bind_some, buildSliceA, ht, hz, hn, cond_true, hf, Option.map_some, newRowA]
end
theorem veq_int {k : IntKind} {a : Int} : veq 100 (.int k a) (.int k a) = true := by simp [veq, vInt, ikBeq_self]
theorem veq_bool {a : Bool} : veq 100 (.bool a) (.bool a) = true := by simp [veq, vBool]
theorem addrBeq_self (a : Addr) : addrBeq a a = true := by
  obtain ⟨b, o, s⟩ := a
  cases s <;> simp [addrBeq, spotBeq]
theorem veq_sl {a : Option Addr} {n c : Nat} : veq 100 (.slice a n c) (.slice a n c) = true := by cases a <;> simp [veq, vSl, optAddrBeq, addrBeq_self]
theorem veq_ptr {a : Option Addr} : veq 100 (.pointer a) (.pointer a) = true := by cases a <;> simp [veq, vPtr, optAddrBeq, addrBeq_self]
theorem rd_int {k : IntKind} {a : Int} (b : Bool) : (b || veq 100 (.int k a) (.int k a)) = true := by rw [veq_int, Bool.or_true]
theorem past1 {H0 : AHeap} {k : Nat} {Q : AHeap → Prop} (h : Q H0) : ∀ Hp ∈ [H0].take k, Q Hp := by
  intro Hp hp
  have := List.mem_of_mem_take hp
  simp only [List.mem_singleton] at this
  rw [this]; exact h
end Go.Eng

/- Regions whose order is drawn, with known slots. -/
namespace Go.Eng
open Go

def KD (E : Env) (R : DR) (N : Nat) (ord : List Nat) (l : Kn) (H : AHeap) (past : List AHeap) (done : Nat) (hs : List Nat) (Q : Kn → AHeap → Nat → List Nat → Prop) : Prop :=
  ∀ F, Knows F N l → WD E R ord ⟨F, H, past, done, hs⟩ fun s => ∃ l', Knows s.F N l' ∧ Q l' s.H s.done s.hs

section
variable {E : Env} {R : DR} {N : Nat} {ord : List Nat} {l : Kn} {H : AHeap} {past : List AHeap} {done : Nat} {hs : List Nat} {Q : Kn → AHeap → Nat → List Nat → Prop} {i : Nat}
theorem KD.nil (h : Q l H done hs) : KD E R N [] l H past done hs Q := fun _ hF => WD.nil ⟨l, hF, h⟩
theorem sameIn_pv {F : Fr} {n : Nat} {op : Op} {v : Value} (h : ∀ H, evalAt E F n H op = some (v, ⟨n, H.objs⟩)) (hv : veq 100 v v = true) : ∀ ps : List AHeap, sameIn E F n op v ps = true
  | [] => rfl
  | H :: r => by
    simp only [sameIn, h H, hv, Nat.beq_refl, Bool.and_true, Bool.true_and]
    exact sameIn_pv h hv r
/-- A light one that leaves the memory. -/
theorem KD.pv {d : Nat} {op : Op} {ty : TypeId} {ps : String} {af : Array Edge} {g : Option (Nat × Bool)} {v : Value} (done' : Nat) (hp : PV E l op v) (ho : R.ops[i]? = some ⟨some d, op, ty, ps, af, g⟩) (hh : isHeavy ⟨some d, op, ty, ps, af, g⟩ = false)
    (hr : (!isRead ⟨some d, op, ty, ps, af, g⟩ || veq 100 v v) = true) (hk : stepOk R i ⟨some d, op, ty, ps, af, g⟩ done hs = true) (hw : kwant R.ops l ⟨some d, op, ty, ps, af, g⟩ = some true) (hd : Nat.blt d N = true) (hdone : Nat.lor done (2 ^ i) = done')
    (h : KD E R N ord ((d, v) :: l) H past done' hs Q) : KD E R N (i :: ord) l H past done hs Q := by
  intro F hF
  have hev : ∀ H' : AHeap, evalAt E F (R.base + i) H' op = some (v, ⟨R.base + i, H'.objs⟩) := fun H' => hp F N hF noCall noCall _
  refine WD.light ho hh hk (kwant_ok hF hw) (hev H) ?_ ?_
  · simp only [readOk]
    rw [Bool.or_eq_true] at hr ⊢
    rcases hr with hr | hr
    · exact .inl hr
    · refine .inr ?_
      rw [Bool.and_eq_true]
      exact ⟨Nat.beq_refl _, sameIn_pv hev hr _⟩
  · have := h _ (hF.set hd)
    subst hdone
    exact this
/-- A load. -/
theorem KD.load {d : Nat} {T : TypeId} {a : Operand} {ty : TypeId} {ps : String} {af : Array Edge} {g : Option (Nat × Bool)} {v : Value} {b o : Nat} {r : Row} (done' : Nat) (ha : kval E.G l a = some (.pointer (some ⟨b, o, none⟩))) (hr : H.row b = some r) (hv : readAt E.P T r.cs o = some v)
    (hpast : ∀ Hp ∈ past.take (past.length - loOf R.anc R.all i), ∃ r, Hp.row b = some r ∧ readAt E.P T r.cs o = some v) (hvv : veq 100 v v = true)
    (ho : R.ops[i]? = some ⟨some d, .load T a, ty, ps, af, g⟩) (hk : stepOk R i ⟨some d, .load T a, ty, ps, af, g⟩ done hs = true) (hw : kwant R.ops l ⟨some d, .load T a, ty, ps, af, g⟩ = some true) (hd : Nat.blt d N = true) (hdone : Nat.lor done (2 ^ i) = done')
    (h : KD E R N ord ((d, v) :: l) H past done' hs Q) : KD E R N (i :: ord) l H past done hs Q := by
  intro F hF
  have hev : ∀ (H' : AHeap) (r : Row), H'.row b = some r → readAt E.P T r.cs o = some v → evalAt E F (R.base + i) H' (.load T a) = some (v, ⟨R.base + i, H'.objs⟩) := fun H' r hr hv => PX.load (H := ⟨R.base + i, H'.objs⟩) ha (r := r) hr hv F N hF noCall noCall
  refine WD.light ho rfl hk (kwant_ok hF hw) (hev H r hr hv) ?_ ?_
  · simp only [readOk]
    rw [Bool.or_eq_true]
    refine .inr ?_
    rw [Bool.and_eq_true]
    refine ⟨Nat.beq_refl _, ?_⟩
    revert hpast
    generalize past.take (past.length - loOf R.anc R.all i) = pp
    intro hpast
    induction pp with
    | nil => rfl
    | cons Hp rest ih =>
      obtain ⟨r', h1, h2⟩ := hpast Hp (List.mem_cons_self)
      simp only [sameIn, hev Hp r' h1 h2, hvv, Nat.beq_refl, Bool.true_and]
      exact ih fun H' hm => hpast H' (List.mem_cons_of_mem _ hm)
  · have := h _ (hF.set hd)
    subst hdone
    exact this
/-- A light one that makes a new row under its own number. -/
theorem KD.new {d : Nat} {op : Op} {ty : TypeId} {ps : String} {af : Array Edge} {g : Option (Nat × Bool)} {v : Value} {H1 : AHeap} {r : Row} (done' : Nat) (hn : New ⟨R.base + i, H.objs⟩ H1 r) (hp : PX E l ⟨R.base + i, H.objs⟩ op v H1) (ho : R.ops[i]? = some ⟨some d, op, ty, ps, af, g⟩) (hh : isHeavy ⟨some d, op, ty, ps, af, g⟩ = false)
    (hr : isRead ⟨some d, op, ty, ps, af, g⟩ = false) (hk : stepOk R i ⟨some d, op, ty, ps, af, g⟩ done hs = true) (hw : kwant R.ops l ⟨some d, op, ty, ps, af, g⟩ = some true) (hd : Nat.blt d N = true) (hdone : Nat.lor done (2 ^ i) = done')
    (h : ∀ H2, Upd H H2 (R.base + i) r → KD E R N ord ((d, v) :: l) H2 past done' hs Q) : KD E R N (i :: ord) l H past done hs Q := by
  intro F hF
  refine WD.light ho hh hk (kwant_ok hF hw) (p := (v, H1)) (hp F N hF noCall noCall) ?_ ?_
  · simp only [readOk, hr, Bool.not_false, Bool.true_or]
  · have := h ⟨H.next, H1.objs⟩ ⟨rfl, fun j => hn.row j⟩ _ (hF.set hd)
    subst hdone
    exact this
theorem KD.skip {o : Oper} {d : Nat} (done' : Nat) (ho : R.ops[i]? = some o) (hod : o.dst = some d) (hh : isHeavy o = false) (hk : stepOk R i o done hs = true) (hw : kwant R.ops l o = some false) (hd : Nat.blt d N = true) (hdone : Nat.lor done (2 ^ i) = done')
    (h : KD E R N ord ((d, undefV) :: l) H past done' hs Q) : KD E R N (i :: ord) l H past done hs Q := by
  intro F hF
  refine WD.lightSkip ho hh hk (kwant_ok hF hw) ?_
  have := h _ (hF.set hd)
  subst hdone
  rw [hod]
  exact this
theorem KD.skipH {o : Oper} {d : Nat} (done' : Nat) (ho : R.ops[i]? = some o) (hod : o.dst = some d) (hh : isHeavy o = true) (hk : stepOk R i o done hs = true) (hw : kwant R.ops l o = some false) (hd : Nat.blt d N = true) (hdone : Nat.lor done (2 ^ i) = done')
    (h : KD E R N ord ((d, undefV) :: l) H (H :: past) done' hs.tail Q) : KD E R N (i :: ord) l H past done hs Q := by
  intro F hF
  refine WD.heavySkip ho hh hk (kwant_ok hF hw) ?_
  have := h _ (hF.set hd)
  subst hdone
  rw [hod]
  exact this
/-- A heavy one without a call. -/
theorem KD.px {d : Nat} {op : Op} {ty : TypeId} {ps : String} {af : Array Edge} {g : Option (Nat × Bool)} {v : Value} {H1 : AHeap} (done' : Nat) (hp : PX E l H op v H1) (ho : R.ops[i]? = some ⟨some d, op, ty, ps, af, g⟩) (hh : isHeavy ⟨some d, op, ty, ps, af, g⟩ = true)
    (hk : stepOk R i ⟨some d, op, ty, ps, af, g⟩ done hs = true) (hw : kwant R.ops l ⟨some d, op, ty, ps, af, g⟩ = some true) (hd : Nat.blt d N = true) (hdone : Nat.lor done (2 ^ i) = done')
    (h : KD E R N ord ((d, v) :: l) H1 (H1 :: past) done' hs.tail Q) : KD E R N (i :: ord) l H past done hs Q := by
  intro F hF
  refine WD.heavy ho hh hk (kwant_ok hF hw) (WP.of (fun c y => hp F N hF c y) ?_)
  have := h _ (hF.set hd)
  subst hdone
  exact this
theorem KD.pn {op : Op} {ty : TypeId} {ps : String} {af : Array Edge} {g : Option (Nat × Bool)} {v : Value} {H1 : AHeap} (done' : Nat) (hp : PX E l H op v H1) (ho : R.ops[i]? = some ⟨none, op, ty, ps, af, g⟩) (hh : isHeavy ⟨none, op, ty, ps, af, g⟩ = true)
    (hk : stepOk R i ⟨none, op, ty, ps, af, g⟩ done hs = true) (hw : kwant R.ops l ⟨none, op, ty, ps, af, g⟩ = some true) (hdone : Nat.lor done (2 ^ i) = done')
    (h : KD E R N ord l H1 (H1 :: past) done' hs.tail Q) : KD E R N (i :: ord) l H past done hs Q := by
  intro F hF
  refine WD.heavy ho hh hk (kwant_ok hF hw) (WP.of (fun c y => hp F N hF c y) ?_)
  have := h _ hF
  subst hdone
  exact this
theorem KD.call {d : Nat} {f : FuncId} {as : Array Operand} {ts : Array TypeId} {ty : TypeId} {ps : String} {af : Array Edge} {g : Option (Nat × Bool)} {vs : List Value} {Q0 : Value × AHeap → Prop} (done' : Nat)
    (ho : R.ops[i]? = some ⟨some d, .call ⟨.value (.func f), as, ts⟩, ty, ps, af, g⟩) (hx : E.ext f = none) (ha : kvals E.G l as.toList = some vs) (hk : stepOk R i ⟨some d, .call ⟨.value (.func f), as, ts⟩, ty, ps, af, g⟩ done hs = true) (hw : kwant R.ops l ⟨some d, .call ⟨.value (.func f), as, ts⟩, ty, ps, af, g⟩ = some true) (hd : Nat.blt d N = true) (hdone : Nat.lor done (2 ^ i) = done')
    (hf : WF E f vs H Q0) (h : ∀ v H1, Q0 (v, H1) → KD E R N ord ((d, v) :: l) H1 (H1 :: past) done' hs.tail Q) : KD E R N (i :: ord) l H past done hs Q := by
  intro F hF
  refine WD.heavy ho rfl hk (kwant_ok hF hw) (WP.call rfl hx (kvals_ok hF ha) (hf.mono fun r hr => ?_))
  have := h _ _ hr _ (hF.set hd)
  subst hdone
  exact this
theorem KD.callV {d : Nat} {t : Tmp} {f : FuncId} {a b : Array Value} {as : Array Operand} {ts : Array TypeId} {ty : TypeId} {ps : String} {af : Array Edge} {g : Option (Nat × Bool)} {vs : List Value} {Q0 : Value × AHeap → Prop} (done' : Nat)
    (ho : R.ops[i]? = some ⟨some d, .call ⟨.value (.tmp t), as, ts⟩, ty, ps, af, g⟩) (hkv : lk l t = some (.func (.func f) a b)) (hx : E.ext f = none) (ha : kvals E.G l as.toList = some vs) (hk : stepOk R i ⟨some d, .call ⟨.value (.tmp t), as, ts⟩, ty, ps, af, g⟩ done hs = true) (hw : kwant R.ops l ⟨some d, .call ⟨.value (.tmp t), as, ts⟩, ty, ps, af, g⟩ = some true) (hd : Nat.blt d N = true) (hdone : Nat.lor done (2 ^ i) = done')
    (hf : WF E f (a.toList ++ (vs ++ b.toList)) H Q0) (h : ∀ v H1, Q0 (v, H1) → KD E R N ord ((d, v) :: l) H1 (H1 :: past) done' hs.tail Q) : KD E R N (i :: ord) l H past done hs Q := by
  intro F hF
  refine WD.heavy ho rfl hk (kwant_ok hF hw) (WP.callV rfl (hF.2 t _ hkv) hx (kvals_ok hF ha) (hf.mono fun r hr => ?_))
  have := h _ _ hr _ (hF.set hd)
  subst hdone
  exact this
end
/-- A region whose order is drawn. -/
theorem KC.draw {E : Env} {f : FuncId} {N n : Nat} {l : Kn} {H : AHeap} {Q : AExit → Kn → AHeap → Prop} {id : Nat} {ops : Array Oper} {anc hv ord : List Nat}
    (hanc : ancA ops.toList [] = anc) (hhv : heavies ops.toList 0 = hv) (hn : ops.toList.length = n) (hord : canon n anc hv hv 0 = ord)
    (hchk : (edgesOk ops.toList 0 && chainOk anc hv && tmpsOk ops.toList anc ops.toList 0) = true)
    (h : ∀ H0, H0.next = H.next + n → (∀ j, H0.row j = H.row j) → KD E ⟨ops.toList, anc, hv, H.next⟩ N ord l H0 [H0] 0 hv fun l' H' d hs => (Nat.beq d (2 ^ n - 1) && hs.isEmpty) = true ∧ Q .normal l' H') : KC E f N (.region id ops true) l H Q := by
  intro F hF
  subst hanc; subst hhv; subst hn
  refine WC.draw hord hchk ?_
  obtain ⟨k, w⟩ := h ⟨H.next + ops.toList.length, H.objs⟩ rfl (fun _ => rfl) F hF
  exact ⟨k, w.mono fun s hs => by
    obtain ⟨l', a, b, c⟩ := hs
    exact ⟨b, l', rfl, rfl, rfl, a, c⟩⟩
end Go.Eng

/- Lists that grow, and append. -/
namespace Go.Eng
open Go

/-- A list that grew by append alone: its cells and its block. -/
def Lst (H : AHeap) (e sz : Nat) (v : Value) (cs : List Value) (D : List Nat) : Prop :=
  (v = .slice none 0 0 ∧ cs = [] ∧ D = []) ∨ ∃ b n, v = .slice (some ⟨b, 0, some sz⟩) n n ∧ H.row b = some ⟨e, false, true, cs⟩ ∧ cs.length = n * sz ∧ D = [b]
theorem Lst.frame {H H' : AHeap} {e sz : Nat} {v : Value} {cs : List Value} {D : List Nat} (h : Lst H e sz v cs D) (hr : ∀ j ∈ D, H'.row j = H.row j) : Lst H' e sz v cs D := by
  rcases h with h | ⟨b, n, h1, h2, h3, rfl⟩
  · exact .inl h
  · exact .inr ⟨b, n, h1, by rw [hr b (List.mem_cons_self)]; exact h2, h3, rfl⟩
theorem Lst.nil {H : AHeap} {e sz : Nat} : Lst H e sz (.slice none 0 0) [] [] := .inl ⟨rfl, rfl, rfl⟩
theorem Lst.one {H : AHeap} {e sz : Nat} {v : Value} {cs : List Value} {D : List Nat} (h : Lst H e sz v cs D) : goodCells v 1 = some [v] := by
  rcases h with ⟨rfl, -⟩ | ⟨b, n, rfl, -⟩ <;> rfl
theorem Lst.veq {H : AHeap} {e sz : Nat} {v : Value} {cs : List Value} {D : List Nat} (h : Lst H e sz v cs D) : veq 100 v v = true := by
  rcases h with ⟨rfl, -⟩ | ⟨b, n, rfl, -⟩ <;> exact veq_sl
theorem takeN_of {n : Nat} {l p : List Value} (h : l.take n = p) (hl : p.length = n) : takeN n l = some p := by
  simp only [takeN, h, hl, Nat.beq_refl, cond_true]
theorem newElems_of {sz n c b o : Nat} {sp : Option Nat} {H : AHeap} {r : Row} {new : List Value} (hr : H.row b = some r) (ht : (r.cs.drop o).take (n * sz) = new) (hl : new.length = n * sz) (ho : new.all oneC = true) :
    newElems sz (.slice (some ⟨b, o, sp⟩) n c) H = some (n, new) := by
  simp only [newElems, lenV, vSl, Option.bind_some, firstCellsA, firstSl, rowCells]
  cases hb : Nat.beq (n * sz) 0 with
  | true =>
    have h0 := Nat.eq_of_beq_eq_true hb
    have : new = [] := List.length_eq_zero_iff.1 (by rw [hl, h0])
    subst this; rfl
  | false => simp only [cond_false, hr, Option.bind_some, takeN_of ht hl, ho, cond_true]
theorem newElems_one {b c : Nat} {H : AHeap} {r : Row} {v : Value} (hr : H.row b = some r) (hc : r.cs = [v]) (hv : oneC v = true) : newElems 1 (.slice (some ⟨b, 0, none⟩) 1 c) H = some (1, [v]) :=
  newElems_of hr (by rw [hc]; rfl) rfl (by simp [hv])
theorem newElems_nil {sz c : Nat} {H : AHeap} : newElems sz (.slice none 0 c) H = some (0, []) := by
  simp [newElems, lenV, vSl, firstCellsA, firstSl]
section
variable {P : Program} {H : AHeap} {t tx e ex sz : Nat} {z : List Value} {x sv : Value} {cs new : List Value} {D : List Nat} {n : Nat}
theorem app_lst (h : Lst H e sz sv cs D) (ht : elemT P t = some e) (hz : elemZ P e = some (sz, z)) (hsb : smallBytes P e = true) (htx : P.underlying tx = some (.slice ex)) (hx : newElems sz x H = some (n, new)) (hnl : new.length = n * sz) (hcs : cs.all oneC = true)
    (hlim : cs.length + new.length ≤ 1000000000) :
    ∃ v' H1 D', appendA P [t, tx] [sv, x] H = some (v', H1) ∧ Lst H1 e sz v' (cs ++ new) D' ∧ H.next ≤ H1.next ∧ (∀ j, j ∉ D → j < H.next → H1.row j = H.row j) ∧ (∀ j ∈ D', j ∈ D ∨ (H.next ≤ j ∧ j < H1.next)) := by
  have hsz : 0 < sz := by
    simp only [elemZ, Option.bind_eq_some_iff, bif_some, Bool.and_eq_true, blt_nat, Option.some.injEq, Prod.mk.injEq] at hz
    obtain ⟨k, -, zz, -, ⟨h0, -⟩, rfl, -⟩ := hz
    exact h0
  have hq : newCellsA P tx (sz, z) x H = some (n, new) := by
    simp only [newCellsA, htx, Option.bind_some, dInt, dString, dSlice, isNone, Bool.not_false, Bool.false_or, cond_true, hx]
  have start : ∀ s : Sl, sv = .slice s.base s.len s.cap → appendA P [t, tx] [sv, x] H = (bif smallBytes P e && Nat.ble (s.len + n) 1000000000 then (bif Nat.ble (s.len + n) s.cap then appIn H sz s n new else appOut H e sz s n new) else none) := by
    rintro ⟨a, l, c⟩ rfl
    show (bif true then (elemT P t).bind fun e => (vSl _).bind fun s => appendE P e tx s x H else none) = _
    simp only [cond_true, ht, Option.bind_some, vSl, appendE, hz, hq]
  have mul_le : n ≤ n * sz := Nat.le_mul_of_pos_right n hsz
  rcases h with ⟨rfl, rfl, rfl⟩ | ⟨b, m, rfl, hb, hm, rfl⟩
  · rw [start ⟨none, 0, 0⟩ rfl]
    have h1 : n ≤ 1000000000 := by rw [hnl] at hlim; simp only [List.length_nil] at hlim; omega
    simp only [hsb, Nat.zero_add, ble_nat.2 h1, Bool.and_self, cond_true, appIn, appOut]
    by_cases h0 : n = 0
    · subst h0
      have : new = [] := List.length_eq_zero_iff.1 (by rw [hnl]; simp)
      subst this
      refine ⟨_, H, [], rfl, ?_, Nat.le_refl _, fun _ _ _ => rfl, fun j hj => absurd hj (List.not_mem_nil)⟩
      exact .inl ⟨rfl, rfl, rfl⟩
    · have hble : Nat.ble n 0 = false := by
        cases hc : Nat.ble n 0 with
        | false => rfl
        | true => exact absurd (ble_nat.1 hc) (by omega)
      simp only [hble, cond_false]
      refine ⟨_, _, [H.next], rfl, ?_, ?_, ?_, ?_⟩
      · refine .inr ⟨H.next, n, rfl, ?_, hnl, rfl⟩
        rw [row_new, if_pos rfl]; rfl
      · exact Nat.le_succ _
      · intro j _ hj
        rw [row_new, if_neg (by omega)]
      · intro j hj
        simp only [List.mem_singleton] at hj
        subst hj
        exact .inr ⟨Nat.le_refl _, Nat.lt_succ_self _⟩
  · rw [start ⟨some ⟨b, 0, some sz⟩, m, m⟩ rfl]
    have mm : m ≤ m * sz := Nat.le_mul_of_pos_right m hsz
    have h1 : m + n ≤ 1000000000 := by rw [hnl, hm] at hlim; omega
    simp only [hsb, ble_nat.2 h1, Bool.and_self, cond_true, appIn, appOut]
    by_cases h0 : n = 0
    · subst h0
      have : new = [] := List.length_eq_zero_iff.1 (by rw [hnl]; simp)
      subst this
      simp only [Nat.add_zero, ble_nat.2 (Nat.le_refl m), cond_true, Nat.beq_refl]
      exact ⟨_, H, [b], rfl, .inr ⟨b, m, rfl, by rw [List.append_nil]; exact hb, by rw [List.append_nil]; exact hm, rfl⟩, Nat.le_refl _, fun _ _ _ => rfl, fun j hj => .inl hj⟩
    · have hble : Nat.ble (m + n) m = false := by
        cases hc : Nat.ble (m + n) m with
        | false => rfl
        | true => exact absurd (ble_nat.1 hc) (by omega)
      simp only [hble, cond_false, isNone, Bool.false_and, appOld, hb, Option.bind_some, List.drop_zero, takeN_of (l := cs) (n := m * sz) (p := cs) (by rw [← hm, List.take_length]) hm, hcs, cond_true, isNone, spotIs, Nat.beq_refl, Bool.and_self]
      refine ⟨_, _, [H.next], rfl, ?_, ?_, ?_, ?_⟩
      · refine .inr ⟨H.next, m + n, rfl, ?_, by rw [List.length_append, hm, hnl, Nat.add_mul], rfl⟩
        show ((H.drop b).new _).row H.next = _
        have hn : (H.drop b).next = H.next := rfl
        rw [row_new, hn, if_pos rfl]; rfl
      · exact Nat.le_succ _
      · intro j hjb hj
        show ((H.drop b).new _).row j = _
        have hn : (H.drop b).next = H.next := rfl
        rw [row_new, hn, if_neg (by omega), row_drop, if_neg (by simpa using hjb)]
      · intro j hj
        simp only [List.mem_singleton] at hj
        subst hj
        exact .inr ⟨Nat.le_refl _, Nat.lt_succ_self _⟩
/-- Append to a list that grew. -/
theorem PX.append {E : Env} {l : Kn} {a b : Operand} (h : Lst H e sz sv cs D) (ha : kval E.G l a = some sv) (hb : kval E.G l b = some x) (ht : elemT E.P t = some e) (hz : elemZ E.P e = some (sz, z)) (hsb : smallBytes E.P e = true) (htx : E.P.underlying tx = some (.slice ex)) (hx : newElems sz x H = some (n, new)) (hnl : new.length = n * sz) (hcs : cs.all oneC = true)
    (hlim : cs.length + new.length ≤ 1000000000) :
    ∃ v' H1 D', PX E l H (.call ⟨.builtin .append, #[a, b], #[t, tx]⟩) v' H1 ∧ Lst H1 e sz v' (cs ++ new) D' ∧ H.next ≤ H1.next ∧ (∀ j, j ∉ D → j < H.next → H1.row j = H.row j) ∧ (∀ j ∈ D', j ∈ D ∨ (H.next ≤ j ∧ j < H1.next)) := by
  obtain ⟨v', H1, D', h1, h2⟩ := app_lst h ht hz hsb htx hx hnl hcs hlim
  refine ⟨v', H1, D', ?_, h2⟩
  intro F N hF cc yy
  have hx' : avals E.G F [a, b] = some [sv, x] := by simp only [avals, kval_ok hF ha, kval_ok hF hb, Option.bind_some, Option.map_some]
  show callOpA E cc yy F _ H = _
  simp only [callOpA, hx', Option.bind_some, calleeA, builtinA, h1]
end
end Go.Eng

/- What is seen of a datum: shapes, readings, eyes; the contract of a function that sees. -/
namespace Go.Eng
open Go

/-- The shape of a datum. -/
inductive Sh where
  | num (k : IntKind) | bool | str
  | list (sz : Nat) (s : Sh)
  | nil | fld (off : Nat) (s rest : Sh)

/-- The cells that a shape names, counted from its place. -/
def Sh.cells : Sh → List Nat
  | .num _ | .bool | .str | .list _ _ => [0]
  | .nil => []
  | .fld off s r => (s.cells.map (off + ·)) ++ r.cells
def Sh.ok : Sh → Bool
  | .num _ | .bool | .str | .nil => true
  | .list sz s => s.ok && s.cells.all fun i => Nat.blt i sz
  | .fld off s r => s.ok && r.ok && s.cells.all fun i => !(r.cells.contains (off + i))

/-- Is there a truth value in it? -/
def Sh.bools : Sh → Bool
  | .bool => true
  | .num _ | .str | .nil => false
  | .list _ s => s.bools
  | .fld _ s r => s.bools || r.bools

abbrev Rdr := List Value → Nat → List Int → List ByteArray → List Nat → Prop
def RdN (R : Rdr) (cs : List Value) (sz : Nat) : Nat → Nat → List Int → List ByteArray → List Nat → Prop
  | 0, _, ns, ss, D => ns = [] ∧ ss = [] ∧ D = []
  | n + 1, o, ns, ss, D => ∃ n1 s1 D1 n2 s2 D2, R cs o n1 s1 D1 ∧ RdN R cs sz n (o + sz) n2 s2 D2 ∧ ns = n1 ++ n2 ∧ ss = s1 ++ s2 ∧ D = D1 ++ D2
/-- How it is read: with the room behind the lists; whether the rows may be written. -/
structure Md where
  r : Bool
  w : Bool
  k : Bool
/-- Its cells may be written; with k: where the same truth value is written again. -/
def Wm (md : Md) (r : Row) : Prop := r.rw = true ∨ (md.k = true ∧ r.whole = true)
theorem Wm.rw {md : Md} {r : Row} (h : Wm md r) (hk : md.k = false) : r.rw = true := by
  rcases h with h | ⟨h, -⟩
  · exact h
  · rw [hk] at h; cases h
def cnt (room : Bool) (len cap : Nat) : Nat := if room then cap else len
/-- A datum lies in cells from a place on: what is seen of it, and the blocks below it. -/
def Rd (H : AHeap) (room : Md) : Sh → Rdr
  | .num k, cs, o, ns, ss, D => ∃ v, cs[o]? = some (.int k v) ∧ k.wrap v = v ∧ ns = [IntKind.i64.wrap v] ∧ ss = [] ∧ D = []
  | .bool, cs, o, ns, ss, D => ∃ b : Bool, cs[o]? = some (.bool b) ∧ ns = [if b then 1 else 0] ∧ ss = [] ∧ D = []
  | .str, cs, o, ns, ss, D => ∃ s, cs[o]? = some (.string s) ∧ ns = [] ∧ ss = [s] ∧ D = []
  | .list sz s, cs, o, ns, ss, D => ∃ a len cap, cs[o]? = some (.slice a len cap) ∧ (len ≤ cap ∧ cnt room.r len cap ≤ 1000000000) ∧ (room.r = true → exactBase a = true) ∧ ∃ ns', ns = (len : Int) :: ns' ∧
      ((cnt room.r len cap = 0 ∧ ns' = [] ∧ ss = [] ∧ D = []) ∨ ∃ b off sp r D', a = some ⟨b, off, sp⟩ ∧ H.row b = some r ∧ (room.w = true → Wm room r) ∧ D = b :: D' ∧ RdN (Rd H room s) r.cs sz (cnt room.r len cap) off ns' ss D')
  | .nil, _, _, ns, ss, D => ns = [] ∧ ss = [] ∧ D = []
  | .fld off s r, cs, o, ns, ss, D => ∃ n1 s1 D1 n2 s2 D2, Rd H room s cs (o + off) n1 s1 D1 ∧ Rd H room r cs o n2 s2 D2 ∧ ns = n1 ++ n2 ∧ ss = s1 ++ s2 ∧ D = D1 ++ D2

theorem RdN.imp {R R' : Rdr} {cs cs' : List Value} {sz : Nat} : ∀ {n o : Nat} {ns : List Int} {ss : List ByteArray} {D : List Nat},
    (∀ i < n, ∀ ns ss D', (∀ j ∈ D', j ∈ D) → R cs (o + i * sz) ns ss D' → R' cs' (o + i * sz) ns ss D') → RdN R cs sz n o ns ss D → RdN R' cs' sz n o ns ss D
  | 0, _, _, _, _, _, h => h
  | n + 1, o, ns, ss, D, hi, h => by
    obtain ⟨n1, s1, D1, n2, s2, D2, h1, h2, rfl, rfl, rfl⟩ := h
    refine ⟨n1, s1, D1, n2, s2, D2, ?_, ?_, rfl, rfl, rfl⟩
    · have := hi 0 (Nat.succ_pos n) n1 s1 D1 (fun j hj => List.mem_append_left _ hj)
      simp only [Nat.zero_mul, Nat.add_zero] at this
      exact this h1
    · refine RdN.imp (fun i hin ns ss D' hD hr => ?_) h2
      have := hi (i + 1) (Nat.succ_lt_succ hin) ns ss D' (fun j hj => List.mem_append_right _ (hD j hj))
      have e : o + sz + i * sz = o + (i + 1) * sz := by rw [Nat.add_mul]; omega
      rw [e] at hr ⊢
      exact this hr
/-- A reading stays when the rows below and the cells named stay. -/
theorem Rd.congr {H H' : AHeap} {room : Md} : ∀ {s : Sh} {cs cs' : List Value} {o : Nat} {ns : List Int} {ss : List ByteArray} {D : List Nat},
    (∀ j ∈ D, H'.row j = H.row j) → (∀ i ∈ s.cells, cs'[o + i]? = cs[o + i]?) → Rd H room s cs o ns ss D → Rd H' room s cs' o ns ss D
  | .num k, cs, cs', o, ns, ss, D, _, hc, h => by
    obtain ⟨v, h1, h2⟩ := h
    exact ⟨v, by have := hc 0 (by simp [Sh.cells]); rw [Nat.add_zero] at this; rw [this]; exact h1, h2⟩
  | .bool, cs, cs', o, ns, ss, D, _, hc, h => by
    obtain ⟨v, h1, h2⟩ := h
    exact ⟨v, by have := hc 0 (by simp [Sh.cells]); rw [Nat.add_zero] at this; rw [this]; exact h1, h2⟩
  | .str, cs, cs', o, ns, ss, D, _, hc, h => by
    obtain ⟨v, h1, h2⟩ := h
    exact ⟨v, by have := hc 0 (by simp [Sh.cells]); rw [Nat.add_zero] at this; rw [this]; exact h1, h2⟩
  | .list sz s, cs, cs', o, ns, ss, D, hr, hc, h => by
    obtain ⟨a, len, cap, h1, h2, h3, ns', h4, h5⟩ := h
    refine ⟨a, len, cap, by have := hc 0 (by simp [Sh.cells]); rw [Nat.add_zero] at this; rw [this]; exact h1, h2, h3, ns', h4, ?_⟩
    rcases h5 with h5 | ⟨b, off, sp, r, D', k1, k2, k3, rfl, k5⟩
    · exact .inl h5
    · exact .inr ⟨b, off, sp, r, D', k1, by rw [hr b List.mem_cons_self]; exact k2, k3, rfl, RdN.imp (fun i _ ns ss D'' hD hh => Rd.congr (fun j hj => hr j (List.mem_cons_of_mem _ (hD j hj))) (fun _ _ => rfl) hh) k5⟩
  | .nil, _, _, _, _, _, _, _, _, h => h
  | .fld off s r, cs, cs', o, ns, ss, D, hr, hc, h => by
    obtain ⟨n1, s1, D1, n2, s2, D2, h1, h2, rfl, rfl, rfl⟩ := h
    refine ⟨n1, s1, D1, n2, s2, D2, Rd.congr (fun j hj => hr j (List.mem_append_left _ hj)) (fun i hi => ?_) h1, Rd.congr (fun j hj => hr j (List.mem_append_right _ hj)) (fun i hi => ?_) h2, rfl, rfl, rfl⟩
    · have := hc (off + i) (by simp only [Sh.cells, List.mem_append, List.mem_map]; exact .inl ⟨i, hi, rfl⟩)
      rw [Nat.add_assoc]; exact this
    · exact hc i (by simp only [Sh.cells, List.mem_append]; exact .inr hi)
theorem Rd.frame {H H' : AHeap} {room : Md} {s : Sh} {cs : List Value} {o : Nat} {ns : List Int} {ss : List ByteArray} {D : List Nat} (hr : ∀ j ∈ D, H'.row j = H.row j) (h : Rd H room s cs o ns ss D) : Rd H' room s cs o ns ss D :=
  Rd.congr hr (fun _ _ => rfl) h
theorem RdN.frame {H H' : AHeap} {room : Md} {s : Sh} {cs : List Value} {sz n o : Nat} {ns : List Int} {ss : List ByteArray} {D : List Nat} (hr : ∀ j ∈ D, H'.row j = H.row j) (h : RdN (Rd H room s) cs sz n o ns ss D) : RdN (Rd H' room s) cs sz n o ns ss D :=
  RdN.imp (fun _ _ _ _ _ hD hh => Rd.frame (fun j hj => hr j (hD j hj)) hh) h
theorem Rd.mem {H : AHeap} {room : Md} : ∀ {s : Sh} {cs : List Value} {o : Nat} {ns : List Int} {ss : List ByteArray} {D : List Nat}, Rd H room s cs o ns ss D → ∀ j ∈ D, ∃ r, H.row j = some r
  | .num k, _, _, _, _, _, h, j, hj => by obtain ⟨_, _, _, _, _, rfl⟩ := h; cases hj
  | .bool, _, _, _, _, _, h, j, hj => by obtain ⟨_, _, _, _, rfl⟩ := h; cases hj
  | .str, _, _, _, _, _, h, j, hj => by obtain ⟨_, _, _, _, rfl⟩ := h; cases hj
  | .nil, _, _, _, _, _, h, j, hj => by obtain ⟨_, _, rfl⟩ := h; cases hj
  | .fld off s r, _, _, _, _, _, h, j, hj => by
    obtain ⟨n1, s1, D1, n2, s2, D2, h1, h2, rfl, rfl, rfl⟩ := h
    rcases List.mem_append.1 hj with hj | hj
    · exact Rd.mem h1 j hj
    · exact Rd.mem h2 j hj
  | .list sz s, _, _, _, _, _, h, j, hj => by
    obtain ⟨a, len, cap, h1, h2, h3, ns', h4, h5⟩ := h
    rcases h5 with ⟨_, _, _, rfl⟩ | ⟨b, off, sp, r, D', k1, k2, k3, rfl, k5⟩
    · cases hj
    · rcases List.mem_cons.1 hj with rfl | hj
      · exact ⟨r, k2⟩
      · have go : ∀ (n o : Nat) (ns : List Int) (ss : List ByteArray) (D : List Nat), RdN (Rd H room s) r.cs sz n o ns ss D → ∀ j ∈ D, ∃ r, H.row j = some r := by
          intro n
          induction n with
          | zero => intro o ns ss D h j hj; obtain ⟨_, _, rfl⟩ := h; cases hj
          | succ n ih =>
            intro o ns ss D h j hj
            obtain ⟨n1, s1, D1, n2, s2, D2, h1, h2, rfl, rfl, rfl⟩ := h
            rcases List.mem_append.1 hj with hj | hj
            · exact Rd.mem h1 j hj
            · exact ih _ _ _ _ h2 j hj
        exact go _ _ _ _ _ k5 j hj

/-- An eye lies in a row. tI, tS: the types of what it lists. -/
structure Eye (tI tS : TypeId) (H : AHeap) (be oe : Nat) (ns : List Int) (ss : List ByteArray) (mark room : Bool) (at_ : Int) (r : Row) (Fn Fs : List Nat) : Prop where
  row : H.row be = some r
  rw : r.rw = true
  n : ∃ v, r.cs[oe]? = some v ∧ Lst H tI 1 v (ns.map (Value.int .i64)) Fn
  s : ∃ v, r.cs[oe + 1]? = some v ∧ Lst H tS 1 v (ss.map Value.string) Fs
  mark : r.cs[oe + 2]? = some (.bool mark)
  at_ : r.cs[oe + 3]? = some (.int .i64 at_)
  room : r.cs[oe + 4]? = some (.bool room)
  bn : be ∉ Fn
  bs : be ∉ Fs
  dis : ∀ j ∈ Fn, j ∉ Fs
  ltb : be < H.next
  ltn : ∀ j ∈ Fn, j < H.next
  lts : ∀ j ∈ Fs, j < H.next

theorem ints_one (ns : List Int) : (ns.map (Value.int .i64)).all oneC = true := by
  induction ns with
  | nil => rfl
  | cons a l ih => simp only [List.map_cons, List.all_cons, ih, oneC, Bool.and_self]
theorem strs_one (ns : List ByteArray) : (ns.map Value.string).all oneC = true := by
  induction ns with
  | nil => rfl
  | cons a l ih => simp only [List.map_cons, List.all_cons, ih, oneC, Bool.and_self]

/-- What a function that sees leaves behind. -/
structure Seen (tI tS : TypeId) (s : Sh) (H : AHeap) (be oe : Nat) (n0 : List Int) (s0 : List ByteArray) (mark : Bool) (room : Md) (re : Row) (Fn Fs : List Nat) (bx o : Nat) (rx : Row) (ns : List Int) (ss : List ByteArray) (D : List Nat) (H' : AHeap) : Prop where
  ex : ∃ ns' ss' at' re' Fn' Fs' cs', Eye tI tS H' be oe (n0 ++ ns') (s0 ++ ss') mark room.r at' re' Fn' Fs' ∧ H'.row bx = some ⟨rx.elem, rx.whole, rx.rw, cs'⟩ ∧ Rd H' room s cs' o ns' ss' D ∧ cs'.length = rx.cs.length ∧
    (∀ i, (∀ k ∈ s.cells, i ≠ o + k) → cs'[i]? = rx.cs[i]?) ∧ ns'.length = ns.length ∧ ss'.length = ss.length ∧
    (mark = false → ns' = ns ∧ ss' = ss ∧ cs' = rx.cs ∧ ∀ j ∈ D, H'.row j = H.row j) ∧
    re'.elem = re.elem ∧ re'.whole = re.whole ∧ re'.cs.length = re.cs.length ∧ (∀ i, i ≠ oe → i ≠ oe + 1 → i ≠ oe + 3 → re'.cs[i]? = re.cs[i]?) ∧
    (∀ j ∈ Fn', j ∈ Fn ∨ H.next ≤ j) ∧ (∀ j ∈ Fs', j ∈ Fs ∨ H.next ≤ j)
  next : H.next ≤ H'.next
  keep : ∀ j, j < H.next → j ≠ be → j ∉ Fn → j ∉ Fs → j ≠ bx → j ∉ D → H'.row j = H.row j

/-- The contract of a function that sees data of a shape. -/
def SeeOK (E : Env) (tI tS : TypeId) (f : FuncId) (s : Sh) : Prop :=
  ∀ H be oe n0 s0 mark room at_ re Fn Fs bx o rx ns ss D, Eye tI tS H be oe n0 s0 mark room.r at_ re Fn Fs → H.row bx = some rx → (room.w = true → Wm room rx) → (mark = true ∨ s.bools = true → room.w = true) → (mark = true → room.k = false) → Rd H room s rx.cs o ns ss D →
    bx < H.next → (∀ j ∈ D, j < H.next) → bx ≠ be → bx ∉ Fn → bx ∉ Fs → be ∉ D → (∀ j ∈ D, j ∉ Fn) → (∀ j ∈ D, j ∉ Fs) → (mark = true → D.Nodup ∧ bx ∉ D) →
    n0.length + ns.length ≤ 1000000000 → s0.length + ss.length ≤ 1000000000 →
    WF E f [.pointer (some ⟨be, oe, none⟩), .pointer (some ⟨bx, o, none⟩)] H fun r => Seen tI tS s H be oe n0 s0 mark room re Fn Fs bx o rx ns ss D r.2
end Go.Eng

/- Eyes behind writes. -/
namespace Go.Eng
open Go

theorem putL_length {cs vs : List Value} {o : Nat} (h : o + vs.length ≤ cs.length) : (putL cs o vs).length = cs.length := by
  simp only [putL, List.length_append, List.length_take, List.length_drop]; omega
theorem putL_get {cs vs : List Value} {o : Nat} (h : o + vs.length ≤ cs.length) (i : Nat) : (putL cs o vs)[i]? = if o ≤ i ∧ i < o + vs.length then vs[i - o]? else cs[i]? := by
  have ht : (cs.take o).length = o := by rw [List.length_take]; omega
  simp only [putL]
  by_cases h1 : i < o
  · rw [if_neg (by omega), List.getElem?_append_left (by omega), List.getElem?_take_of_lt h1]
  · rw [List.getElem?_append_right (by omega), ht]
    by_cases h2 : i < o + vs.length
    · rw [if_pos ⟨by omega, h2⟩, List.getElem?_append_left (by omega)]
    · rw [if_neg (by omega), List.getElem?_append_right (by omega), List.getElem?_drop]
      congr 1
      omega
theorem putL1 {cs : List Value} {o : Nat} {v : Value} (h : o < cs.length) (i : Nat) : (putL cs o [v])[i]? = if i = o then some v else cs[i]? := by
  have h' : o + [v].length ≤ cs.length := h
  rw [putL_get h']
  by_cases h1 : i = o
  · subst h1; rw [if_pos ⟨Nat.le_refl _, by simp⟩, if_pos rfl]; simp
  · rw [if_neg (by simp only [List.length_cons, List.length_nil]; omega), if_neg h1]
theorem lt_of_get {cs : List Value} {o : Nat} {v : Value} (h : cs[o]? = some v) : o < cs.length := (List.getElem?_eq_some_iff.1 h).1
theorem putL_same {cs : List Value} {o : Nat} {v : Value} (h : cs[o]? = some v) : putL cs o [v] = cs := by
  apply List.ext_getElem?
  intro i
  rw [putL1 (lt_of_get h)]
  split
  · rename_i h1; rw [h1, h]
  · rfl

section
variable {tI tS : TypeId} {H H1 : AHeap} {be oe : Nat} {ns : List Int} {ss : List ByteArray} {mark room : Bool} {at_ : Int} {re : Row} {Fn Fs : List Nat}
theorem Eye.frame (h : Eye tI tS H be oe ns ss mark room at_ re Fn Fs) (hn : H.next ≤ H1.next) (hr : ∀ j, j = be ∨ j ∈ Fn ∨ j ∈ Fs → H1.row j = H.row j) : Eye tI tS H1 be oe ns ss mark room at_ re Fn Fs := by
  obtain ⟨v, hv, hl⟩ := h.n
  obtain ⟨u, hu, hm⟩ := h.s
  exact ⟨by rw [hr be (.inl rfl)]; exact h.row, h.rw, ⟨v, hv, hl.frame fun j hj => hr j (.inr (.inl hj))⟩, ⟨u, hu, hm.frame fun j hj => hr j (.inr (.inr hj))⟩, h.mark, h.at_, h.room, h.bn, h.bs, h.dis,
    Nat.lt_of_lt_of_le h.ltb hn, fun j hj => Nat.lt_of_lt_of_le (h.ltn j hj) hn, fun j hj => Nat.lt_of_lt_of_le (h.lts j hj) hn⟩
/-- A new list of numbers is put in. -/
theorem Eye.push {H2 : AHeap} {v' : Value} {x : Int} {D' : List Nat} (h : Eye tI tS H be oe ns ss mark room at_ re Fn Fs) (hl : Lst H1 tI 1 v' ((ns ++ [x]).map (Value.int .i64)) D') (hn : H.next ≤ H1.next) (hr : ∀ j, j ∉ Fn → j < H.next → H1.row j = H.row j)
    (hD : ∀ j ∈ D', j ∈ Fn ∨ (H.next ≤ j ∧ j < H1.next)) (hu : Upd H1 H2 be ⟨re.elem, re.whole, true, putL re.cs oe [v']⟩) :
    Eye tI tS H2 be oe (ns ++ [x]) ss mark room at_ ⟨re.elem, re.whole, true, putL re.cs oe [v']⟩ D' Fs ∧ H.next ≤ H2.next ∧ ∀ j, j < H.next → j ≠ be → j ∉ Fn → H2.row j = H.row j := by
  obtain ⟨v, hv, hl0⟩ := h.n
  obtain ⟨u, hus, hm⟩ := h.s
  have hlt := lt_of_get hv
  have hb : be ∉ D' := fun hx => by
    rcases hD be hx with h1 | ⟨h1, -⟩
    · exact h.bn h1
    · exact absurd h.ltb (by omega)
  have hne : ∀ j ∈ D', j ≠ be := fun j hj e => hb (e ▸ hj)
  refine ⟨⟨by rw [hu.row, if_pos rfl], rfl, ⟨v', by rw [putL1 hlt, if_pos rfl], hl.frame fun j hj => by rw [hu.row, if_neg (hne j hj)]⟩, ⟨u, by rw [putL1 hlt, if_neg (by omega)]; exact hus, hm.frame fun j hj => ?_⟩, by rw [putL1 hlt, if_neg (by omega)]; exact h.mark, by rw [putL1 hlt, if_neg (by omega)]; exact h.at_, by rw [putL1 hlt, if_neg (by omega)]; exact h.room, hb, h.bs, ?_, ?_, ?_, ?_⟩, ?_, ?_⟩
  · rw [hu.row, if_neg (show j ≠ be from fun e => h.bs (e ▸ hj)), hr j (fun hf => h.dis j hf hj) (h.lts j hj)]
  · intro j hj hs
    rcases hD j hj with h1 | ⟨h1, -⟩
    · exact h.dis j h1 hs
    · exact absurd (h.lts j hs) (by omega)
  · rw [hu.next]; exact Nat.lt_of_lt_of_le h.ltb hn
  · intro j hj
    rw [hu.next]
    rcases hD j hj with h1 | ⟨-, h1⟩
    · exact Nat.lt_of_lt_of_le (h.ltn j h1) hn
    · exact h1
  · intro j hj; rw [hu.next]; exact Nat.lt_of_lt_of_le (h.lts j hj) hn
  · rw [hu.next]; exact hn
  · intro j hj hjb hjf
    rw [hu.row, if_neg hjb, hr j hjf hj]
/-- Another count. -/
theorem Eye.setAt {a : Int} (h : Eye tI tS H be oe ns ss mark room at_ re Fn Fs) (hu : Upd H H1 be ⟨re.elem, re.whole, true, putL re.cs (oe + 3) [.int .i64 a]⟩) :
    Eye tI tS H1 be oe ns ss mark room a ⟨re.elem, re.whole, true, putL re.cs (oe + 3) [.int .i64 a]⟩ Fn Fs := by
  obtain ⟨v, hv, hl0⟩ := h.n
  obtain ⟨u, hus, hm⟩ := h.s
  have hlt := lt_of_get h.at_
  refine ⟨by rw [hu.row, if_pos rfl], rfl, ⟨v, by rw [putL1 hlt, if_neg (by omega)]; exact hv, hl0.frame fun j hj => by rw [hu.row, if_neg (show j ≠ be from fun e => h.bn (e ▸ hj))]⟩, ⟨u, by rw [putL1 hlt, if_neg (by omega)]; exact hus, hm.frame fun j hj => by rw [hu.row, if_neg (show j ≠ be from fun e => h.bs (e ▸ hj))]⟩, by rw [putL1 hlt, if_neg (by omega)]; exact h.mark, by rw [putL1 hlt, if_pos rfl], by rw [putL1 hlt, if_neg (by omega)]; exact h.room, h.bn, h.bs, h.dis, ?_, ?_, ?_⟩
  · rw [hu.next]; exact h.ltb
  · intro j hj; rw [hu.next]; exact h.ltn j hj
  · intro j hj; rw [hu.next]; exact h.lts j hj
end

section
variable {E : Env} {f : FuncId} {N : Nat} {l : Kn} {H : AHeap} {Q : AExit → Kn → AHeap → Prop}
/-- Branches come together. -/
theorem KC.join {a b : Code} (l1 : Kn) (P : AHeap → Prop) (h : KC E f N a l H (aft (fun l' H' => Sub l1 l' ∧ P H') Q)) (h2 : ∀ H', P H' → KC E f N b l1 H' Q) : KC E f N (.seq a b) l H Q := by
  refine KC.seq (h.mono fun e l' H' he => ?_)
  cases e with
  | normal => exact KC.sub he.1 (h2 _ he.2)
  | exit id => exact he
  | ret => exact he
end
end Go.Eng

/- Rules that go on: stores, new rows, append. -/
namespace Go.Eng
open Go

section
variable {E : Env} {N : Nat} {ops rest : List Oper} {l : Kn} {H : AHeap} {Q : Kn → AHeap → Prop} {ty : TypeId} {ps : String} {af : Array Edge} {g : Option (Nat × Bool)} {d : Nat}
theorem KO.load {T : TypeId} {a : Operand} {b o : Nat} {r : Row} {v : Value} (ha : kval E.G l a = some (.pointer (some ⟨b, o, none⟩))) (hr : H.row b = some r) (hv : readAt E.P T r.cs o = some v)
    (hw : kwant ops l ⟨some d, .load T a, ty, ps, af, g⟩ = some true) (hd : Nat.blt d N = true) (h : KO E N ops rest ((d, v) :: l) H Q) : KO E N ops (⟨some d, .load T a, ty, ps, af, g⟩ :: rest) l H Q :=
  KO.px (PX.load ha hr hv) hw hd h
theorem KO.load1 {T : TypeId} {a : Operand} {b o : Nat} {r : Row} {v : Value} (ht : isAggT E.P T = some false) (ha : kval E.G l a = some (.pointer (some ⟨b, o, none⟩))) (hr : H.row b = some r) (hv : r.cs[o]? = some v)
    (hw : kwant ops l ⟨some d, .load T a, ty, ps, af, g⟩ = some true) (hd : Nat.blt d N = true) (h : KO E N ops rest ((d, v) :: l) H Q) : KO E N ops (⟨some d, .load T a, ty, ps, af, g⟩ :: rest) l H Q :=
  KO.px (PX.load ha hr (by rw [read1 ht]; exact hv)) hw hd h
theorem KO.loadN {T n : Nat} {a : Operand} {b o : Nat} {r : Row} {p : List Value} (ht : isAggT E.P T = some true) (hs : sizeT E.P T = some n) (ha : kval E.G l a = some (.pointer (some ⟨b, o, none⟩))) (hr : H.row b = some r) (hv : takeN n (r.cs.drop o) = some p)
    (hw : kwant ops l ⟨some d, .load T a, ty, ps, af, g⟩ = some true) (hd : Nat.blt d N = true) (h : KO E N ops rest ((d, .agg p.toArray) :: l) H Q) : KO E N ops (⟨some d, .load T a, ty, ps, af, g⟩ :: rest) l H Q :=
  KO.px (PX.load ha hr (readN ht hs hv)) hw hd h
theorem KO.store {T : TypeId} {a v : Operand} {b o n : Nat} {u : Value} {r : Row} {vs : List Value} (ha : kval E.G l a = some (.pointer (some ⟨b, o, none⟩))) (hv : kval E.G l v = some u) (hs : sizeT E.P T = some n) (hg : goodCells u n = some vs)
    (hr : H.row b = some r) (hw : r.rw = true) (hl : o + vs.length ≤ r.cs.length) (hk : kwant ops l ⟨none, .store T a v, ty, ps, af, g⟩ = some true)
    (h : ∀ H1, Upd H H1 b ⟨r.elem, r.whole, true, putL r.cs o vs⟩ → KO E N ops rest l H1 Q) : KO E N ops (⟨none, .store T a v, ty, ps, af, g⟩ :: rest) l H Q := by
  obtain ⟨H1, u1, p1⟩ := PX.store (l := l) ha hv hs hg hr hw hl
  exact KO.pn p1 hk (h H1 u1)
theorem KO.store1 {T : TypeId} {a v : Operand} {b o : Nat} {u : Value} {r : Row} (hs : sizeT E.P T = some 1) (ha : kval E.G l a = some (.pointer (some ⟨b, o, none⟩))) (hv : kval E.G l v = some u) (hg : goodCells u 1 = some [u])
    (hr : H.row b = some r) (hw : r.rw = true) (hl : o < r.cs.length) (hk : kwant ops l ⟨none, .store T a v, ty, ps, af, g⟩ = some true)
    (h : ∀ H1, Upd H H1 b ⟨r.elem, r.whole, true, putL r.cs o [u]⟩ → KO E N ops rest l H1 Q) : KO E N ops (⟨none, .store T a v, ty, ps, af, g⟩ :: rest) l H Q :=
  KO.store ha hv hs hg hr hw hl hk h
theorem KO.alloc {e : TypeId} {z : List Value} (hz : zeroT E.P e = some z) (hw : kwant ops l ⟨some d, .alloc e, ty, ps, af, g⟩ = some true) (hd : Nat.blt d N = true)
    (h : ∀ H1, New H H1 ⟨e, true, true, z⟩ → KO E N ops rest ((d, .pointer (some ⟨H.next, 0, none⟩)) :: l) H1 Q) : KO E N ops (⟨some d, .alloc e, ty, ps, af, g⟩ :: rest) l H Q := by
  obtain ⟨H1, u1, p1⟩ := PX.alloc (l := l) (H := H) hz
  exact KO.px p1 hw hd (h H1 u1)
theorem KO.box {e : TypeId} {x : Operand} {v : Value} (hx : kval E.G l x = some v) (hv : (!isTup v && (cellsV v).all oneC) = true) (hw : kwant ops l ⟨some d, .box e x, ty, ps, af, g⟩ = some true) (hd : Nat.blt d N = true)
    (h : ∀ H1, New H H1 ⟨e, true, true, cellsV v⟩ → KO E N ops rest ((d, .pointer (some ⟨H.next, 0, none⟩)) :: l) H1 Q) : KO E N ops (⟨some d, .box e x, ty, ps, af, g⟩ :: rest) l H Q := by
  obtain ⟨H1, u1, p1⟩ := PX.box (H := H) hx hv
  exact KO.px p1 hw hd (h H1 u1)
theorem KO.makeSlice {t e sz : Nat} {z : List Value} {a b : Operand} {n c : Nat} {k k' : IntKind} (ht : elemT E.P t = some e) (hz : elemZ E.P e = some (sz, z)) (hs : smallBytes E.P e = true) (ha : kval E.G l a = some (.int k (n : Nat))) (hb : kval E.G l b = some (.int k' (c : Nat))) (hn : n ≤ c) (hc : c ≤ 1000000000)
    (hw : kwant ops l ⟨some d, .makeSlice t a b, ty, ps, af, g⟩ = some true) (hd : Nat.blt d N = true)
    (h : ∀ H1, New H H1 ⟨e, true, true, zerosFor z c⟩ → KO E N ops rest ((d, .slice (some ⟨H.next, 0, none⟩) n c) :: l) H1 Q) : KO E N ops (⟨some d, .makeSlice t a b, ty, ps, af, g⟩ :: rest) l H Q := by
  obtain ⟨H1, u1, p1⟩ := PX.makeSlice (H := H) ht hz ha hb hn hs hc
  exact KO.px p1 hw hd (h H1 u1)
theorem KO.buildSlice {t e sz n : Nat} {z : List Value} {pa : Array (Nat × Operand)} {vs : List (Nat × Value)} {cs : List Value} (ht : elemT E.P t = some e) (hz : elemZ E.P e = some (sz, z)) (hp : kparts E.G l pa.toList = some vs)
    (hn : Nat.ble (n * sz) 10000 = true) (hf : fillA (fun i => some (i * sz, sz)) (zerosFor z n) vs = some cs) (hw : kwant ops l ⟨some d, .buildSlice t n pa, ty, ps, af, g⟩ = some true) (hd : Nat.blt d N = true)
    (h : ∀ H1, New H H1 ⟨e, true, true, cs⟩ → KO E N ops rest ((d, .slice (some ⟨H.next, 0, none⟩) n n) :: l) H1 Q) : KO E N ops (⟨some d, .buildSlice t n pa, ty, ps, af, g⟩ :: rest) l H Q := by
  obtain ⟨H1, u1, p1⟩ := PX.buildSlice (H := H) ht hz hp hn hf
  exact KO.px p1 hw hd (h H1 u1)
/-- Append a list to a list that grew. -/
theorem KO.append {t tx e ex sz : Nat} {z : List Value} {a b : Operand} {x sv : Value} {cs new : List Value} {D : List Nat} {n : Nat} (ht : elemT E.P t = some e) (hz : elemZ E.P e = some (sz, z)) (hsb : smallBytes E.P e = true) (htx : E.P.underlying tx = some (.slice ex))
    (ha : kval E.G l a = some sv) (hb : kval E.G l b = some x) (hL : Lst H e sz sv cs D) (hx : newElems sz x H = some (n, new)) (hnl : new.length = n * sz) (hcs : cs.all oneC = true) (hlim : cs.length + new.length ≤ 1000000000)
    (hw : kwant ops l ⟨some d, .call ⟨.builtin .append, #[a, b], #[t, tx]⟩, ty, ps, af, g⟩ = some true) (hd : Nat.blt d N = true)
    (h : ∀ v' H1 D', Lst H1 e sz v' (cs ++ new) D' → H.next ≤ H1.next → (∀ j, j ∉ D → j < H.next → H1.row j = H.row j) → (∀ j ∈ D', j ∈ D ∨ (H.next ≤ j ∧ j < H1.next)) → KO E N ops rest ((d, v') :: l) H1 Q) :
    KO E N ops (⟨some d, .call ⟨.builtin .append, #[a, b], #[t, tx]⟩, ty, ps, af, g⟩ :: rest) l H Q := by
  obtain ⟨v', H1, D', p1, k1, k2, k3, k4⟩ := PX.append hL ha hb ht hz hsb htx hx hnl hcs hlim
  exact KO.px p1 hw hd (h v' H1 D' k1 k2 k3 k4)
end

section
variable {E : Env} {R : DR} {N : Nat} {ord : List Nat} {l : Kn} {H : AHeap} {past : List AHeap} {done : Nat} {hs : List Nat} {Q : Kn → AHeap → Nat → List Nat → Prop} {i : Nat} {ty : TypeId} {ps : String} {af : Array Edge} {g : Option (Nat × Bool)} {d : Nat}
theorem KD.store1 {T : TypeId} {a v : Operand} {b o : Nat} {u : Value} {r : Row} (done' : Nat) (hs1 : sizeT E.P T = some 1) (ha : kval E.G l a = some (.pointer (some ⟨b, o, none⟩))) (hv : kval E.G l v = some u) (hg : goodCells u 1 = some [u])
    (hr : H.row b = some r) (hw : r.rw = true) (hl : o < r.cs.length) (ho : R.ops[i]? = some ⟨none, .store T a v, ty, ps, af, g⟩) (hk : stepOk R i ⟨none, .store T a v, ty, ps, af, g⟩ done hs = true) (hkw : kwant R.ops l ⟨none, .store T a v, ty, ps, af, g⟩ = some true) (hdone : Nat.lor done (2 ^ i) = done')
    (h : ∀ H1, Upd H H1 b ⟨r.elem, r.whole, true, putL r.cs o [u]⟩ → KD E R N ord l H1 (H1 :: past) done' hs.tail Q) : KD E R N (i :: ord) l H past done hs Q := by
  obtain ⟨H1, u1, p1⟩ := PX.store (l := l) ha hv hs1 hg hr hw hl
  exact KD.pn done' p1 ho rfl hk hkw hdone (h H1 u1)
theorem KD.buildSlice {t e sz n : Nat} {z : List Value} {pa : Array (Nat × Operand)} {vs : List (Nat × Value)} {cs : List Value} (done' : Nat) (ht : elemT E.P t = some e) (hz : elemZ E.P e = some (sz, z)) (hp : kparts E.G l pa.toList = some vs)
    (hn : Nat.ble (n * sz) 10000 = true) (hf : fillA (fun i => some (i * sz, sz)) (zerosFor z n) vs = some cs) (ho : R.ops[i]? = some ⟨some d, .buildSlice t n pa, ty, ps, af, g⟩) (hk : stepOk R i ⟨some d, .buildSlice t n pa, ty, ps, af, g⟩ done hs = true) (hw : kwant R.ops l ⟨some d, .buildSlice t n pa, ty, ps, af, g⟩ = some true) (hd : Nat.blt d N = true) (hdone : Nat.lor done (2 ^ i) = done')
    (h : ∀ H1, Upd H H1 (R.base + i) ⟨e, true, true, cs⟩ → KD E R N ord ((d, .slice (some ⟨R.base + i, 0, none⟩) n n) :: l) H1 past done' hs Q) : KD E R N (i :: ord) l H past done hs Q := by
  obtain ⟨H1, u1, p1⟩ := PX.buildSlice (H := ⟨R.base + i, H.objs⟩) ht hz hp hn hf
  exact KD.new done' u1 p1 ho rfl rfl hk hw hd hdone h
theorem KD.append {t tx e ex sz : Nat} {z : List Value} {a b : Operand} {x sv : Value} {cs new : List Value} {D : List Nat} {n : Nat} (done' : Nat) (ht : elemT E.P t = some e) (hz : elemZ E.P e = some (sz, z)) (hsb : smallBytes E.P e = true) (htx : E.P.underlying tx = some (.slice ex))
    (ha : kval E.G l a = some sv) (hb : kval E.G l b = some x) (hL : Lst H e sz sv cs D) (hx : newElems sz x H = some (n, new)) (hnl : new.length = n * sz) (hcs : cs.all oneC = true) (hlim : cs.length + new.length ≤ 1000000000)
    (ho : R.ops[i]? = some ⟨some d, .call ⟨.builtin .append, #[a, b], #[t, tx]⟩, ty, ps, af, g⟩) (hk : stepOk R i ⟨some d, .call ⟨.builtin .append, #[a, b], #[t, tx]⟩, ty, ps, af, g⟩ done hs = true) (hw : kwant R.ops l ⟨some d, .call ⟨.builtin .append, #[a, b], #[t, tx]⟩, ty, ps, af, g⟩ = some true) (hd : Nat.blt d N = true) (hdone : Nat.lor done (2 ^ i) = done')
    (h : ∀ v' H1 D', Lst H1 e sz v' (cs ++ new) D' → H.next ≤ H1.next → (∀ j, j ∉ D → j < H.next → H1.row j = H.row j) → (∀ j ∈ D', j ∈ D ∨ (H.next ≤ j ∧ j < H1.next)) → KD E R N ord ((d, v') :: l) H1 (H1 :: past) done' hs.tail Q) :
    KD E R N (i :: ord) l H past done hs Q := by
  obtain ⟨v', H1, D', p1, k1, k2, k3, k4⟩ := PX.append hL ha hb ht hz hsb htx hx hnl hcs hlim
  exact KD.px done' p1 ho rfl hk hw hd hdone (h v' H1 D' k1 k2 k3 k4)
end
section
variable {E : Env} {l : Kn} {H : AHeap}
/-- A truth value is stored: in a row of one's own, or the same again. -/
theorem PX.storeB {T : TypeId} {a v : Operand} {b o : Nat} {c x : Bool} {r : Row} (ha : kval E.G l a = some (.pointer (some ⟨b, o, none⟩))) (hv : kval E.G l v = some (.bool c)) (hs : sizeT E.P T = some 1) (hr : H.row b = some r) (hx : r.cs[o]? = some (.bool x)) (hw : r.rw = true ∨ (r.whole = true ∧ c = x)) :
    ∃ H1, Upd H H1 b ⟨r.elem, r.whole, r.rw, putL r.cs o [.bool c]⟩ ∧ PX E l H (.store T a v) undefV H1 := by
  cases hrw : r.rw with
  | true => exact PX.store ha hv hs rfl hr hrw (lt_of_get hx)
  | false =>
    obtain ⟨hwo, rfl⟩ := hw.resolve_left (by rw [hrw]; simp)
    refine ⟨H, ⟨rfl, fun j => ?_⟩, ?_⟩
    · split
      · rename_i h
        rw [h, hr, putL_same hx, ← hrw]
      · rfl
    · intro F N hF cc yy
      have hsame : sameBool r.cs[o]? [.bool c] = true := by rw [hx]; simp [sameBool, vBool]
      simp only [opA, skipV, opStore, kval_ok hF ha, kval_ok hF hv, Option.bind_some, storeA, vAddr, vPtr, plainAddr, isNone, cond_true, hs, show goodCells (.bool c) 1 = some [.bool c] from rfl, writeA, hr, hrw, cond_false, hwo, hsame, Bool.and_self, Option.map_some]
end
theorem KD.storeB {E : Env} {R : DR} {N : Nat} {ord : List Nat} {l : Kn} {H : AHeap} {past : List AHeap} {done : Nat} {hs : List Nat} {Q : Kn → AHeap → Nat → List Nat → Prop} {i : Nat} {ty : TypeId} {ps : String} {af : Array Edge} {g : Option (Nat × Bool)} {T : TypeId} {a v : Operand} {b o : Nat} {c x : Bool} {r : Row} (done' : Nat) (hs1 : sizeT E.P T = some 1) (ha : kval E.G l a = some (.pointer (some ⟨b, o, none⟩))) (hv : kval E.G l v = some (.bool c)) (hr : H.row b = some r) (hx : r.cs[o]? = some (.bool x)) (hw : r.rw = true ∨ (r.whole = true ∧ c = x))
    (ho : R.ops[i]? = some ⟨none, .store T a v, ty, ps, af, g⟩) (hk : stepOk R i ⟨none, .store T a v, ty, ps, af, g⟩ done hs = true) (hkw : kwant R.ops l ⟨none, .store T a v, ty, ps, af, g⟩ = some true) (hdone : Nat.lor done (2 ^ i) = done')
    (h : ∀ H1, Upd H H1 b ⟨r.elem, r.whole, r.rw, putL r.cs o [.bool c]⟩ → KD E R N ord l H1 (H1 :: past) done' hs.tail Q) : KD E R N (i :: ord) l H past done hs Q := by
  obtain ⟨H1, u1, p1⟩ := PX.storeB (l := l) ha hv hs1 hr hx hw
  exact KD.pn done' p1 ho rfl hk hkw hdone (h H1 u1)
end Go.Eng

/- Lists of data, seen one by one. -/
namespace Go.Eng
open Go

theorem RdN.snoc {R : Rdr} {cs : List Value} {sz : Nat} : ∀ {n o : Nat} {n1 n2 : List Int} {s1 s2 : List ByteArray} {D1 D2 : List Nat}, RdN R cs sz n o n1 s1 D1 → R cs (o + n * sz) n2 s2 D2 → RdN R cs sz (n + 1) o (n1 ++ n2) (s1 ++ s2) (D1 ++ D2)
  | 0, o, n1, n2, s1, s2, D1, D2, h, hr => by
    obtain ⟨rfl, rfl, rfl⟩ := h
    rw [Nat.zero_mul, Nat.add_zero] at hr
    exact ⟨n2, s2, D2, [], [], [], hr, ⟨rfl, rfl, rfl⟩, by simp, by simp, by simp⟩
  | n + 1, o, n1, n2, s1, s2, D1, D2, h, hr => by
    obtain ⟨a1, b1, c1, a2, b2, c2, h1, h2, rfl, rfl, rfl⟩ := h
    have e : o + (n + 1) * sz = o + sz + n * sz := by rw [Nat.add_mul]; omega
    rw [e] at hr
    exact ⟨a1, b1, c1, a2 ++ n2, b2 ++ s2, c2 ++ D2, h1, RdN.snoc h2 hr, by simp, by simp, by simp⟩

/-- What a slice with so many elements holds. -/
def LRd (H : AHeap) (room : Md) (s : Sh) (sz : Nat) (a : Option Addr) (c : Nat) (ns : List Int) (ss : List ByteArray) (D : List Nat) : Prop :=
  (c = 0 ∧ ns = [] ∧ ss = [] ∧ D = []) ∨ ∃ b off sp r D', a = some ⟨b, off, sp⟩ ∧ H.row b = some r ∧ (room.w = true → Wm room r) ∧ D = b :: D' ∧ RdN (Rd H room s) r.cs sz c off ns ss D'

/-- What stays of the eye's row. -/
def EyeRow (oe : Nat) (re re' : Row) : Prop := re'.elem = re.elem ∧ re'.whole = re.whole ∧ re'.cs.length = re.cs.length ∧ ∀ i, i ≠ oe → i ≠ oe + 1 → i ≠ oe + 3 → re'.cs[i]? = re.cs[i]?
theorem EyeRow.trans {oe : Nat} {a b c : Row} (h : EyeRow oe a b) (k : EyeRow oe b c) : EyeRow oe a c :=
  ⟨k.1.trans h.1, k.2.1.trans h.2.1, k.2.2.1.trans h.2.2.1, fun i i1 i2 i3 => (k.2.2.2 i i1 i2 i3).trans (h.2.2.2 i i1 i2 i3)⟩
theorem EyeRow.refl {oe : Nat} {a : Row} : EyeRow oe a a := ⟨rfl, rfl, rfl, fun _ _ _ _ => rfl⟩

/-- The list behind its length is seen. -/
def SeenL (tI tS : Nat) (s : Sh) (sz : Nat) (H : AHeap) (be oe : Nat) (n0 : List Int) (s0 : List ByteArray) (mark : Bool) (room : Md) (re : Row) (Fn Fs : List Nat) (a : Option Addr) (c : Nat) (ns : List Int) (ss : List ByteArray) (D : List Nat) (H' : AHeap) : Prop :=
  ∃ ns' ss' at' re' Fn' Fs', Eye tI tS H' be oe (n0 ++ ns') (s0 ++ ss') mark room.r at' re' Fn' Fs' ∧ LRd H' room s sz a c ns' ss' D ∧ ns'.length = ns.length ∧ ss'.length = ss.length ∧
    (mark = false → ns' = ns ∧ ss' = ss ∧ ∀ j ∈ D, H'.row j = H.row j) ∧ EyeRow oe re re' ∧ (∀ j ∈ Fn', j ∈ Fn ∨ H.next ≤ j) ∧ (∀ j ∈ Fs', j ∈ Fs ∨ H.next ≤ j) ∧
    H.next ≤ H'.next ∧ (∀ j, j < H.next → j ≠ be → j ∉ Fn → j ∉ Fs → j ∉ D → H'.row j = H.row j)

structure LI (tI tS : Nat) (s : Sh) (sz : Nat) (H : AHeap) (be oe : Nat) (n0 : List Int) (s0 : List ByteArray) (mark : Bool) (room : Md) (re : Row) (Fn Fs : List Nat) (b off : Nat) (r : Row) (c : Nat) (ns : List Int) (ss : List ByteArray) (D : List Nat) (i : Nat) (Hi : AHeap) : Prop where
  le : i ≤ c
  ex : ∃ n1 s1 D1 n2 s2 D2 at' re' Fn' Fs' cs', Eye tI tS Hi be oe (n0 ++ n1) (s0 ++ s1) mark room.r at' re' Fn' Fs' ∧ Hi.row b = some ⟨r.elem, r.whole, r.rw, cs'⟩ ∧
    RdN (Rd Hi room s) cs' sz i off n1 s1 D1 ∧ RdN (Rd Hi room s) cs' sz (c - i) (off + i * sz) n2 s2 D2 ∧ D = D1 ++ D2 ∧ n1.length + n2.length = ns.length ∧ s1.length + s2.length = ss.length ∧
    (mark = false → n1 ++ n2 = ns ∧ s1 ++ s2 = ss ∧ cs' = r.cs ∧ ∀ j ∈ D, Hi.row j = H.row j) ∧ EyeRow oe re re' ∧ (∀ j ∈ Fn', j ∈ Fn ∨ H.next ≤ j) ∧ (∀ j ∈ Fs', j ∈ Fs ∨ H.next ≤ j)
  next : H.next ≤ Hi.next
  keep : ∀ j, j < H.next → j ≠ be → j ∉ Fn → j ∉ Fs → j ≠ b → j ∉ D → Hi.row j = H.row j

section
variable {E : Env} {tI tS : Nat} {s : Sh} {sz : Nat} {H : AHeap} {be oe : Nat} {n0 : List Int} {s0 : List ByteArray} {mark : Bool} {room : Md} {re : Row} {Fn Fs : List Nat} {b off : Nat} {r : Row} {c : Nat} {ns : List Int} {ss : List ByteArray} {D : List Nat} {i : Nat} {Hi : AHeap} {g : FuncId}
theorem LI.step (hg : SeeOK E tI tS g s) (hok : s.cells.all (fun i => Nat.blt i sz) = true) (hrw : room.w = true → Wm room r) (hwm : mark = true ∨ s.bools = true → room.w = true) (hmk : mark = true → room.k = false) (h : LI tI tS s sz H be oe n0 s0 mark room re Fn Fs b off r c ns ss D i Hi) (hi : i < c)
    (hb : b < H.next) (hD : ∀ j ∈ D, j < H.next) (b1 : b ≠ be) (b2 : b ∉ Fn) (b3 : b ∉ Fs) (d1 : be ∉ D) (d2 : ∀ j ∈ D, j ∉ Fn) (d3 : ∀ j ∈ D, j ∉ Fs) (hm : mark = true → D.Nodup ∧ b ∉ D)
    (l1 : n0.length + ns.length ≤ 1000000000) (l2 : s0.length + ss.length ≤ 1000000000) :
    WF E g [.pointer (some ⟨be, oe, none⟩), .pointer (some ⟨b, off + i * sz, none⟩)] Hi fun q => LI tI tS s sz H be oe n0 s0 mark room re Fn Fs b off r c ns ss D (i + 1) q.2 := by
  obtain ⟨hle, ⟨n1, s1, D1, n2, s2, D2, at', re', Fn', Fs', cs', he, hrow, hp, hr, rfl, hln, hls, hmf, hre, hFn, hFs⟩, hnx, hkeep⟩ := h
  have hci : c - i = (c - i - 1) + 1 := by omega
  rw [hci] at hr
  obtain ⟨na, sa, Da, nb, sb, Db, ha, hbR, rfl, rfl, rfl⟩ := hr
  have memA : ∀ j ∈ Da, j ∈ D1 ++ (Da ++ Db) := fun j hj => List.mem_append_right _ (List.mem_append_left _ hj)
  have memB : ∀ j ∈ Db, j ∈ D1 ++ (Da ++ Db) := fun j hj => List.mem_append_right _ (List.mem_append_right _ hj)
  have mem1 : ∀ j ∈ D1, j ∈ D1 ++ (Da ++ Db) := fun j hj => List.mem_append_left _ hj
  have notFn : ∀ j, j < H.next → j ∉ Fn → j ∉ Fn' := fun j hj hn hf => by
    rcases hFn j hf with h | h
    · exact hn h
    · omega
  have notFs : ∀ j, j < H.next → j ∉ Fs → j ∉ Fs' := fun j hj hn hf => by
    rcases hFs j hf with h | h
    · exact hn h
    · omega
  have hmi : mark = true → Da.Nodup ∧ b ∉ Da := fun hmk => by
    obtain ⟨k1, k2⟩ := hm hmk
    exact ⟨(List.nodup_append.1 (List.nodup_append.1 k1).2.1).1, fun hj => k2 (memA b hj)⟩
  simp only [List.length_append] at hln hls
  refine (hg Hi be oe (n0 ++ n1) (s0 ++ s1) mark room at' re' Fn' Fs' b (off + i * sz) ⟨r.elem, r.whole, r.rw, cs'⟩ na sa Da he hrow hrw hwm hmk ha (by omega) (fun j hj => Nat.lt_of_lt_of_le (hD j (memA j hj)) hnx) b1 (notFn b hb b2) (notFs b hb b3) (fun hj => d1 (memA _ hj)) (fun j hj => notFn j (hD j (memA j hj)) (d2 j (memA j hj))) (fun j hj => notFs j (hD j (memA j hj)) (d3 j (memA j hj))) hmi (by rw [List.length_append]; omega) (by rw [List.length_append]; omega)).mono ?_
  rintro ⟨v, H'⟩ ⟨⟨nA, sA, atA, reA, FnA, FsA, csA, heA, hrowA, hRA, hlA, hcA, hnA, hsA, hmA, hre1, hre2, hre3, hre4, hFnA, hFsA⟩, hnxA, hkA⟩
  -- the rows of the others stay
  have hoth : ∀ j, j ∈ D1 ∨ j ∈ Db → H'.row j = Hi.row j := by
    intro j hj
    have hjD : j ∈ D1 ++ (Da ++ Db) := hj.elim (mem1 j) (memB j)
    have hjl := hD j hjD
    by_cases hA : j ∈ Da
    · cases hmk : mark with
      | false => exact (hmA hmk).2.2.2 j hA
      | true =>
        exfalso
        obtain ⟨k1, -⟩ := hm hmk
        have k3 := List.nodup_append.1 k1
        rcases hj with hj | hj
        · exact k3.2.2 j hj j (List.mem_append_left _ hA) rfl
        · exact (List.nodup_append.1 k3.2.1).2.2 j hA j hj rfl
    · by_cases hjb : j = b
      · cases hmk : mark with
        | false =>
          subst hjb
          rw [hrowA, hrow, (hmA hmk).2.2.1]
        | true => exact absurd (hjb ▸ hjD) (hm hmk).2
      · exact hkA j (by omega) (fun e => d1 (e ▸ hjD)) (notFn j hjl (d2 j hjD)) (notFs j hjl (d3 j hjD)) hjb hA
  -- the cells of the others stay
  have hcell : ∀ k, k ≠ i → ∀ z ∈ s.cells, csA[off + k * sz + z]? = cs'[off + k * sz + z]? := by
    intro k hk z hz
    refine hcA _ fun y hy e => hk ?_
    have z1 : z < sz := blt_nat.1 (List.all_eq_true.1 hok z hz)
    have y1 : y < sz := blt_nat.1 (List.all_eq_true.1 hok y hy)
    have e' : k * sz + z = i * sz + y := by omega
    rcases Nat.lt_trichotomy k i with h | h | h
    · exfalso
      have : (k + 1) * sz ≤ i * sz := Nat.mul_le_mul_right sz h
      rw [Nat.add_mul] at this; omega
    · exact h
    · exfalso
      have : (i + 1) * sz ≤ k * sz := Nat.mul_le_mul_right sz h
      rw [Nat.add_mul] at this; omega
  refine ⟨hi, ⟨n1 ++ nA, s1 ++ sA, D1 ++ Da, nb, sb, Db, atA, reA, FnA, FsA, csA, by rw [List.append_assoc, List.append_assoc] at heA; exact heA, hrowA, ?_, ?_, by rw [List.append_assoc], ?_, ?_, ?_, hre.trans ⟨hre1, hre2, hre3, hre4⟩, ?_, ?_⟩, Nat.le_trans hnx hnxA, ?_⟩
  · refine RdN.snoc (RdN.imp (fun k hk ns ss D' hDD hh => Rd.congr (fun j hj => hoth j (.inl (hDD j hj))) (fun z hz => hcell k (by omega) z hz) hh) hp) hRA
  · have e1 : c - (i + 1) = c - i - 1 := by omega
    have e2 : off + (i + 1) * sz = off + i * sz + sz := by rw [Nat.add_mul]; omega
    rw [e1, e2]
    refine RdN.imp (fun k hk ns ss D' hDD hh => Rd.congr (fun j hj => hoth j (.inr (hDD j hj))) (fun z hz => ?_) hh) hbR
    have e3 : off + i * sz + sz + k * sz = off + (i + 1 + k) * sz := by rw [Nat.add_mul, Nat.add_mul]; omega
    rw [e3]
    exact hcell _ (by omega) z hz
  · simp only [List.length_append] at hnA ⊢; omega
  · simp only [List.length_append] at hsA ⊢; omega
  · intro hmk
    obtain ⟨k1, k2, k3, k4⟩ := hmf hmk
    obtain ⟨m1, m2, m3, m4⟩ := hmA hmk
    refine ⟨by rw [m1, List.append_assoc]; exact k1, by rw [m2, List.append_assoc]; exact k2, by rw [m3]; exact k3, fun j hj => ?_⟩
    have hj' : j ∈ D1 ++ (Da ++ Db) := hj
    by_cases hA : j ∈ Da
    · rw [m4 j hA]; exact k4 j hj
    · have : j ∈ D1 ∨ j ∈ Db := by
        simp only [List.mem_append] at hj'
        rcases hj' with h | h | h
        · exact .inl h
        · exact absurd h hA
        · exact .inr h
      rw [hoth j this]; exact k4 j hj
  · intro j hj
    rcases hFnA j hj with h | h
    · exact hFn j h
    · exact .inr (Nat.le_trans hnx h)
  · intro j hj
    rcases hFsA j hj with h | h
    · exact hFs j h
    · exact .inr (Nat.le_trans hnx h)
  · intro j j0 j1 j2 j3 j4 j5
    show H'.row j = _
    rw [hkA j (by omega) j1 (notFn j j0 j2) (notFs j j0 j3) j4 (fun hj => j5 (memA j hj))]
    exact hkeep j j0 j1 j2 j3 j4 j5
/-- The loop over a list: an invariant. -/
theorem list_J {a : Option Addr} {at_ : Int} (hg : SeeOK E tI tS g s) (hok : s.cells.all (fun i => Nat.blt i sz) = true) (hwm : mark = true ∨ s.bools = true → room.w = true) (hmk : mark = true → room.k = false) (he : Eye tI tS H be oe n0 s0 mark room.r at_ re Fn Fs) (hL : LRd H room s sz a c ns ss D)
    (hD : ∀ j ∈ D, j < H.next) (d1 : be ∉ D) (d2 : ∀ j ∈ D, j ∉ Fn) (d3 : ∀ j ∈ D, j ∉ Fs) (hm : mark = true → D.Nodup) (l1 : n0.length + ns.length ≤ 1000000000) (l2 : s0.length + ss.length ≤ 1000000000) :
    ∃ J : Nat → AHeap → Prop, J 0 H ∧ (∀ i Hi, i < c → J i Hi → ∃ b off sp, a = some ⟨b, off, sp⟩ ∧ WF E g [.pointer (some ⟨be, oe, none⟩), .pointer (some ⟨b, off + i * sz, none⟩)] Hi fun q => J (i + 1) q.2) ∧
      ∀ Hi, J c Hi → SeenL tI tS s sz H be oe n0 s0 mark room re Fn Fs a c ns ss D Hi := by
  rcases hL with ⟨rfl, rfl, rfl, rfl⟩ | ⟨b, off, sp, r, D', rfl, hrow, hrw, rfl, hR⟩
  · refine ⟨fun _ Hi => Hi = H, rfl, fun i Hi hi => absurd hi (Nat.not_lt_zero _), ?_⟩
    rintro Hi rfl
    exact ⟨[], [], at_, re, Fn, Fs, by rw [List.append_nil, List.append_nil]; exact he, .inl ⟨rfl, rfl, rfl, rfl⟩, rfl, rfl, fun _ => ⟨rfl, rfl, fun _ _ => rfl⟩, .refl, fun j hj => .inl hj, fun j hj => .inl hj, Nat.le_refl _, fun _ _ _ _ _ _ => rfl⟩
  · have hb : b ∈ b :: D' := List.mem_cons_self
    have hDm : ∀ j ∈ D', j ∈ b :: D' := fun j hj => List.mem_cons_of_mem _ hj
    have hmm : mark = true → D'.Nodup ∧ b ∉ D' := fun hmk => by
      have := hm hmk
      rw [List.nodup_cons] at this
      exact ⟨this.2, this.1⟩
    have b1 : b ≠ be := fun e => d1 (e ▸ hb)
    refine ⟨LI tI tS s sz H be oe n0 s0 mark room re Fn Fs b off r c ns ss D', ?_, ?_, ?_⟩
    · refine ⟨Nat.zero_le _, ⟨[], [], [], ns, ss, D', at_, re, Fn, Fs, r.cs, by rw [List.append_nil, List.append_nil]; exact he, hrow, ⟨rfl, rfl, rfl⟩, by rw [Nat.zero_mul, Nat.add_zero, Nat.sub_zero]; exact hR, rfl, by simp, by simp, fun _ => ⟨rfl, rfl, rfl, fun _ _ => rfl⟩, .refl, fun j hj => .inl hj, fun j hj => .inl hj⟩, Nat.le_refl _, fun _ _ _ _ _ _ _ => rfl⟩
    · intro i Hi hi hI
      exact ⟨b, off, sp, rfl, hI.step hg hok hrw hwm hmk hi (hD b hb) (fun j hj => hD j (hDm j hj)) b1 (d2 b hb) (d3 b hb) (fun hj => d1 (hDm _ hj)) (fun j hj => d2 j (hDm j hj)) (fun j hj => d3 j (hDm j hj)) hmm l1 l2⟩
    · rintro Hi ⟨-, ⟨n1, s1, D1, n2, s2, D2, at', re', Fn', Fs', cs', he', hrow', hp, hr, rfl, hln, hls, hmf, hre, hFn, hFs⟩, hnx, hkeep⟩
      rw [Nat.sub_self] at hr
      obtain ⟨rfl, rfl, rfl⟩ := hr
      simp only [List.append_nil] at *
      refine ⟨n1, s1, at', re', Fn', Fs', he', .inr ⟨b, off, sp, _, D1, rfl, hrow', hrw, rfl, hp⟩, hln, hls, ?_, hre, hFn, hFs, hnx, ?_⟩
      · intro hmk
        obtain ⟨k1, k2, k3, k4⟩ := hmf hmk
        refine ⟨k1, k2, fun j hj => ?_⟩
        rcases List.mem_cons.1 hj with rfl | hj
        · rw [hrow', hrow, k3]
        · exact k4 j hj
      · intro j j0 j1 j2 j3 j4
        exact hkeep j j0 j1 j2 j3 (fun e => j4 (e ▸ hb)) (fun hj => j4 (hDm j hj))
theorem LRd.frame {H H' : AHeap} {room : Md} {s : Sh} {sz : Nat} {a : Option Addr} {c : Nat} {ns : List Int} {ss : List ByteArray} {D : List Nat} (h : LRd H room s sz a c ns ss D) (hr : ∀ j ∈ D, H'.row j = H.row j) : LRd H' room s sz a c ns ss D := by
  rcases h with h | ⟨b, off, sp, r, D', k1, k2, k3, rfl, k5⟩
  · exact .inl h
  · exact .inr ⟨b, off, sp, r, D', k1, by rw [hr b List.mem_cons_self]; exact k2, k3, rfl, RdN.frame (fun j hj => hr j (List.mem_cons_of_mem _ hj)) k5⟩
theorem SeenL.back {H0 H' : AHeap} {re0 : Row} {Fn0 : List Nat} {a : Option Addr} (h : SeenL tI tS s sz H be oe n0 s0 mark room re Fn Fs a c ns ss D H') (hre : EyeRow oe re0 re) (hnx : H0.next ≤ H.next) (hk : ∀ j, j < H0.next → j ≠ be → j ∉ Fn0 → H.row j = H0.row j)
    (hF : ∀ j ∈ Fn, j ∈ Fn0 ∨ H0.next ≤ j) (hD : ∀ j ∈ D, j < H0.next) (d1 : be ∉ D) (d2 : ∀ j ∈ D, j ∉ Fn0) : SeenL tI tS s sz H0 be oe n0 s0 mark room re0 Fn0 Fs a c ns ss D H' := by
  obtain ⟨ns', ss', at', re', Fn', Fs', h1, h2, h3, h4, h5, h6, h7, h8, h9, h10⟩ := h
  refine ⟨ns', ss', at', re', Fn', Fs', h1, h2, h3, h4, fun hm => ?_, hre.trans h6, fun j hj => ?_, fun j hj => ?_, Nat.le_trans hnx h9, fun j j0 j1 j2 j3 j4 => ?_⟩
  · obtain ⟨k1, k2, k3⟩ := h5 hm
    exact ⟨k1, k2, fun j hj => (k3 j hj).trans (hk j (hD j hj) (fun e => d1 (e ▸ hj)) (d2 j hj))⟩
  · rcases h7 j hj with h | h
    · exact hF j h
    · exact .inr (Nat.le_trans hnx h)
  · rcases h8 j hj with h | h
    · exact .inl h
    · exact .inr (Nat.le_trans hnx h)
  · rw [h10 j (Nat.lt_of_lt_of_le j0 hnx) j1 (fun hf => ?_) j3 j4]
    · exact hk j j0 j1 j2
    · rcases hF j hf with h | h
      · exact j2 h
      · omega
theorem slice_cap {P : Program} {t e sz : Nat} {a : Option Addr} {len cap : Nat} (hT : P.underlying t = some (.slice e)) (hs : sizeT P e = some sz) (ha : exactBase a = true) : sliceA P t (.slice a len cap) none (some (.int .i64 (cap : Int))) none = some (.slice a cap cap) := by
  have hb : boundV cap (.int .i64 (cap : Int)) = some cap := by simp [boundV, vNat, vInt, iNat, ble_nat.2 (Nat.le_refl cap)]
  simp only [sliceA, hT, Option.bind_some, sliceD, dString, cond_false, dSlice, hs, vSl, subSlice, bounds3, isNone, Bool.false_and, boundA, hb, Option.map_some, Nat.sub_zero]
  cases a with
  | none => rfl
  | some a =>
    obtain ⟨b, o, sp⟩ := a
    cases sp with
    | some x => cases ha
    | none => simp [spotIs, subBase, isNone]
end
end Go.Eng

/- Data with fields, seen one field behind the other; lists behind a pointer. -/
namespace Go.Eng
open Go

/-- What a function that sees may rely on. -/
structure Pre (tI tS : Nat) (s : Sh) (H : AHeap) (be oe : Nat) (n0 : List Int) (s0 : List ByteArray) (mark : Bool) (room : Md) (re : Row) (Fn Fs : List Nat) (bx o : Nat) (rx : Row) (ns : List Int) (ss : List ByteArray) (D : List Nat) : Prop where
  eye : ∃ at_, Eye tI tS H be oe n0 s0 mark room.r at_ re Fn Fs
  x : H.row bx = some rx
  xw : room.w = true → Wm room rx
  wm : mark = true ∨ s.bools = true → room.w = true
  mkk : mark = true → room.k = false
  rd : Rd H room s rx.cs o ns ss D
  ltx : bx < H.next
  ltD : ∀ j ∈ D, j < H.next
  a1 : bx ≠ be
  a2 : bx ∉ Fn
  a3 : bx ∉ Fs
  a4 : be ∉ D
  a5 : ∀ j ∈ D, j ∉ Fn
  a6 : ∀ j ∈ D, j ∉ Fs
  mkd : mark = true → D.Nodup ∧ bx ∉ D
  l1 : n0.length + ns.length ≤ 1000000000
  l2 : s0.length + ss.length ≤ 1000000000

section
variable {E : Env} {tI tS : Nat} {s : Sh} {H : AHeap} {be oe : Nat} {n0 : List Int} {s0 : List ByteArray} {mark : Bool} {room : Md} {re : Row} {Fn Fs : List Nat} {bx o : Nat} {rx : Row} {ns : List Int} {ss : List ByteArray} {D : List Nat} {f : FuncId}
theorem SeeOK.pre (hf : SeeOK E tI tS f s) (h : Pre tI tS s H be oe n0 s0 mark room re Fn Fs bx o rx ns ss D) :
    WF E f [.pointer (some ⟨be, oe, none⟩), .pointer (some ⟨bx, o, none⟩)] H fun r => Seen tI tS s H be oe n0 s0 mark room re Fn Fs bx o rx ns ss D r.2 := by
  obtain ⟨at_, he⟩ := h.eye
  exact hf H be oe n0 s0 mark room at_ re Fn Fs bx o rx ns ss D he h.x h.xw h.wm h.mkk h.rd h.ltx h.ltD h.a1 h.a2 h.a3 h.a4 h.a5 h.a6 h.mkd h.l1 h.l2
theorem SeeOK.of (h : ∀ H be oe n0 s0 mark room re Fn Fs bx o rx ns ss D, Pre tI tS s H be oe n0 s0 mark room re Fn Fs bx o rx ns ss D →
    WF E f [.pointer (some ⟨be, oe, none⟩), .pointer (some ⟨bx, o, none⟩)] H fun r => Seen tI tS s H be oe n0 s0 mark room re Fn Fs bx o rx ns ss D r.2) : SeeOK E tI tS f s := by
  intro H be oe n0 s0 mark room at_ re Fn Fs bx o rx ns ss D he hx hxw hwm hmk hrd hbx hD h1 h2 h3 h4 h5 h6 hm hl1 hl2
  exact h H be oe n0 s0 mark room re Fn Fs bx o rx ns ss D ⟨⟨at_, he⟩, hx, hxw, hwm, hmk, hrd, hbx, hD, h1, h2, h3, h4, h5, h6, hm, hl1, hl2⟩
theorem Pre.nil (h : Pre tI tS .nil H be oe n0 s0 mark room re Fn Fs bx o rx ns ss D) : Seen tI tS .nil H be oe n0 s0 mark room re Fn Fs bx o rx ns ss D H := by
  obtain ⟨at_, he⟩ := h.eye
  obtain ⟨rfl, rfl, rfl⟩ := h.rd
  refine ⟨⟨[], [], at_, re, Fn, Fs, rx.cs, by rw [List.append_nil, List.append_nil]; exact he, h.x, ⟨rfl, rfl, rfl⟩, rfl, fun _ _ => rfl, rfl, rfl, fun _ => ⟨rfl, rfl, rfl, fun _ _ => rfl⟩, rfl, rfl, rfl, fun _ _ _ _ => rfl, fun j hj => .inl hj, fun j hj => .inl hj⟩, Nat.le_refl _, fun _ _ _ _ _ _ _ => rfl⟩

theorem Pre.fld {off : Nat} {s1 r : Sh} (hf : SeeOK E tI tS f s1) (hok : (Sh.fld off s1 r).ok = true) (h : Pre tI tS (.fld off s1 r) H be oe n0 s0 mark room re Fn Fs bx o rx ns ss D) :
    WF E f [.pointer (some ⟨be, oe, none⟩), .pointer (some ⟨bx, o + off, none⟩)] H fun q => ∃ n0' s0' re' Fn' Fs' rx' ns' ss' D', Pre tI tS r q.2 be oe n0' s0' mark room re' Fn' Fs' bx o rx' ns' ss' D' ∧
      ∀ H', Seen tI tS r q.2 be oe n0' s0' mark room re' Fn' Fs' bx o rx' ns' ss' D' H' → Seen tI tS (.fld off s1 r) H be oe n0 s0 mark room re Fn Fs bx o rx ns ss D H' := by
  obtain ⟨⟨at_, he⟩, hx, hxw, hwm, hmk, hrd, hbx, hD, a1, a2, a3, a4, a5, a6, hm, hl1, hl2⟩ := h
  obtain ⟨n1, t1, D1, n2, t2, D2, hr1, hr2, rfl, rfl, rfl⟩ := hrd
  simp only [Sh.ok, Bool.and_eq_true] at hok
  have hsep : ∀ k ∈ s1.cells, ∀ z ∈ r.cells, z ≠ off + k := by
    intro k hk z hz e
    have := List.all_eq_true.1 hok.2 k hk
    simp only [Bool.not_eq_true', List.contains_eq_mem, decide_eq_false_iff_not] at this
    exact this (e ▸ hz)
  simp only [List.length_append] at hl1 hl2
  have m1 : ∀ j ∈ D1, j ∈ D1 ++ D2 := fun j hj => List.mem_append_left _ hj
  have m2 : ∀ j ∈ D2, j ∈ D1 ++ D2 := fun j hj => List.mem_append_right _ hj
  refine (hf H be oe n0 s0 mark room at_ re Fn Fs bx (o + off) rx n1 t1 D1 he hx hxw (fun h => hwm (h.imp id fun h => by simp only [Sh.bools, h, Bool.true_or])) hmk hr1 hbx (fun j hj => hD j (m1 j hj)) a1 a2 a3 (fun hj => a4 (m1 _ hj)) (fun j hj => a5 j (m1 j hj)) (fun j hj => a6 j (m1 j hj)) (fun hmk => ⟨(List.nodup_append.1 (hm hmk).1).1, fun hj => (hm hmk).2 (m1 _ hj)⟩) (by omega) (by omega)).mono ?_
  rintro ⟨v, G⟩ ⟨⟨nA, sA, atA, reA, FnA, FsA, csA, heA, hxA, hRA, hlA, hcA, hnA, hsA, hmA, hre1, hre2, hre3, hre4, hFnA, hFsA⟩, hnxA, hkA⟩
  have notFn : ∀ j, j < H.next → j ∉ Fn → j ∉ FnA := fun j hj hn hf => by
    rcases hFnA j hf with h | h
    · exact hn h
    · omega
  have notFs : ∀ j, j < H.next → j ∉ Fs → j ∉ FsA := fun j hj hn hf => by
    rcases hFsA j hf with h | h
    · exact hn h
    · omega
  have sameX : mark = false → G.row bx = H.row bx := fun hmk => by rw [hxA, hx, (hmA hmk).2.2.1]
  have hoth : ∀ j ∈ D2, G.row j = H.row j := by
    intro j hj
    have hjl := hD j (m2 j hj)
    by_cases hA : j ∈ D1
    · cases hmk : mark with
      | false => exact (hmA hmk).2.2.2 j hA
      | true => exact absurd rfl ((List.nodup_append.1 (hm hmk).1).2.2 j hA j hj)
    · by_cases hjb : j = bx
      · cases hmk : mark with
        | false => rw [hjb]; exact sameX hmk
        | true => exact absurd (hjb ▸ m2 j hj) (hm hmk).2
      · exact hkA j hjl (fun e => a4 (e ▸ m2 j hj)) (a5 j (m2 j hj)) (a6 j (m2 j hj)) hjb hA
  refine ⟨n0 ++ nA, s0 ++ sA, reA, FnA, FsA, ⟨rx.elem, rx.whole, rx.rw, csA⟩, n2, t2, D2, ⟨⟨atA, heA⟩, hxA, hxw, (fun h => hwm (h.imp id fun h => by simp only [Sh.bools, h, Bool.or_true])), hmk, ?_, Nat.lt_of_lt_of_le hbx hnxA, fun j hj => Nat.lt_of_lt_of_le (hD j (m2 j hj)) hnxA, a1, notFn bx hbx a2, notFs bx hbx a3, fun hj => a4 (m2 _ hj), fun j hj => notFn j (hD j (m2 j hj)) (a5 j (m2 j hj)), fun j hj => notFs j (hD j (m2 j hj)) (a6 j (m2 j hj)), fun hmk => ⟨(List.nodup_append.1 (hm hmk).1).2.1, fun hj => (hm hmk).2 (m2 _ hj)⟩, by rw [List.length_append]; omega, by rw [List.length_append]; omega⟩, ?_⟩
  · refine Rd.congr hoth (fun z hz => hcA _ fun k hk e => hsep k hk z hz (by omega)) hr2
  · rintro H' ⟨⟨nB, sB, atB, reB, FnB, FsB, csB, heB, hxB, hRB, hlB, hcB, hnB, hsB, hmB, hreB1, hreB2, hreB3, hreB4, hFnB, hFsB⟩, hnxB, hkB⟩
    have hoth1 : ∀ j ∈ D1, H'.row j = G.row j := by
      intro j hj
      have hjl := hD j (m1 j hj)
      by_cases hA : j ∈ D2
      · cases hmk : mark with
        | false => exact (hmB hmk).2.2.2 j hA
        | true => exact absurd rfl ((List.nodup_append.1 (hm hmk).1).2.2 j hj j hA)
      · by_cases hjb : j = bx
        · cases hmk : mark with
          | false => rw [hjb, hxB, hxA, (hmB hmk).2.2.1]
          | true => exact absurd (hjb ▸ m1 j hj) (hm hmk).2
        · exact hkB j (Nat.lt_of_lt_of_le hjl hnxA) (fun e => a4 (e ▸ m1 j hj)) (notFn j hjl (a5 j (m1 j hj))) (notFs j hjl (a6 j (m1 j hj))) hjb hA
    refine ⟨⟨nA ++ nB, sA ++ sB, atB, reB, FnB, FsB, csB, by rw [← List.append_assoc, ← List.append_assoc]; exact heB, hxB, ⟨nA, sA, D1, nB, sB, D2, ?_, hRB, rfl, rfl, rfl⟩, hlB.trans hlA, ?_, by rw [List.length_append, List.length_append, hnA, hnB], by rw [List.length_append, List.length_append, hsA, hsB], ?_, hreB1.trans hre1, hreB2.trans hre2, hreB3.trans hre3, fun i i1 i2 i3 => (hreB4 i i1 i2 i3).trans (hre4 i i1 i2 i3), ?_, ?_⟩, Nat.le_trans hnxA hnxB, ?_⟩
    · exact Rd.congr hoth1 (fun k hk => hcB _ fun z hz e => hsep k hk z hz (by omega)) hRA
    · intro i hi
      rw [hcB i fun k hk => hi k (by simp only [Sh.cells, List.mem_append]; exact .inr hk)]
      exact hcA i fun k hk e => hi (off + k) (by simp only [Sh.cells, List.mem_append, List.mem_map]; exact .inl ⟨k, hk, rfl⟩) (by omega)
    · intro hmk
      obtain ⟨p1, p2, p3, p4⟩ := hmA hmk
      obtain ⟨q1, q2, q3, q4⟩ := hmB hmk
      refine ⟨by rw [p1, q1], by rw [p2, q2], by rw [q3]; exact p3, fun j hj => ?_⟩
      rcases List.mem_append.1 hj with hj | hj
      · rw [hoth1 j hj]; exact p4 j hj
      · rw [q4 j hj]; exact hoth j hj
    · intro j hj
      rcases hFnB j hj with h | h
      · exact hFnA j h
      · exact .inr (Nat.le_trans hnxA h)
    · intro j hj
      rcases hFsB j hj with h | h
      · exact hFsA j h
      · exact .inr (Nat.le_trans hnxA h)
    · intro j j0 j1 j2 j3 j4 j5
      rw [hkB j (Nat.lt_of_lt_of_le j0 hnxA) j1 (notFn j j0 j2) (notFs j j0 j3) j4 (fun hj => j5 (m2 j hj))]
      exact hkA j j0 j1 j2 j3 j4 (fun hj => j5 (m1 j hj))
/-- A list behind a pointer is seen. -/
theorem Seen.ofL {sz : Nat} {a : Option Addr} {len cap : Nat} {n1 : List Int} {H' : AHeap} (h : Pre tI tS (.list sz s) H be oe n0 s0 mark room re Fn Fs bx o rx ((len : Int) :: n1) ss D) (hc : rx.cs[o]? = some (.slice a len cap)) (hlc : len ≤ cap ∧ cnt room.r len cap ≤ 1000000000) (hroom : room.r = true → exactBase a = true)
    (hL : SeenL tI tS s sz H be oe (n0 ++ [(len : Int)]) s0 mark room re Fn Fs a (cnt room.r len cap) n1 ss D H') : Seen tI tS (.list sz s) H be oe n0 s0 mark room re Fn Fs bx o rx ((len : Int) :: n1) ss D H' := by
  obtain ⟨ns', ss', at', re', Fn', Fs', h1, h2, h3, h4, h5, h6, h7, h8, h9, h10⟩ := hL
  have hbx : H'.row bx = H.row bx := by
    by_cases hb : bx ∈ D
    · cases hmk : mark with
      | false => exact (h5 hmk).2.2 bx hb
      | true => exact absurd hb (h.mkd hmk).2
    · exact h10 bx h.ltx h.a1 h.a2 h.a3 hb
  refine ⟨⟨(len : Int) :: ns', ss', at', re', Fn', Fs', rx.cs, ?_, by rw [hbx, h.x], ⟨a, len, cap, hc, hlc, hroom, ns', rfl, h2⟩, rfl, fun _ _ => rfl, by simp only [List.length_cons, h3], h4, fun hmk => ?_, h6.1, h6.2.1, h6.2.2.1, h6.2.2.2, h7, h8⟩, h9, fun j j0 j1 j2 j3 _ j5 => h10 j j0 j1 j2 j3 j5⟩
  · rw [List.append_assoc] at h1; exact h1
  · obtain ⟨k1, k2, k3⟩ := h5 hmk
    exact ⟨by rw [k1], k2, rfl, k3⟩
end
end Go.Eng
