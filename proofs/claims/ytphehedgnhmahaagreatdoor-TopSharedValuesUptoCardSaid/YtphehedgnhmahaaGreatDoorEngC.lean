/- If the interpreter answers, the machine answers the same, and more fuel changes nothing. Conditions: none beyond each theorem's own. -/
import Derived.Test.YtphehedgnhmahaaGreatDoorEngB
import Derived.Room.MakeNoZero
import Derived.KernelRfl
import Derived.Below
/- Code: statements, loops, function bodies. -/
namespace Go.Eng
open Go

structure AFRel (φ : Emb) (F : AF) (b : Frame) (a : Act) : Prop where
  tmps : FrRel φ F.tmps a.tmps
  fn : b.fn = F.fn
  kind : b.kind = .normal
  round : (F.round = none ∧ b.roundOf = none) ∨ ∃ l, F.round = some l ∧ φ.dom l ∧ b.roundOf = some (φ l).block
  defs : a.defers = F.defs.map (fun d => ({ target := .collected (φ d).block, args := #[] } : Deferred))
  defdom : ∀ d ∈ F.defs, φ.dom d
theorem AFRel.mono {φ φ' : Emb} (h : φ.le φ') {F : AF} {b : Frame} {a : Act} (r : AFRel φ F b a) : AFRel φ' F b a := by
  refine ⟨r.tmps.mono h, r.fn, r.kind, ?_, ?_, fun d hd => h.dom d (r.defdom d hd)⟩
  · rcases r.round with h1 | ⟨l, h1, h2, h3⟩
    · exact .inl h1
    · exact .inr ⟨l, h1, h.dom l h2, by rw [h.loc l h2]; exact h3⟩
  · rw [r.defs]
    refine List.map_congr_left fun d hd => ?_
    rw [h.loc d (r.defdom d hd)]
theorem AFRel.setTmps {φ : Emb} {F : AF} {b : Frame} {a a' : Act} (r : AFRel φ F b a) {T : Fr} (h : FrRel φ T a'.tmps) (hd : a'.defers = a.defers) : AFRel φ ⟨F.fn, T, F.defs, F.round⟩ b a' :=
  ⟨h, r.fn, r.kind, r.round, by rw [hd]; exact r.defs, r.defdom⟩

/-- How the machine leaves a piece of code. -/
def Ends (P : Program) (m : Machine) (b : Frame) (k : List Item) (cs : List Frame) (a : Act) (w : World) : AExit → Prop
  | .normal => Steps P m (lone (b.atR a k) cs w)
  | .exit id => ∃ k1, exitTo id k1 = exitTo id k ∧ Steps P m (lone (b.atR a (.code (.exit id) :: k1)) cs w)
  | .ret => ∃ k1, Steps P m (lone (b.atR a (.code .ret :: k1)) cs w)
theorem Ends.of_steps {P : Program} {m m1 : Machine} {b : Frame} {k : List Item} {cs : List Frame} {a : Act} {w : World} {e : AExit} (h : Steps P m m1) (h' : Ends P m1 b k cs a w e) : Ends P m b k cs a w e := by
  cases e with
  | normal => exact h.trans h'
  | exit id => obtain ⟨k1, h1, h2⟩ := h'; exact ⟨k1, h1, h.trans h2⟩
  | ret => obtain ⟨k1, h2⟩ := h'; exact ⟨k1, h.trans h2⟩
/-- Left otherwise than normally, one item of the rest is passed over. -/
theorem Ends.pass {P : Program} {m : Machine} {b : Frame} {x : Item} {k : List Item} {cs : List Frame} {a : Act} {w : World} {e : AExit} (hx : ∀ id, exitTo id (x :: k) = exitTo id k) (hn : e ≠ .normal) (h : Ends P m b (x :: k) cs a w e) : Ends P m b k cs a w e := by
  cases e with
  | normal => exact absurd rfl hn
  | exit id => obtain ⟨k1, h1, h2⟩ := h; exact ⟨k1, h1.trans (hx id), h2⟩
  | ret => exact h

theorem stepR_scope {P : Program} {b : Frame} {a : Act} {k : List Item} {cs : List Frame} {w : World} {c : Code} :
    step P (lone (b.atR a (.code (.scope c) :: k)) cs w) = .next (lone (b.atR a (.code c :: .inScope c :: k)) cs w) :=
  step_lone_go (by simp [stepG, stepG.exec, Frame.atR])
theorem stepR_inScope {P : Program} {b : Frame} {a : Act} {k : List Item} {cs : List Frame} {w : World} {c : Code} :
    step P (lone (b.atR a (.inScope c :: k)) cs w) = .next (lone (b.atR a k) cs w) :=
  step_lone_go (by simp [stepG, stepG.exec, Frame.atR])

def Starts (b : Frame) (a : Act) (c : Code) (k : List Item) (cs : List Frame) (w : World) (m : Machine) : Prop :=
  m = lone (b.atR a (.code c :: k)) cs w ∨ ∃ c', c = .loop c' ∧ m = lone (b.atR a (.inLoop c' :: k)) cs w

/-- What is proved of the interpreter. -/
def RecOK (P : Program) (G : Nat) (again : Rec) : Prop :=
  ∀ c F H o, again c F H = some o → ∀ φ w b a, AFRel φ F b a → HRel G φ H w → ∀ k cs m, Starts b a c k cs w m →
    ∃ a' w' φ', Ends P m b k cs a' w' o.e ∧ HRel G φ' o.H w' ∧ Later φ H w φ' o.H w' ∧ AFRel φ' o.F b a'

theorem getLoop_some {H : AHeap} {l : Nat} {r : ALoop} (h : Eng.getLoop H l = some r) : H.get l = some r.obj := by
  simp only [Eng.getLoop, Option.bind_eq_some_iff] at h
  obtain ⟨o, ho, hr⟩ := h
  cases o <;> simp [loopOf] at hr
  subst hr
  exact ho

/-- The loop's record in the world. -/
theorem HRel.loopAt {G : Nat} {φ : Emb} {H : AHeap} {w : World} (h : HRel G φ H w) {l : Nat} {r : ALoop} (hl : Eng.getLoop H l = some r) :
    φ.dom l ∧ ∃ rc : Loop, w.heap[(φ l).block]? = some (.loop rc) ∧ rc.state = r.state ∧ rc.pending = r.pending ∧ rc.fn = r.fn ∧ FrRel φ r.tmps rc.tmps ∧ rc.params.toList = r.params ∧ rc.assign = r.assign ∧ rc.body = r.body ∧
      rc.defers = (φ r.defers).block ∧ φ.dom r.defers := by
  obtain ⟨hd, ob, hob, ho⟩ := h.obj l _ (getLoop_some hl)
  cases ho with
  | aloop h1 h2 h3 h4 h5 h6 h7 h8 h9 => exact ⟨hd, _, hob, h1, h2, h3, h4, h5, h6, h7, h8, h9⟩

theorem run_getLoop {P : Program} {w : World} {l : Nat} {rc : Loop} (h : w.heap[l]? = some (.loop rc)) : (Instr.getLoop l).run P w = .ok rc w := by
  simp [Instr.getLoop, getObj, Sem.run, h]
theorem run_setObj_loop {P : Program} {w : World} {l : Nat} {rc : Loop} (h : w.heap[l]? = some (.loop rc)) (o : Obj) : (setObj l o).run P w = .ok () (World.put w l o) := by
  simp [setObj, Sem.run, h, World.put]

/-- The loop's record is written. -/
theorem HRel.setLoop {G : Nat} {φ : Emb} {H : AHeap} {w : World} (h : HRel G φ H w) {l : Nat} {r : ALoop} (hl : Eng.getLoop H l = some r) {rc : Loop} (hob : w.heap[(φ l).block]? = some (.loop rc)) (st : LoopState) (pd : Option Code) :
    HRel G φ (H.set l ({ r with state := st, pending := pd } : ALoop).obj) (World.put w (φ l).block (.loop { rc with state := st, pending := pd })) ∧
      Later φ H w φ (H.set l ({ r with state := st, pending := pd } : ALoop).obj) (World.put w (φ l).block (.loop { rc with state := st, pending := pd })) := by
  obtain ⟨hd, ob, hob', ho⟩ := h.obj l _ (getLoop_some hl)
  rw [hob] at hob'
  cases hob'
  cases ho with
  | aloop h1 h2 h3 h4 h5 h6 h7 h8 h9 => exact h.upd (getLoop_some hl) rfl _ _ (.aloop rfl rfl h3 h4 h5 h6 h7 h8 h9) (.inr trivial)

section
variable {E : Env} {G : Nat} {call yi : Caller} {again : Rec}

/-- A loop over a function. -/
theorem rangeCode_sound (g : Good E G call yi) (f : Operand) (ps : Array Tmp) (as bd : Code) {F : AF} {H : AHeap} {o : Out} (e : rangeCode E call f ps.toList as bd F H = some o) {φ : Emb} {w : World} {b : Frame} {a : Act}
    (hF : AFRel φ F b a) (h : HRel G φ H w) (k : List Item) (cs : List Frame) :
    ∃ a' w' φ', Ends E.P (lone (b.atR a (.code (.rangeFunc f ps as bd) :: k)) cs w) b k cs a' w' o.e ∧ HRel G φ' o.H w' ∧ Later φ H w φ' o.H w' ∧ AFRel φ' o.F b a' := by
  simp only [rangeCode, Option.bind_eq_some_iff] at e
  obtain ⟨fv, hfv, v, hv, bk, hbk, e⟩ := e
  have hfr := aval_sound h hF.tmps (by rw [← g.hG]; exact hfv)
  rw [vFunc_some hv] at hfr
  obtain ⟨fn', a1, b1, hfe, hfn, hla, hlb⟩ := hfr.func_inv
  simp only [rangeGo, Option.bind_eq_some_iff, bif_some] at e
  obtain ⟨gf, hgf, hext, p, hp, e⟩ := e
  have hvf : v.fn = .func gf := by
    revert hgf; cases v.fn <;> simp [fnFunc]
  rw [hvf] at hfn
  cases hfn
  -- the book of the loop's deferred calls
  obtain ⟨w1, φ1, dblk, mark, hB, hB1, hB2, hB3, hB4, hB5⟩ : ∃ w1 φ1 dblk mark, (Instr.enterLoop b.fn a.tmps ps as bd b.roundOf).run E.P w = .ok (w1.heap.size, mark) { w1 with heap := w1.heap.push (.loop { state := .ready, pending := none, fn := b.fn, tmps := a.tmps, params := ps, assign := as, body := bd, defers := dblk }) } ∧ HRel G φ1 bk.H w1 ∧ Later φ H w φ1 bk.H w1 ∧ φ1.dom bk.d ∧ dblk = (φ1 bk.d).block ∧
        AFRel φ1 ⟨F.fn, F.tmps, bk.defs, F.round⟩ b { a with defers := mark ++ a.defers } := by
    rcases hF.round with ⟨h1, h2⟩ | ⟨l, h1, h2, h3⟩
    · simp only [bookFor, h1, Option.some.injEq] at hbk
      subst hbk
      obtain ⟨k1, k2⟩ := h.new (.adefs true) (.deferred (some [])) ⟨w.heap.size, 0, 0⟩ rfl .adefs
      refine ⟨_, _, w.heap.size, [{ target := .collected w.heap.size, args := #[] }], by rw [h2]; simp [Instr.enterLoop]; rfl, k1, k2, extEmb_dom, by rw [extEmb_self], ?_⟩
      have hm := hF.mono k2.ids
      refine ⟨hm.tmps, hm.fn, hm.kind, .inl ⟨h1, h2⟩, ?_, ?_⟩
      · simp only [List.map_cons, extEmb_self, List.singleton_append]
        rw [hm.defs]
      · intro d hd
        rcases List.mem_cons.1 hd with rfl | hd
        · exact extEmb_dom
        · exact hm.defdom d hd
    · simp only [bookFor, h1, Option.map_eq_some_iff] at hbk
      obtain ⟨rl, hrl, rfl⟩ := hbk
      obtain ⟨_, rc, hrc, _, _, _, _, _, _, _, h8, h9⟩ := h.loopAt hrl
      refine ⟨w, φ, (φ rl.defers).block, [], by rw [h3]; simp [Instr.enterLoop, run_getLoop hrc, h8], h, Later.refl _ _ _, h9, rfl, ?_⟩
      exact ⟨hF.tmps, hF.fn, hF.kind, .inr ⟨l, h1, h2, h3⟩, hF.defs, hF.defdom⟩
  -- the record of the loop
  obtain ⟨k1, k2⟩ := hB1.new (ALoop.obj ⟨.ready, none, F.fn, F.tmps, ps.toList, as, bd, bk.d⟩) (.loop { state := .ready, pending := none, fn := b.fn, tmps := a.tmps, params := ps, assign := as, body := bd, defers := dblk }) ⟨w1.heap.size, 0, 0⟩ rfl
    (.aloop rfl rfl hF.fn (hB2.f hF.tmps) rfl rfl rfl hB4 hB3)
  generalize hφ2 : extEmb φ1 bk.H.next ⟨w1.heap.size, 0, 0⟩ = φ2 at k1 k2
  have hφl : (φ2 bk.H.next).block = w1.heap.size := by rw [← hφ2, extEmb_self]
  have hφd : φ2.dom bk.H.next := by rw [← hφ2]; exact extEmb_dom
  have hle2 : φ.le φ2 := hB2.ids.trans k2.ids
  -- the call
  have hargs : LRel φ2 (v.first ++ (Value.func (.yield bk.H.next) #[] #[] :: v.cap)) (a1 ++ #[Value.func (.yield w1.heap.size) #[] #[]] ++ b1).toList := by
    simp only [Array.toList_append, List.append_assoc, List.singleton_append]
    refine (LRel.mono hle2 hla).append (.cons ?_ (LRel.mono hle2 hlb))
    have := FnRel.yield (φ := φ2) bk.H.next hφd
    rw [hφl] at this
    exact VRel.fn this rfl rfl (by simp) (by simp)
  obtain ⟨⟨fn, hfnn, hbody⟩, hcall⟩ := g.call gf _ _ p hp
  obtain ⟨fr, v', w3, φ3, s1, hfn3, hleave, q1, q2, q3⟩ := hcall φ2 _ _ hargs k1 (b.atR { a with defers := mark ++ a.defers } (.inRangeFunc w1.heap.size :: k) :: cs)
  -- the end
  simp only [rangeEnd, Option.bind_eq_some_iff, bif_none_some, Option.map_eq_some_iff] at e
  obtain ⟨rl, hrl, hbusy, ex, hex, rfl⟩ := e
  obtain ⟨hdl, rc, hrc, hst, hpd, _⟩ := q1.loopAt hrl
  have hloc3 : (φ3 bk.H.next).block = w1.heap.size := by rw [q2.ids.loc _ hφd, hφl]
  obtain ⟨t1, t2⟩ := q1.setLoop hrl hrc .exhausted rl.pending
  have hAF := ((hB5.mono k2.ids).mono q2.ids).mono t2.ids
  refine ⟨{ a with defers := mark ++ a.defers }, _, φ3, ?_, t1, hB2.trans (k2.trans (q2.trans t2)), hAF⟩
  have hres : ∀ W : World, (resolve a.eval (rangeCall f w1.heap.size) 0).run E.P W = .ok { target := .fn (.func gf) b1, args := a1 ++ #[.func (.yield w1.heap.size) #[] #[]] } W := by
    intro W
    have em : Array.map a.eval #[Operand.const (Value.func (.yield w1.heap.size) #[] #[])] = #[Value.func (.yield w1.heap.size) #[] #[]] := by simp [Act.eval]
    simp only [resolve, hfe, Deferred.ofValue, em]
    rfl
  have hinv : ∀ W : World, (invoke (.fn (.func gf) b1) (a1 ++ #[Value.func (.yield w1.heap.size) #[] #[]])).run E.P W = .ok (.enter gf (a1 ++ #[Value.func (.yield w1.heap.size) #[] #[]] ++ b1)) W := by
    intro W
    simp only [invoke]
    exact run_callFunc g.names hfnn hbody
  have st1 := stepR_rangeFunc (P := E.P) (b := b) (a := a) (k := k) (cs := cs) (w := w) hB (hres _) (hinv _)
  have st2 : Steps E.P (lone fr (b.atR { a with defers := mark ++ a.defers } (.inRangeFunc w1.heap.size :: k) :: cs) w3) (lone (b.atR { a with defers := mark ++ a.defers } (.endRangeFunc w1.heap.size :: k)) cs w3) := by
    rw [← finish_atR_inRangeFunc w1.heap.size v']
    exact .one (step_leave_returned hleave)
  have hend : (Instr.endLoop w1.heap.size).run E.P w3 = .ok rl.pending (World.put w3 (φ3 bk.H.next).block (.loop { rc with state := .exhausted, pending := rl.pending })) := by
    rw [hloc3] at hrc ⊢
    have hb : (rc.state == LoopState.busy) = false := by
      rw [hst]; revert hbusy; cases rl.state <;> simp [isBusy]
    simp only [Instr.endLoop, Sem.run_bind, run_getLoop hrc, Result.andThen_ok, hb, Bool.false_eq_true, if_false, run_setObj_loop hrc, Sem.run_pure, ← hpd]
  have st3 := stepR_endRangeFunc (P := E.P) (b := b) (a := { a with defers := mark ++ a.defers }) (k := k) (cs := cs) hend
  have all := Steps.head st1 (s1.trans (st2.trans (.one st3)))
  cases hpend : rl.pending with
  | none =>
    rw [hpend] at hex all
    simp only [ofCode, Option.some.injEq] at hex
    subst hex
    simpa [Ends, hpend] using all
  | some c =>
    rw [hpend] at hex all
    cases c <;> simp only [ofCode, Option.some.injEq, reduceCtorEq] at hex
    · subst hex
      exact ⟨k, rfl, by simpa [hpend] using all⟩
    · subst hex
      exact ⟨k, by simpa [hpend] using all⟩

/-- One statement more. -/
theorem codeA_sound (g : Good E G call yi) (ih : RecOK E.P G again) : RecOK E.P G fun c F H => codeA E call yi again F H c := by
  intro c F H o e φ w b a hF h k cs m hm
  have m0 : (∀ c', c ≠ .loop c') → m = lone (b.atR a (.code c :: k)) cs w := by
    intro hne
    rcases hm with rfl | ⟨c', rfl, _⟩
    · rfl
    · exact absurd rfl (hne c')
  cases c <;> simp only [codeA, Option.some.injEq, reduceCtorEq] at e
  case skip =>
    subst e
    rw [m0 (by simp)]
    exact ⟨a, w, φ, .one stepR_skip, h, Later.refl _ _ _, hF⟩
  case label l =>
    subst e
    rw [m0 (by simp)]
    exact ⟨a, w, φ, .one stepR_label, h, Later.refl _ _ _, hF⟩
  case ret =>
    subst e
    rw [m0 (by simp)]
    exact ⟨a, w, φ, ⟨k, .refl _ _⟩, h, Later.refl _ _ _, hF⟩
  case exit id =>
    subst e
    rw [m0 (by simp)]
    exact ⟨a, w, φ, ⟨k, rfl, .refl _ _⟩, h, Later.refl _ _ _, hF⟩
  case region id ops d =>
    rw [m0 (by simp)]
    simp only [regCode, Option.map_eq_some_iff] at e
    obtain ⟨p, hp, rfl⟩ := e
    obtain ⟨a', w', φ', s1, h1, h2, h3, h4⟩ := region_ok g id ops d b k cs h hF.tmps hp
    exact ⟨a', w', φ', s1, h1, h2, (hF.mono h2.ids).setTmps h3 h4⟩
  case seq c1 c2 =>
    rw [m0 (by simp)]
    simp only [Option.bind_eq_some_iff] at e
    obtain ⟨o1, he, e⟩ := e
    obtain ⟨a1, w1, φ1, s1, h1, h2, h3⟩ := ih c1 F H o1 he φ w b a hF h (.code c2 :: k) cs _ (.inl rfl)
    have s1 := s1.of_steps (.one stepR_seq)
    cases hx : o1.e with
    | normal =>
      simp only [thenA, hx] at e
      rw [hx] at s1
      obtain ⟨a2, w2, φ2, s2, k1, k2, k3⟩ := ih c2 o1.F o1.H o e φ1 w1 b a1 h3 h1 k cs _ (.inl rfl)
      exact ⟨a2, w2, φ2, s2.of_steps s1, k1, h2.trans k2, k3⟩
    | exit id =>
      simp only [thenA, hx, Option.some.injEq] at e
      subst e
      exact ⟨a1, w1, φ1, s1.pass (fun _ => rfl) (by rw [hx]; simp), h1, h2, h3⟩
    | ret =>
      simp only [thenA, hx, Option.some.injEq] at e
      subst e
      exact ⟨a1, w1, φ1, s1.pass (fun _ => rfl) (by rw [hx]; simp), h1, h2, h3⟩
  case cond x c1 c2 =>
    rw [m0 (by simp)]
    simp only [condA, Option.bind_eq_some_iff] at e
    obtain ⟨v, hv, t, ht, e⟩ := e
    obtain rfl := vBool_some ht
    have hev := (aval_sound h hF.tmps (by rw [← g.hG]; exact hv)).bool_inv
    have st := stepR_cond (P := E.P) (b := b) (k := k) (cs := cs) (w := w) (x := c1) (y := c2) hev
    cases t with
    | true =>
      obtain ⟨a1, w1, φ1, s1, h1⟩ := ih c1 F H o e φ w b a hF h k cs _ (.inl rfl)
      exact ⟨a1, w1, φ1, s1.of_steps (.one st), h1⟩
    | false =>
      obtain ⟨a1, w1, φ1, s1, h1⟩ := ih c2 F H o e φ w b a hF h k cs _ (.inl rfl)
      exact ⟨a1, w1, φ1, s1.of_steps (.one st), h1⟩
  case block id c1 =>
    rw [m0 (by simp)]
    simp only [Option.map_eq_some_iff] at e
    obtain ⟨o1, he, rfl⟩ := e
    obtain ⟨a1, w1, φ1, s1, h1, h2, h3⟩ := ih c1 F H o1 he φ w b a hF h (.inBlock id :: k) cs _ (.inl rfl)
    have s1 := s1.of_steps (.one stepR_block)
    cases hx : o1.e with
    | normal =>
      rw [hx] at s1
      have : leaveA id o1 = o1 := by simp [leaveA, hx]
      rw [this]
      exact ⟨a1, w1, φ1, by rw [hx]; exact Steps.trans s1 (.one stepR_inBlock), h1, h2, h3⟩
    | ret =>
      rw [hx] at s1
      have : leaveA id o1 = o1 := by simp [leaveA, hx]
      rw [this]
      exact ⟨a1, w1, φ1, by rw [hx]; exact s1, h1, h2, h3⟩
    | exit id' =>
      rw [hx] at s1
      obtain ⟨k1, hk1, s1⟩ := s1
      by_cases hid : id' = id
      · subst hid
        have : leaveA id' o1 = ⟨.normal, o1.F, o1.H⟩ := by simp [leaveA, hx]
        rw [this]
        refine ⟨a1, w1, φ1, ?_, h1, h2, h3⟩
        refine Steps.trans s1 (.one (stepR_exit ?_))
        rw [hk1]
        simp [exitTo]
      · have : leaveA id o1 = o1 := by simp [leaveA, hx, beq_nat_false.2 hid]
        rw [this]
        refine ⟨a1, w1, φ1, ?_, h1, h2, h3⟩
        rw [hx]
        refine ⟨k1, ?_, s1⟩
        rw [hk1]
        have : ¬ id = id' := fun e => hid e.symm
        simp [exitTo, this]
  case loop c1 =>
    simp only [Option.bind_eq_some_iff] at e
    obtain ⟨o1, he, e⟩ := e
    have st : step E.P m = .next (lone (b.atR a (.code c1 :: .inLoop c1 :: k)) cs w) := by
      rcases hm with rfl | ⟨c', hc, rfl⟩
      · exact stepR_loop
      · cases hc; exact stepR_inLoop
    obtain ⟨a1, w1, φ1, s1, h1, h2, h3⟩ := ih c1 F H o1 he φ w b a hF h (.inLoop c1 :: k) cs _ (.inl rfl)
    have s1 := s1.of_steps (.one st)
    cases hx : o1.e with
    | normal =>
      simp only [thenA, hx] at e
      rw [hx] at s1
      obtain ⟨a2, w2, φ2, s2, k1, k2, k3⟩ := ih (.loop c1) o1.F o1.H o e φ1 w1 b a1 h3 h1 k cs _ (.inr ⟨c1, rfl, rfl⟩)
      exact ⟨a2, w2, φ2, s2.of_steps s1, k1, h2.trans k2, k3⟩
    | exit id =>
      simp only [thenA, hx, Option.some.injEq] at e
      subst e
      exact ⟨a1, w1, φ1, s1.pass (fun _ => rfl) (by rw [hx]; simp), h1, h2, h3⟩
    | ret =>
      simp only [thenA, hx, Option.some.injEq] at e
      subst e
      exact ⟨a1, w1, φ1, s1.pass (fun _ => rfl) (by rw [hx]; simp), h1, h2, h3⟩
  case scope c1 =>
    rw [m0 (by simp)]
    obtain ⟨a1, w1, φ1, s1, h1, h2, h3⟩ := ih c1 F H o e φ w b a hF h (.inScope c1 :: k) cs _ (.inl rfl)
    have s1 := s1.of_steps (.one stepR_scope)
    cases hx : o.e with
    | normal =>
      rw [hx] at s1
      exact ⟨a1, w1, φ1, Steps.trans s1 (.one stepR_inScope), h1, h2, h3⟩
    | exit id => exact ⟨a1, w1, φ1, by have := s1.pass (fun _ => rfl) (by rw [hx]; simp); rwa [hx] at this, h1, h2, h3⟩
    | ret => exact ⟨a1, w1, φ1, by have := s1.pass (fun _ => rfl) (by rw [hx]; simp); rwa [hx] at this, h1, h2, h3⟩
  case rangeFunc f ps as bd =>
    rw [m0 (by simp)]
    exact rangeCode_sound g f ps as bd e hF h k cs
end
end Go.Eng

/- Functions, rounds of loops over functions; the interpreter as a whole. -/
namespace Go.Eng
open Go

theorem putArgs_get : ∀ (args : List Value) (i : Nat) (t : Tr Value) (j : Nat), (putArgs args i t).get j = if i ≤ j ∧ j < i + args.length then args[j - i]? else t.get j
  | [], i, t, j => by
    simp only [putArgs, List.length_nil, Nat.add_zero]
    rw [if_neg (by omega)]
  | v :: r, i, t, j => by
    simp only [putArgs, List.length_cons]
    rw [putArgs_get r (Nat.succ i) _ j, Tr.get_put _ _ _ _ _ (Nat.lt_succ_self i)]
    by_cases h1 : j = i
    · subst h1
      rw [if_neg (by omega), if_pos rfl, if_pos (by omega)]
      simp
    · by_cases h2 : i ≤ j ∧ j < i + (r.length + 1)
      · rw [if_pos (by omega), if_pos h2]
        have : j - i = (j - Nat.succ i) + 1 := by omega
        rw [this]; simp
      · rw [if_neg (by omega), if_neg h1, if_neg h2]

theorem frame0_rel {φ : Emb} {args : List Value} {args' : Array Value} (h : LRel φ args args'.toList) (n : Nat) : FrRel φ (frame0 args n) (args' ++ Array.replicate (n - args'.size) undef) := by
  have hl := h.length
  simp only [Array.length_toList] at hl
  refine ⟨?_, fun i => ?_⟩
  · simp only [frame0, maxN, Array.size_append, Array.size_replicate]
    by_cases hn : args.length ≤ n
    · rw [ble_nat.2 hn]; simp; omega
    · rw [ble_nat_false.2 (by omega)]; simp; omega
  · simp only [frame0, Fr.at, putArgs_get, Nat.zero_le, Nat.zero_add, true_and, Nat.sub_zero]
    by_cases hi : i < args.length
    · rw [if_pos hi]
      obtain ⟨v', h1, h2⟩ := h.get (List.getElem?_eq_getElem hi)
      rw [List.getElem?_eq_getElem hi]
      have : (args' ++ Array.replicate (n - args'.size) undef).getD i undef = v' := by
        have hi' : i < args'.size := by omega
        simp only [Array.getElem?_toList] at h1
        rw [Array.getD_eq_getD_getElem?, Array.getElem?_append, if_pos hi', h1]
        rfl
      rw [this]; exact h2
    · rw [if_neg hi]
      have : (args' ++ Array.replicate (n - args'.size) undef).getD i undef = undef := by
        simp only [Array.getD_eq_getD_getElem?, Array.getElem?_append]
        rw [if_neg (by omega)]
        cases hq : (Array.replicate (n - args'.size) undef)[i - args'.size]? with
        | none => rfl
        | some x =>
          rw [Array.getElem?_replicate] at hq
          split at hq
          · simp at hq; simp [hq]
          · cases hq
      rw [this]
      exact undef_rel

theorem setParams_rel {φ : Emb} : ∀ {ps : List Tmp} {args args' : List Value}, LRel φ args args' → ∀ {F : Fr} {t : Array Value}, FrRel φ F t →
    FrRel φ (setParams (ps.zip args) F) ((ps.zip args').foldl (fun tmps (p : Tmp × Value) => tmps.setIfInBounds p.1 p.2) t)
  | [], _, _, _, F, t, h => by simpa [setParams] using h
  | p :: ps, _, _, .nil, F, t, h => by simpa [setParams] using h
  | p :: ps, _, _, .cons hv hl, F, t, h => by
    simp only [List.zip_cons_cons, setParams, List.foldl_cons]
    exact setParams_rel hl (h.set hv p)

/-! ### leaving a function -/
theorem step_takeDeferred {P : Program} {fr : Frame} {cs : List Frame} {w : World} {blk : Nat} {ds : List Deferred} (hm : fr.mode = .returning) (hd : fr.defers = { target := .collected blk, args := #[] } :: ds)
    (hb : w.heap[blk]? = some (.deferred (some []))) : step P (lone fr cs w) = .next (lone { fr with defers := ds } cs (World.put w blk (.deferred none))) := by
  have ht : (Instr.takeDeferred blk).run P w = .ok [] (World.put w blk (.deferred none)) := by
    simp [Instr.takeDeferred, getObj, setObj, Sem.run, hb, World.put]
  exact step_lone_go (by simp [stepG, unwind, hm, hd, Sem.runT_eq, ht])

theorem closeDefs_sound {P : Program} {G : Nat} : ∀ {ds : List Nat} {H H' : AHeap}, closeDefs ds H = some H' → ∀ {φ : Emb} {w : World} (fr : Frame) (cs : List Frame), HRel G φ H w → fr.mode = .returning →
    fr.defers = ds.map (fun d => ({ target := .collected (φ d).block, args := #[] } : Deferred)) →
    ∃ w', Steps P (lone fr cs w) (lone { fr with defers := [] } cs w') ∧ HRel G φ H' w' ∧ Later φ H w φ H' w'
  | [], H, H', e, φ, w, fr, cs, h, hm, hd => by
    simp only [closeDefs, Option.some.injEq] at e
    subst e
    simp only [List.map_nil] at hd
    have : { fr with defers := [] } = fr := by cases fr; simp_all
    exact ⟨w, by rw [this]; exact .refl _ _, h, Later.refl _ _ _⟩
  | d :: ds, H, H', e, φ, w, fr, cs, h, hm, hd => by
    simp only [closeDefs, Option.bind_eq_some_iff, bif_some] at e
    obtain ⟨o, ho, hopen, e⟩ := e
    have ho' : o = .adefs true := by cases o <;> simp_all [dOpen]
    subst ho'
    obtain ⟨hdd, ob, hob, hr⟩ := h.obj d _ ho
    cases hr with
    | adefs =>
    have hob : w.heap[(φ d).block]? = some (.deferred (some [])) := by simpa using hob
    obtain ⟨h1, h2⟩ := h.upd ho rfl (.adefs false) (.deferred none) .adefs (.inr trivial)
    have s1 := step_takeDeferred (P := P) (cs := cs) hm (by simpa using hd) hob
    obtain ⟨w', s2, k1, k2⟩ := closeDefs_sound (P := P) e { fr with defers := ds.map (fun d => ({ target := .collected (φ d).block, args := #[] } : Deferred)) } cs h1 hm rfl
    exact ⟨w', .head s1 s2, k1, h2.trans k2⟩

/-- One result variable, read. -/
def readRes (tmps : Array Value) : ResultVar → Sem Value
  | .tmp t => pure (tmps.getD t undef)
  | .cell a t => do loadVar t (← asAddr (tmps.getD a undef))
theorem results_eq (fn : Func) (tmps : Array Value) : results fn tmps = (do
    let vs ← fn.results.mapM (readRes tmps)
    pure (if h : vs.size = 1 then vs[0] else .tuple vs)) := by
  have : (fun (x : ResultVar) => match x with
    | .tmp t => (pure (tmps.getD t undef) : Sem Value)
    | .cell a t => do loadVar t (← asAddr (tmps.getD a undef))) = readRes tmps := by
    funext x; cases x <;> rfl
  unfold results
  rw [← this]
  rfl
theorem resultA_sound {P : Program} {G : Nat} {φ : Emb} {H : AHeap} {w : World} (h : HRel G φ H w) {F : Fr} {tmps : Array Value} (hF : FrRel φ F tmps) {x : ResultVar} {v : Value} (e : resultA P F H x = some v) :
    ∃ v', (readRes tmps x).run P w = .ok v' w ∧ VRel φ v v' := by
  cases x with
  | tmp t =>
    simp only [resultA, Option.some.injEq] at e
    subst e
    exact ⟨_, rfl, hF.2 t⟩
  | cell a t =>
    simp only [resultA] at e
    have ha := hF.2 a
    obtain ⟨v', h1, h2⟩ := loadA_sound (P := P) h ha e
    refine ⟨v', ?_, h2⟩
    simp only [loadA, Option.bind_eq_some_iff] at e
    obtain ⟨p, hp, _⟩ := e
    obtain ⟨_, _, h4⟩ := ha.addr hp
    rw [h4] at h1
    simp only [readRes, h4]
    simpa [Instr.loadAt, Instr.sureAddr, asAddr] using h1

theorem resultsA_sound {P : Program} {G : Nat} {φ : Emb} {H : AHeap} {w : World} (h : HRel G φ H w) {F : Fr} {tmps : Array Value} (hF : FrRel φ F tmps) : ∀ {xs : List ResultVar} {vs : List Value}, resultsA P F H xs = some vs →
    ∃ vs', (xs.mapM (readRes tmps)).run P w = .ok vs' w ∧ LRel φ vs vs'
  | [], vs, e => by simp only [resultsA, Option.some.injEq] at e; subst e; exact ⟨[], by simp, .nil⟩
  | x :: xs, vs, e => by
    simp only [resultsA, Option.bind_eq_some_iff, Option.map_eq_some_iff] at e
    obtain ⟨v, hv, r, hr, rfl⟩ := e
    obtain ⟨v', h1, h2⟩ := resultA_sound (P := P) h hF hv
    obtain ⟨r', h3, h4⟩ := resultsA_sound h hF hr
    refine ⟨v' :: r', ?_, .cons h2 h4⟩
    rw [List.mapM_cons]
    simp only [Sem.run_bind, h1, Result.andThen_ok, h3, Sem.run_pure]

theorem results_sound {P : Program} {G : Nat} {φ : Emb} {H : AHeap} {w : World} (h : HRel G φ H w) {F : Fr} {tmps : Array Value} (hF : FrRel φ F tmps) (fn : Func) {vs : List Value} (e : resultsA P F H fn.results.toList = some vs) :
    ∃ v', (results fn tmps).run P w = .ok v' w ∧ VRel φ (pack vs) v' := by
  obtain ⟨vs', h1, h2⟩ := resultsA_sound h hF e
  have hl := h2.length
  refine ⟨if h : vs'.toArray.size = 1 then vs'.toArray[0] else .tuple vs'.toArray, ?_, ?_⟩
  · rw [results_eq, Array.mapM_eq_mapM_toList]
    simp only [Sem.run_bind, Sem.run_map, h1, Result.andThen_ok]
    rfl
  · match vs, vs', h2 with
    | [], [], _ => exact .tupleL .nil
    | [v], [v'], .cons hv .nil => exact hv
    | v1 :: v2 :: r, v1' :: v2' :: r', hr =>
      have : ¬ ((v1' :: v2' :: r').toArray.size = 1) := by simp
      rw [dif_neg this]
      exact .tupleL (by simpa using hr)

section
variable {E : Env} {G : Nat} {again : Rec}

theorem funcA0_sound (ih : RecOK E.P G again) : CallOK E.P G (funcA0 E again) := by
  intro f args H r e
  simp only [funcA0, Option.bind_eq_some_iff] at e
  obtain ⟨fn, hfn, c, hc, e⟩ := e
  refine ⟨⟨fn, hfn, by rw [hc]; rfl⟩, ?_⟩
  intro φ w args' hargs h cs
  simp only [funcBody, Option.bind_eq_some_iff] at e
  obtain ⟨o, ho, e⟩ := e
  simp only [funcEnd, bif_none_some, Option.bind_eq_some_iff, Option.map_eq_some_iff] at e
  obtain ⟨hex, H2, hcl, vs, hvs, rfl⟩ := e
  let b : Frame := { (default : Frame) with fn := f, kind := .normal, roundOf := none }
  have henter : Frame.enter E.P f args' .normal = b.atR ⟨args' ++ Array.replicate (fn.ntmps - args'.size) undef, []⟩ [.code c] := by
    simp [Frame.enter, hfn, hc, Frame.atR, b]
  have hF : AFRel φ ⟨f, frame0 args fn.ntmps, [], none⟩ b ⟨args' ++ Array.replicate (fn.ntmps - args'.size) undef, []⟩ :=
    ⟨frame0_rel hargs _, rfl, rfl, .inl ⟨rfl, rfl⟩, rfl, fun d hd => by simp at hd⟩
  obtain ⟨a1, w1, φ1, s1, h1, h2, h3⟩ := ih c _ H o ho φ w b _ hF h [] cs _ (.inl rfl)
  rw [← henter] at s1
  have hb : b.roundOf = none := rfl
  obtain ⟨k1, s2⟩ : ∃ k1, Steps E.P (lone (Frame.enter E.P f args' .normal) cs w) (lone { b.atR a1 k1 with mode := .returning } cs w1) := by
    cases hx : o.e with
    | normal => rw [hx] at s1; exact ⟨[], Steps.trans s1 (.one (stepR_end hb))⟩
    | ret => rw [hx] at s1; obtain ⟨k1, s1⟩ := s1; exact ⟨_, Steps.trans s1 (.one (stepR_ret hb))⟩
    | exit id => rw [hx] at hex; simp [isExit] at hex
  obtain ⟨w2, s3, k1', k2⟩ := closeDefs_sound (P := E.P) hcl { b.atR a1 k1 with mode := .returning } cs h1 rfl h3.defs
  obtain ⟨v', hv, hvr⟩ := results_sound (P := E.P) k1' (k2.f h3.tmps) fn hvs
  refine ⟨_, v', w2, φ1, s2.trans s3, rfl, ⟨rfl, rfl, rfl, fn, hfn, ?_⟩, k1', h2.trans k2, hvr⟩
  exact hv

theorem yieldA_sound (ih : RecOK E.P G again) : YiOK E.P G (yieldA again) := by
  intro l args H r e φ w args' hargs h hdl
  simp only [yieldA, Option.bind_eq_some_iff, bif_some, beq_nat] at e
  obtain ⟨rl, hrl, hlen, o, ho, e⟩ := e
  obtain ⟨_, rc, hrc, hst, hpd, hfn, htm, hps, has, hbd, hdf, hdd⟩ := h.loopAt hrl
  refine ⟨rc.fn, (rc.params.zip args').foldl (fun tmps (t, a) => tmps.setIfInBounds t a) rc.tmps, rc.assign, rc.body, ?_, ?_⟩
  · have hsz : ¬ (args'.size ≠ rc.params.size) := by
      have h1 := hargs.length
      have h2 := congrArg List.length hps
      simp only [Array.length_toList] at h1 h2
      omega
    simp only [Instr.yield, Sem.run_bind, run_getLoop hrc, Result.andThen_ok, if_neg hsz]
    rfl
  · intro c cs
    simp only [roundBody, roundBody.thenOnly] at e
    let b : Frame := { (default : Frame) with fn := rc.fn, kind := .normal, roundOf := some (φ l).block }
    let a0 : Act := ⟨(rc.params.zip args').foldl (fun tmps (t, a) => tmps.setIfInBounds t a) rc.tmps, []⟩
    have hb0 : Frame.round (φ l).block rc.fn ((rc.params.zip args').foldl (fun tmps (t, a) => tmps.setIfInBounds t a) rc.tmps) rc.assign rc.body .normal = b.atR a0 [.code rc.assign, .beginRound, .code rc.body] := by
      simp [Frame.round, Frame.atR, b, a0]
    have htmps : FrRel φ (setParams (rl.params.zip args) rl.tmps) a0.tmps := by
      have := setParams_rel (ps := rl.params) hargs htm
      rw [← hps] at this
      have e1 : a0.tmps = (rc.params.toList.zip args'.toList).foldl (fun tmps (p : Tmp × Value) => tmps.setIfInBounds p.1 p.2) rc.tmps := by
        simp only [a0]
        rw [← Array.foldl_toList, Array.toList_zip]
      rw [e1]; rw [← hps]; exact this
    have hF : AFRel φ ⟨rl.fn, setParams (rl.params.zip args) rl.tmps, [], some l⟩ b a0 :=
      ⟨htmps, hfn, rfl, .inr ⟨l, rfl, hdl, rfl⟩, rfl, fun d hd => by simp at hd⟩
    rw [← has] at ho
    obtain ⟨a1, w1, φ1, s1, h1, h2, h3⟩ := ih rc.assign _ H o ho φ w b a0 hF h [.beginRound, .code rc.body] (c :: cs) _ (.inl rfl)
    have hnorm : o.e = .normal := by
      cases hx : o.e <;> rw [hx] at e <;> simp at e ⊢
    rw [hnorm] at s1 e
    simp only [Option.bind_eq_some_iff, bif_some] at e
    obtain ⟨rl1, hrl1, hready, o2, ho2, e⟩ := e
    obtain ⟨_, rc1, hrc1, hst1, _⟩ := h1.loopAt hrl1
    obtain ⟨t1, t2⟩ := h1.setLoop hrl1 hrc1 .busy rl1.pending
    have hl1 : (φ1 l).block = (φ l).block := by rw [h2.ids.loc l hdl]
    have hpd1 : rc1.pending = rl1.pending := by
      obtain ⟨_, rc1', hrc1', _, hp, _⟩ := h1.loopAt hrl1
      rw [hrc1] at hrc1'; cases hrc1'; exact hp
    have hbegin : (Instr.beginRound (φ l).block).run E.P w1 = .ok () (World.put w1 (φ1 l).block (.loop { rc1 with state := .busy, pending := rl1.pending })) := by
      rw [hl1] at hrc1 ⊢
      have hrd : rc1.state = .ready := by
        rw [hst1]; revert hready; cases rl1.state <;> simp [isReady]
      simp only [Instr.beginRound, Sem.run_bind, run_getLoop hrc1, Result.andThen_ok, run_setObj_loop hrc1, hrd, ← hpd1]
      rfl
    have s2 := stepR_beginRound (P := E.P) (b := b) (a := a1) (k := [.code rc.body]) (cs := c :: cs) (l := (φ l).block) rfl hbegin
    rw [← hbd] at ho2
    obtain ⟨a2, w2, φ2, s3, k1, k2, k3⟩ := ih rc.body o.F _ o2 ho2 φ1 _ b a1 (h3.mono t2.ids) t1 [] (c :: cs) _ (.inl rfl)
    simp only [roundEnd, bif_some, Option.map_eq_some_iff] at e
    obtain ⟨_, rl2, hrl2, rfl⟩ := e
    obtain ⟨_, rc2, hrc2, _⟩ := k1.loopAt hrl2
    obtain ⟨u1, u2⟩ := k1.setLoop hrl2 hrc2 (bif isNone (asCode o2.e) then .ready else .done) (asCode o2.e)
    have hl2 : (φ2 l).block = (φ l).block := by rw [k2.ids.loc l (h2.ids.dom l hdl), hl1]
    have hendR : ∀ jump : Option Code, jump = asCode o2.e → (Instr.endRound (φ l).block jump).run E.P w2 = .ok (.bool (isNone (asCode o2.e))) (World.put w2 (φ2 l).block (.loop { rc2 with state := bif isNone (asCode o2.e) then .ready else .done, pending := asCode o2.e })) := by
      rintro jump rfl
      rw [hl2] at hrc2 ⊢
      have hn : (asCode o2.e).isNone = isNone (asCode o2.e) := by cases asCode o2.e <;> rfl
      simp only [Instr.endRound, Sem.run_bind, run_getLoop hrc2, Result.andThen_ok, run_setObj_loop hrc2, Sem.run_pure, hn, cond_eq_ite]
    have s1' : Steps E.P _ _ := s1
    rw [← hb0] at s1'
    have pre := s1'.trans (.one s2)
    refine ⟨.bool (isNone (asCode o2.e)), _, φ2, ?_, u1, h2.trans (t2.trans (k2.trans u2)), .base rfl⟩
    refine pre.trans ?_
    cases hx : o2.e with
    | normal =>
      rw [hx] at s3
      have := hendR none (by rw [hx]; rfl)
      rw [hx] at this
      exact Steps.trans s3 (.one (stepR_round_end (b := b) rfl rfl this))
    | ret =>
      rw [hx] at s3
      obtain ⟨k1', s3⟩ := s3
      have := hendR (some .ret) (by rw [hx]; rfl)
      rw [hx] at this
      exact Steps.trans s3 (.one (stepR_round_ret (b := b) rfl rfl this))
    | exit id =>
      rw [hx] at s3
      obtain ⟨k1', hk, s3⟩ := s3
      have := hendR (some (.exit id)) (by rw [hx]; rfl)
      rw [hx] at this
      exact Steps.trans s3 (.one (stepR_round_exit (b := b) rfl rfl (by rw [hk]; rfl) this))

/-- The answers that are known are true. -/
def SumOK (P : Program) (G : Nat) (s : FuncId → Option Value) : Prop := ∀ f v, s f = some v → CallOK P G (fun g args H => bif Nat.beq g f && args.isEmpty then some (v, H) else none)
theorem funcA_sound (hs : SumOK E.P G E.sum) (ih : RecOK E.P G again) : CallOK E.P G (funcA E again) := by
  intro f args H r e
  unfold funcA at e
  cases hv : E.sum f with
  | none => rw [hv] at e; exact funcA0_sound ih f args H r e
  | some v =>
    rw [hv] at e
    exact hs f v hv f args H r (by simpa using e)
/-- What is asked of the program and of the functions that the model answers itself. -/
structure Okay (E : Env) (G : Nat) : Prop where
  ext : ExtOK E.P E.ext
  names : NoCount E.P
  mixed : E.P.follows .mixedOrders = true
  hG : E.G = G
  sum : SumOK E.P G E.sum

theorem run_ok (h : Okay E G) : ∀ n, RecOK E.P G (run E n)
  | 0 => fun c F H o e => by simp [run] at e
  | n + 1 => by
    have ih := run_ok h n
    exact codeA_sound ⟨funcA_sound h.sum ih, yieldA_sound ih, h.ext, h.names, h.mixed, h.hG⟩ ih

/-- **The interpreter tells the truth.** -/
theorem callA_ok (h : Okay E G) (n : Nat) : CallOK E.P G (callA E n) := funcA_sound h.sum (run_ok h n)
end
end Go.Eng

/- What the model answers itself. -/
namespace Go.Eng
open Go

/-! ### the rows -/
theorem find_count {fn : Func} (h : fn.name = "internal/bytealg.CountString") : Extern.find fn = some Extern.BytealgCount.count := by
  have h1 : Extern.allGenericRows.lookup "internal/bytealg.CountString" = none := by kernel_rfl
  have h2 : Extern.allTypedRows.lookup "internal/bytealg.CountString" = none := by kernel_rfl
  have h3 : Extern.allRows.lookup "internal/bytealg.CountString" = some Extern.BytealgCount.count := by kernel_rfl
  simp only [Extern.find, h, h1, h2, h3]; rfl
theorem find_index {fn : Func} (h : fn.name = "internal/bytealg.IndexByteString") : Extern.find fn = some Extern.BytealgIndexByte.indexByte := by
  have h1 : Extern.allGenericRows.lookup "internal/bytealg.IndexByteString" = none := by kernel_rfl
  have h2 : Extern.allTypedRows.lookup "internal/bytealg.IndexByteString" = none := by kernel_rfl
  have h3 : Extern.allRows.lookup "internal/bytealg.IndexByteString" = some Extern.BytealgIndexByte.indexByte := by kernel_rfl
  simp only [Extern.find, h, h1, h2, h3]; rfl
theorem find_noesc {fn : Func} (h : fn.name = "internal/abi.NoEscape") : Extern.find fn = some Extern.AbiNoEscape.same := by
  have h1 : Extern.allGenericRows.lookup "internal/abi.NoEscape" = none := by kernel_rfl
  have h2 : Extern.allTypedRows.lookup "internal/abi.NoEscape" = none := by kernel_rfl
  have h3 : Extern.allRows.lookup "internal/abi.NoEscape" = some Extern.AbiNoEscape.same := by kernel_rfl
  simp only [Extern.find, h, h1, h2, h3]; rfl
theorem find_make {fn : Func} (h : fn.name = "internal/bytealg.MakeNoZero") : Extern.find fn = some (Extern.BytealgMakeNoZero.makeNoZero fn.params fn.resultTypes) := by
  have h1 : Extern.allGenericRows.lookup "internal/bytealg.MakeNoZero" = none := by kernel_rfl
  have h2 : Extern.allTypedRows.lookup "internal/bytealg.MakeNoZero" = some Extern.BytealgMakeNoZero.makeNoZero := by kernel_rfl
  simp only [Extern.find, h, h1, h2]; rfl
theorem next_none {fn : Func} (ho : fn.origin = "") (h : fn.name = "internal/bytealg.CountString" ∨ fn.name = "internal/bytealg.IndexByteString" ∨ fn.name = "internal/abi.NoEscape" ∨ fn.name = "internal/bytealg.MakeNoZero") : Extern.findNext fn = none := by
  have h0 : Extern.allNextRows.lookup "" = none := by kernel_rfl
  have h1 : Extern.allNextRows.lookup "internal/bytealg.CountString" = none := by kernel_rfl
  have h2 : Extern.allNextRows.lookup "internal/bytealg.IndexByteString" = none := by kernel_rfl
  have h3 : Extern.allNextRows.lookup "internal/abi.NoEscape" = none := by kernel_rfl
  have h4 : Extern.allNextRows.lookup "internal/bytealg.MakeNoZero" = none := by kernel_rfl
  rcases h with h | h | h | h <;> simp only [Extern.findNext, h, ho, h0, h1, h2, h3, h4] <;> rfl

section
variable {P : Program} {w : World} {φ : Emb} {G : Nat} {H : AHeap}

theorem run_callExt {f : FuncId} {fn : Func} {args : Array Value} {e : Array Value → Sem Value} (hf : P.funcs[f]? = some fn) (hn : fn.name ≠ "runtime.NumGoroutine") (hb : fn.body = none) (hx : Extern.findNext fn = none) (he : Extern.find fn = some e) :
    (callFunc f args).run P w = (do pure (.value (← e args)) : Sem Next).run P w := by
  simp [callFunc, hf, hn, hb, hx, he, mark, Sem.run]

/-! ### the four -/
theorem loop_eq {β : Type} (f : β → UInt8 → β) (s : ByteArray) : ∀ (i j : Nat) (b : β), j + i ≥ s.size → ∀ (h : s.size ≤ s.size), 
   ByteArray.foldlM.loop (m := _root_.Id) f s s.size h i j b = ((s.data.toList.drop j).foldl f b) := by
  intro i
  induction i with
  | zero =>
    intro j b hj h
    have hn : List.drop j s.data.toList = [] := List.drop_eq_nil_of_le (by show s.size ≤ j; omega)
    unfold ByteArray.foldlM.loop
    rw [hn]
    simp; rfl
  | succ i ih =>
    intro j b hj h
    unfold ByteArray.foldlM.loop
    by_cases hlt : j < s.size
    · simp only [hlt, dif_pos]
      have hd : List.drop j s.data.toList = s.data.toList[j]'hlt :: List.drop (j+1) s.data.toList := List.drop_eq_getElem_cons hlt
      rw [hd]
      simp only [List.foldl_cons]
      exact ih (j+1) _ (by omega) h
    · have hn : List.drop j s.data.toList = [] := List.drop_eq_nil_of_le (by show s.size ≤ j; omega)
      rw [hn]
      simp [hlt]; rfl
theorem ba_foldl {β : Type} (f : β → UInt8 → β) (s : ByteArray) (b : β) : s.foldl f b = s.data.toList.foldl f b := by
  unfold ByteArray.foldl ByteArray.foldlM
  simp only [Nat.le_refl, dif_pos]
  have := loop_eq f s (s.size - 0) 0 b (by omega) (Nat.le_refl _)
  rw [List.drop_zero] at this
  exact this

theorem idxByte_spec (c : UInt8) (d : List UInt8) : ∀ (l : List UInt8) (i : Nat), d.drop i = l →
    idxByte c.toNat l i = match (List.range' i l.length).find? (fun j => d.getD j 0 == c) with | some j => Int.ofNat j | none => -1
  | [], i, _ => by simp [idxByte]
  | x :: l, i, h => by
    have hx : d.getD i 0 = x := by
      have := congrArg (fun l => l.getD 0 0) h
      simpa [List.getD] using this
    have hr := idxByte_spec c d l (i + 1) (by rw [← List.drop_drop, h]; rfl)
    simp only [idxByte, List.length_cons, List.range'_succ, List.find?_cons, hx]
    by_cases hc : x = c
    · subst hc; simp
    · have h1 : (x == c) = false := by simpa using hc
      have h2 : Nat.beq x.toNat c.toNat = false := beq_nat_false.2 fun e => hc (UInt8.toNat_inj.1 e)
      rw [h1, h2]
      simpa using hr
theorem cntByte_spec (c : UInt8) : ∀ (l : List UInt8) (k : Int), l.foldl (fun n x => if x == c then n + 1 else n) k = k + cntByte c.toNat l
  | [], k => by simp [cntByte]
  | x :: l, k => by
    simp only [List.foldl_cons, cntByte]
    rw [cntByte_spec c l]
    by_cases hc : x = c
    · subst hc; simp; omega
    · have h1 : (x == c) = false := by simpa using hc
      have h2 : Nat.beq x.toNat c.toNat = false := beq_nat_false.2 fun e => hc (UInt8.toNat_inj.1 e)
      simp [h1, h2]

theorem strByte_some {args : List Value} {p : List UInt8 × Nat} (h : strByte args = some p) : ∃ (s : ByteArray) (c : UInt8), args = [.string s, .int .u8 c.toNat] ∧ p = (bytesL s, c.toNat) := by
  simp only [strByte, Option.bind_eq_some_iff, bif_some, beq_nat, Option.some.injEq] at h
  obtain ⟨x, hx, y, hy, s, hs, c, hc, hl, rfl⟩ := h
  refine ⟨s, c, ?_, rfl⟩
  match args, hl with
  | [a, b], _ =>
    simp at hx hy
    subst hx; subst hy
    rw [vStr_some hs, vByte_some hc]
theorem strByte_rel {s : ByteArray} {c : UInt8} {l : List Value} (h : LRel φ [.string s, .int .u8 c.toNat] l) : l = [.string s, .int .u8 c.toNat] := by
  cases h with
  | cons h1 h2 => cases h2 with
    | cons h3 h4 => cases h4; rw [h1.string_inv, h3.int_inv]

theorem count_sound (h : HRel G φ H w) {args : List Value} {args' : Array Value} {r : Value × AHeap} (ha : LRel φ args args'.toList) (e : extA .count args H = some r) :
    ∃ v' w' φ', (Extern.BytealgCount.count args').run P w = .ok v' w' ∧ HRel G φ' r.2 w' ∧ Later φ H w φ' r.2 w' ∧ VRel φ' r.1 v' := by
  simp only [extA, Option.map_eq_some_iff] at e
  obtain ⟨p, hp, rfl⟩ := e
  obtain ⟨s, c, rfl, rfl⟩ := strByte_some hp
  have hargs : args' = #[.string s, .int .u8 c.toNat] := by apply Array.ext'; exact strByte_rel ha
  refine ⟨goI (cntByte c.toNat (bytesL s)), w, φ, ?_, h, Later.refl _ _ _, .base rfl⟩
  have hc : ((c.toNat : Int).toNat).toUInt8 = c := by simp
  have hf : s.foldl (fun (n : Int) x => if x == c then n + 1 else n) (((0 : Nat) : Int)) = cntByte c.toNat (bytesL s) := by
    have := cntByte_spec c (bytesL s) 0
    simp only [Int.zero_add] at this
    rw [← this]
    exact ba_foldl _ s _
  subst hargs
  have hdef : ∀ b c : Value, Extern.BytealgCount.count #[b, c] = (do
      let b ← Extern.Bytes.bytesOf b
      let c ← Extern.Bytes.asByte c
      pure (goInt (b.foldl (fun n x => if x == c then n + 1 else n) (0 : Nat)))) := fun _ _ => rfl
  rw [hdef]
  simp only [Extern.Bytes.bytesOf, Extern.Bytes.asByte, Sem.run_bind, Sem.run_pure, Result.andThen_ok, hc, hf]
  rfl

theorem index_sound (h : HRel G φ H w) {args : List Value} {args' : Array Value} {r : Value × AHeap} (ha : LRel φ args args'.toList) (e : extA .indexByte args H = some r) :
    ∃ v' w' φ', (Extern.BytealgIndexByte.indexByte args').run P w = .ok v' w' ∧ HRel G φ' r.2 w' ∧ Later φ H w φ' r.2 w' ∧ VRel φ' r.1 v' := by
  simp only [extA, Option.map_eq_some_iff] at e
  obtain ⟨p, hp, rfl⟩ := e
  obtain ⟨s, c, rfl, rfl⟩ := strByte_some hp
  have hargs : args' = #[.string s, .int .u8 c.toNat] := by apply Array.ext'; exact strByte_rel ha
  refine ⟨.int .i64 (idxByte c.toNat (bytesL s) 0), w, φ, ?_, h, Later.refl _ _ _, .base rfl⟩
  have hc : ((c.toNat : Int).toNat).toUInt8 = c := by simp
  have hi := idxByte_spec c (bytesL s) (bytesL s) 0 rfl
  have hr : (List.range s.size).find? (fun i => s[i]! == c) = (List.range' 0 (bytesL s).length).find? (fun j => (bytesL s).getD j 0 == c) := by
    rw [List.range_eq_range']
    have : (bytesL s).length = s.size := rfl
    rw [this]
    congr 1
    funext i
    congr 1
    simp only [List.getD_eq_getElem?_getD]
    by_cases hi : i < s.size
    · rw [getElem!_pos s i hi, List.getElem?_eq_getElem (show i < (bytesL s).length from hi)]
      rfl
    · rw [getElem!_neg s i hi, List.getElem?_eq_none (show (bytesL s).length ≤ i by show s.size ≤ i; omega)]
      rfl
  subst hargs
  have hdef : ∀ b c : Value, Extern.BytealgIndexByte.indexByte #[b, c] = (do
      let b ← Extern.Bytes.bytesOf b
      let c ← Extern.Bytes.asByte c
      match (List.range b.size).find? fun i => b[i]! == c with
      | some i => pure (goInt i)
      | none => pure (goInt (-1))) := fun _ _ => rfl
  rw [hdef]
  simp only [Extern.Bytes.bytesOf, Extern.Bytes.asByte, Sem.run_bind, Sem.run_pure, Result.andThen_ok, hc, hr]
  rw [hi]
  cases (List.range' 0 (bytesL s).length).find? (fun j => (bytesL s).getD j 0 == c) <;> rfl

theorem same_sound (h : HRel G φ H w) {args : List Value} {args' : Array Value} {r : Value × AHeap} (ha : LRel φ args args'.toList) (e : extA .same args H = some r) :
    ∃ v' w' φ', (Extern.AbiNoEscape.same args').run P w = .ok v' w' ∧ HRel G φ' r.2 w' ∧ Later φ H w φ' r.2 w' ∧ VRel φ' r.1 v' := by
  simp only [extA, Option.bind_eq_some_iff, bif_some, beq_nat, Option.some.injEq] at e
  obtain ⟨v, hv, hl, rfl⟩ := e
  obtain ⟨x', rfl, hx⟩ := one_arg ha hv hl
  exact ⟨x', w, φ, rfl, h, Later.refl _ _ _, hx⟩

theorem digits_one : ∀ (n t : Nat) (acc : Array Value), (∀ v ∈ acc.toList, oneC v = true) → ∀ v ∈ (Extern.BytealgMakeNoZero.digits n t acc).toList, oneC v = true
  | 0, _, acc, h => h
  | n + 1, t, acc, h => by
    simp only [Extern.BytealgMakeNoZero.digits]
    refine digits_one n _ _ ?_
    intro v hv
    simp only [Array.toList_push, List.mem_append, List.mem_singleton] at hv
    rcases hv with hv | rfl
    · exact h v hv
    · rfl
theorem digits_size : ∀ (n t : Nat) (acc : Array Value), (Extern.BytealgMakeNoZero.digits n t acc).size = acc.size + n
  | 0, _, acc => rfl
  | n + 1, t, acc => by
    simp only [Extern.BytealgMakeNoZero.digits, digits_size n]
    simp; omega
theorem anys_rel : ∀ {n : Nat} {l : List Value}, l.length = n → (∀ v ∈ l, oneC v = true) → LRel φ (anys n) l
  | 0, [], _, _ => .nil
  | 0, _ :: _, h, _ => by simp at h
  | n + 1, [], h, _ => by simp at h
  | n + 1, v :: l, h, k => .cons (.any (k v List.mem_cons_self)) (anys_rel (by simpa using h) fun u hu => k u (List.mem_cons_of_mem _ hu))
theorem anys_length : ∀ n, (anys n).length = n
  | 0 => rfl
  | n + 1 => by simp [anys, anys_length n]

theorem make_sound (h : HRel G φ H w) {e t : TypeId} {ps : Array TypeId} {args : List Value} {args' : Array Value} {r : Value × AHeap} (ht : P.underlying t = some (.slice e)) (ha : LRel φ args args'.toList) (he : extA (.makeNoZero e) args H = some r) :
    ∃ v' w' φ', (Extern.BytealgMakeNoZero.makeNoZero ps #[t] args').run P w = .ok v' w' ∧ HRel G φ' r.2 w' ∧ Later φ H w φ' r.2 w' ∧ VRel φ' r.1 v' := by
  simp only [extA, extNoZero, Option.bind_eq_some_iff, bif_some, Bool.and_eq_true, beq_nat, ble_nat, Option.some.injEq] at he
  obtain ⟨v, hv, p, hp, n, hn, ⟨⟨hl, hk⟩, h6⟩, rfl⟩ := he
  obtain ⟨x', rfl, hx⟩ := one_arg ha hv hl
  obtain rfl := vInt_some hp
  have h64 := ik_eq hk
  have hpn := iNat_some hn
  rw [h64, hpn] at hx
  obtain rfl := hx.int_inv
  have hdef : Extern.BytealgMakeNoZero.makeNoZero ps #[t] #[.int .i64 n] =
      (do
        let .slice elem ← underlying t | stuck "bytealg.MakeNoZero: slice type expected"
        if (n : Int) < 0 || (n : Int) > 2 ^ 48 then runtimePanic (.error "makeslice: len out of range")
        let cap ← choose (.appendCap (n : Int).toNat 0 elem)
        askRoom cap
        let bytes ← choose (.extern "internal/bytealg.MakeNoZero.bytes" 0)
        let a ← newRow elem (Extern.BytealgMakeNoZero.digits cap bytes #[])
        pure (.slice (some a) (n : Int).toNat cap)) := rfl
  have h1 : ¬ (n : Int) < 0 := by omega
  have h2 : ¬ (281474976710656 : Int) < (n : Int) := by omega
  have hge : n ≤ grownCap w n 0 e := drawnCap_ge w n 0 e
  generalize hD : Extern.BytealgMakeNoZero.digits (grownCap w n 0 e) ((Question.extern "internal/bytealg.MakeNoZero.bytes" 0).cut (w.tape (w.drawn + 1) (.extern "internal/bytealg.MakeNoZero.bytes" 0))) #[] = D
  have hDs : D.size = grownCap w n 0 e := by rw [← hD, digits_size]; simp
  have hD1 : ∀ v ∈ D.toList, oneC v = true := by rw [← hD]; exact digits_one _ _ _ (by simp)
  have hrun : (Extern.BytealgMakeNoZero.makeNoZero ps #[t] #[.int .i64 n]).run P w = .ok (.slice (some ⟨w.heap.size, 0, none⟩) n (grownCap w n 0 e)) { w with heap := w.heap.push (.cells D e), drawn := w.drawn + 2 } := by
    rw [hdef, ← hD]
    simp [run_underlying ht, h1, h2, Question.forced, newRow, grownCap]
    rfl
  have hdr := h.drawn (w.drawn + 2)
  have hro : ORel φ ⟨w.heap.size, 0, D.size⟩ (.cells e false true (anys n)) (.cells D e) := by
    refine .cells rfl (by simp [anys_length]; omega) ?_ (fun _ => rfl) (by simp)
    rw [anys_length, List.drop_zero]
    exact anys_rel (by simp; omega) fun v hv => hD1 v (List.mem_of_mem_take hv)
  obtain ⟨k1, k2⟩ := hdr.1.new (.cells e false true (anys n)) (.cells D e) ⟨w.heap.size, 0, D.size⟩ rfl hro
  refine ⟨_, _, _, hrun, k1, hdr.2.trans k2, ?_⟩
  have := VRel.isl (φ := extEmb φ H.next ⟨w.heap.size, 0, D.size⟩) (i := H.next) (o := 0) (l := n) (c := n) (e := 1) (c' := grownCap w n 0 e) extEmb_dom hge (by
    rw [extEmb_self]; show 0 + 0 + grownCap w n 0 e * 1 ≤ D.size; omega)
  rw [extEmb_self] at this
  exact this
end
end Go.Eng

/- The interpreter over a program: closed runs from no known memory. -/
namespace Go.Eng
open Go

/-- A function that the model answers itself, as the interpreter takes it. -/
def ExtRow (P : Program) (f : FuncId) : Ext → Prop
  | .count => ∃ fn, P.funcs[f]? = some fn ∧ fn.name = "internal/bytealg.CountString" ∧ fn.origin = "" ∧ fn.body = none
  | .indexByte => ∃ fn, P.funcs[f]? = some fn ∧ fn.name = "internal/bytealg.IndexByteString" ∧ fn.origin = "" ∧ fn.body = none
  | .same => ∃ fn, P.funcs[f]? = some fn ∧ fn.name = "internal/abi.NoEscape" ∧ fn.origin = "" ∧ fn.body = none
  | .makeNoZero e => ∃ fn t, P.funcs[f]? = some fn ∧ fn.name = "internal/bytealg.MakeNoZero" ∧ fn.origin = "" ∧ fn.body = none ∧ fn.resultTypes = #[t] ∧ P.underlying t = some (.slice e)

def lookF (l : List (FuncId × Ext)) (f : FuncId) : Option Ext :=
  match l with
  | [] => none
  | p :: r => bif Nat.beq p.1 f then some p.2 else lookF r f
theorem lookF_mem : ∀ {l : List (FuncId × Ext)} {f : FuncId} {e : Ext}, lookF l f = some e → (f, e) ∈ l
  | [], _, _, h => by simp [lookF] at h
  | p :: r, f, e, h => by
    simp only [lookF] at h
    cases hb : Nat.beq p.1 f with
    | true =>
      rw [hb] at h
      simp only [cond_true, Option.some.injEq] at h
      rw [beq_nat] at hb
      rw [← hb, ← h]; exact List.mem_cons_self
    | false =>
      rw [hb] at h
      exact List.mem_cons_of_mem _ (lookF_mem h)

theorem fin_ext {P : Program} {w : World} {φ : Emb} {G : Nat} {H : AHeap} {s : Sem Value} {r : Value × AHeap} {n : Sem Next} (h : ∃ v' w' φ', s.run P w = .ok v' w' ∧ HRel G φ' r.2 w' ∧ Later φ H w φ' r.2 w' ∧ VRel φ' r.1 v')
    (hn : n.run P w = (do pure (.value (← s)) : Sem Next).run P w) : ∃ v' w' φ', n.run P w = .ok (.value v') w' ∧ HRel G φ' r.2 w' ∧ Later φ H w φ' r.2 w' ∧ VRel φ' r.1 v' := by
  obtain ⟨v', w', φ', h1, h2⟩ := h
  exact ⟨v', w', φ', by rw [hn]; simp [h1], h2⟩

theorem extOK_of {P : Program} {l : List (FuncId × Ext)} (h : ∀ p ∈ l, ExtRow P p.1 p.2) : ExtOK P (lookF l) := by
  intro f e he args H r hr G φ w args' ha hH
  have hrow := h _ (lookF_mem he)
  have nm : ∀ {s : String}, s ≠ "runtime.NumGoroutine" → ∀ {fn : Func}, fn.name = s → fn.name ≠ "runtime.NumGoroutine" := fun hs _ hn => hn ▸ hs
  cases e with
  | count =>
    obtain ⟨fn, hf, hn, ho, hb⟩ := hrow
    exact fin_ext (count_sound hH ha hr) (run_callExt hf (nm (by decide) hn) hb (next_none ho (.inl hn)) (find_count hn))
  | indexByte =>
    obtain ⟨fn, hf, hn, ho, hb⟩ := hrow
    exact fin_ext (index_sound hH ha hr) (run_callExt hf (nm (by decide) hn) hb (next_none ho (.inr (.inl hn))) (find_index hn))
  | same =>
    obtain ⟨fn, hf, hn, ho, hb⟩ := hrow
    exact fin_ext (same_sound hH ha hr) (run_callExt hf (nm (by decide) hn) hb (next_none ho (.inr (.inr (.inl hn)))) (find_noesc hn))
  | makeNoZero el =>
    obtain ⟨fn, t, hf, hn, ho, hb, ht, hu⟩ := hrow
    have := find_make hn
    rw [ht] at this
    exact fin_ext (make_sound hH hu ha hr) (run_callExt hf (nm (by decide) hn) hb (next_none ho (.inr (.inr (.inr hn)))) this)

/-- No function with a body bears the one name. -/
def noCount (P : Program) : Bool := P.funcs.toList.all fun fn => fn.body.isNone || !(fn.name == "runtime.NumGoroutine")
theorem noCount_of {P : Program} (h : noCount P = true) : NoCount P := by
  intro f fn hf hb
  unfold noCount at h
  rw [List.all_eq_true] at h
  have hm : fn ∈ P.funcs.toList := by
    have := Array.getElem?_eq_some_iff.1 hf
    obtain ⟨hlt, rfl⟩ := this
    simp
  have := h fn hm
  cases hc : fn.body with
  | none => rw [hc] at hb; cases hb
  | some c => simpa [hc] using this

/-- Nothing is known of the memory, but where the package-level variables lie. -/
def emb0 (G : Nat) : Emb := ⟨fun g => ⟨g, 0, 0⟩, fun g => g < G, fun _ => .nilIface⟩
def heap0 (G : Nat) : AHeap := ⟨G, .lf⟩
theorem rel0 (G : Nat) (w : World) : HRel G (emb0 G) (heap0 G) w :=
  ⟨fun g hg => ⟨hg, rfl, rfl⟩, fun i hi => hi, fun i o hi => by simp [heap0, AHeap.get, Tr.get] at hi, fun i j o p hi => by simp [heap0, AHeap.get, Tr.get] at hi⟩

/-- A closed call answers true. -/
def answersTrue (E : Env) (n : Nat) (f : FuncId) : Bool :=
  match callA E n f [] (heap0 E.G) with
  | some p => (vBool p.1).getD false
  | none => false
theorem answersTrue_ok {E : Env} (h : Okay E E.G) {n : Nat} {f : FuncId} (ha : answersTrue E n f = true) (w : World) :
    Calls E.P f #[] w fun | .returned v, w' => v = .bool true ∧ RowKit.Below w.heap.size w w' | _, _ => False := by
  unfold answersTrue at ha
  split at ha
  · rename_i p hp
    have hv : p.1 = .bool true := by
      cases hb : vBool p.1 with
      | none => rw [hb] at ha; simp at ha
      | some b => rw [hb] at ha; simp at ha; rw [vBool_some hb, ha]
    obtain ⟨_, hc⟩ := callA_ok h n f [] (heap0 E.G) p hp
    intro cs
    obtain ⟨fr, v', w', φ', s1, h1, h2, h3, h4, h5⟩ := hc (emb0 E.G) w #[] .nil (rel0 E.G w) cs
    rw [hv] at h5
    have := h5.bool_inv
    subst this
    refine ⟨.returned (.bool true), w', fr, ⟨rfl, ?_⟩, s1, h1, h2⟩
    exact ⟨h4.os, h4.tape, h4.output, h4.size, fun k hk => h4.same k hk (by rintro ⟨i, o, hi, _⟩; simp [heap0, AHeap.get, Tr.get] at hi)⟩
  · cases ha
/-- The answer of a closed call may be used in any memory. -/
theorem sum_ok {E : Env} (h : Okay E E.G) {n : Nat} {f : FuncId} (ha : answersTrue E n f = true) : CallOK E.P E.G (fun g args H => bif Nat.beq g f && args.isEmpty then some (.bool true, H) else none) := by
  unfold answersTrue at ha
  split at ha
  · rename_i p hp
    have hv : p.1 = .bool true := by
      cases hb : vBool p.1 with
      | none => rw [hb] at ha; simp at ha
      | some b => rw [hb] at ha; simp at ha; rw [vBool_some hb, ha]
    obtain ⟨hfn, hc⟩ := callA_ok h n f [] (heap0 E.G) p hp
    intro g args H r e
    simp only [bif_some, Bool.and_eq_true, beq_nat, List.isEmpty_iff, Option.some.injEq] at e
    obtain ⟨⟨rfl, rfl⟩, rfl⟩ := e
    refine ⟨hfn, fun φ w args' hargs hH cs => ?_⟩
    have hargs0 : LRel (emb0 E.G) [] args'.toList := by
      generalize args'.toList = l at hargs
      cases hargs; exact .nil
    obtain ⟨fr, v', w', φ', s1, h1, h2, h3, h4, h5⟩ := hc (emb0 E.G) w args' hargs0 (rel0 E.G w) cs
    rw [hv] at h5
    have := h5.bool_inv
    subst this
    have hsame : ∀ b, b < w.heap.size → w'.heap[b]? = w.heap[b]? := fun b hb => h4.same b hb (by rintro ⟨i, o, hi, _⟩; simp [heap0, AHeap.get, Tr.get] at hi)
    refine ⟨fr, .bool true, w', φ, s1, h1, h2, ?_, ?_, .base rfl⟩
    · refine ⟨hH.glob, hH.lt, fun i o hi => ?_, hH.inj⟩
      obtain ⟨k1, ob, k2, k3⟩ := hH.obj i o hi
      exact ⟨k1, ob, by rw [hsame _ (Array.getElem?_eq_some_iff.1 k2).1]; exact k2, k3⟩
    · exact ⟨φ.le_refl, Nat.le_refl _, h4.size, fun b hb _ => hsame b hb, fun b hb => .inl hb, fun i hi => .inl hi, fun i o hi => .inl ⟨i, o, hi, rfl⟩, h4.os, h4.tape, h4.output⟩
  · cases ha
end Go.Eng

/- More fuel, the same answer. -/
namespace Go.Eng
open Go

def CLe (c c' : Caller) : Prop := ∀ f a H r, c f a H = some r → c' f a H = some r
def RLe (r r' : Rec) : Prop := ∀ c F H o, r c F H = some o → r' c F H = some o

section
variable {E : Env} {call call' yi yi' : Caller}

theorem opA_mono (hc : CLe call call') (hy : CLe yi yi') {F : Fr} {H : AHeap} {op : Op} {r : Value × AHeap} (e : opA E call yi F H op = some r) : opA E call' yi' F H op = some r := by
  cases op <;> try exact e
  case call c =>
    simp only [opA, callOpA, Option.bind_eq_some_iff] at e ⊢
    obtain ⟨args, ha, e⟩ := e
    refine ⟨args, ha, ?_⟩
    cases hcal : c.callee with
    | builtin b => rw [hcal] at e; exact e
    | invoke x n => rw [hcal] at e; exact e
    | value f =>
      rw [hcal] at e
      simp only [calleeA, Option.bind_eq_some_iff] at e ⊢
      obtain ⟨fv, hfv, v, hv, e⟩ := e
      refine ⟨fv, hfv, v, hv, ?_⟩
      simp only [callVal] at e ⊢
      cases hf : fnFunc v.fn with
      | some f =>
        simp only [hf, callFn] at e ⊢
        cases hx : E.ext f with
        | some x => simp only [hx] at e ⊢; exact e
        | none => simp only [hx] at e ⊢; exact hc _ _ _ _ e
      | none =>
        simp only [hf, Option.bind_eq_some_iff, bif_some] at e ⊢
        obtain ⟨l, hl, h1, e⟩ := e
        exact ⟨l, hl, h1, hy _ _ _ _ e⟩

theorem oneA_mono (hc : CLe call call') (hy : CLe yi yi') {ops : List Oper} {o : Oper} {F : Fr} {H : AHeap} {r : Fr × AHeap} (e : oneA E call yi ops o F H = some r) : oneA E call' yi' ops o F H = some r := by
  simp only [oneA, Option.bind_eq_some_iff] at e ⊢
  obtain ⟨w, hw, e⟩ := e
  refine ⟨w, hw, ?_⟩
  cases w with
  | true =>
    simp only [cond_true, Option.map_eq_some_iff] at e ⊢
    obtain ⟨p, hp, rfl⟩ := e
    exact ⟨p, opA_mono hc hy hp, rfl⟩
  | false => exact e
theorem opsA_mono (hc : CLe call call') (hy : CLe yi yi') {ops : List Oper} : ∀ {l : List Oper} {F : Fr} {H : AHeap} {r : Fr × AHeap}, opsA E call yi ops l F H = some r → opsA E call' yi' ops l F H = some r
  | [], _, _, _, e => e
  | o :: l, F, H, r, e => by
    simp only [opsA, Option.bind_eq_some_iff] at e ⊢
    obtain ⟨p, hp, e⟩ := e
    exact ⟨p, oneA_mono hc hy hp, opsA_mono hc hy e⟩
theorem drawStep_mono (hc : CLe call call') (hy : CLe yi yi') {R : DR} {i : Nat} {s s' : DS} (e : drawStep E call yi R i s = some s') : drawStep E call' yi' R i s = some s' := by
  simp only [drawStep, Option.bind_eq_some_iff, bif_some] at e ⊢
  obtain ⟨o, ho, h1, e⟩ := e
  refine ⟨o, ho, h1, ?_⟩
  cases hh : isHeavy o with
  | false => rw [hh] at e; exact e
  | true =>
    rw [hh] at e
    simp only [cond_true, drawHeavy, bif_some, Option.bind_eq_some_iff] at e ⊢
    obtain ⟨h2, w, hw, e⟩ := e
    refine ⟨h2, w, hw, ?_⟩
    cases w with
    | true =>
      simp only [cond_true, Option.map_eq_some_iff] at e ⊢
      obtain ⟨p, hp, rfl⟩ := e
      exact ⟨p, opA_mono hc hy hp, rfl⟩
    | false => exact e
theorem drawA_mono (hc : CLe call call') (hy : CLe yi yi') {R : DR} : ∀ {l : List Nat} {s s' : DS}, drawA E call yi R l s = some s' → drawA E call' yi' R l s = some s'
  | [], _, _, e => e
  | i :: l, s, s', e => by
    simp only [drawA, Option.bind_eq_some_iff] at e ⊢
    obtain ⟨p, hp, e⟩ := e
    exact ⟨p, drawStep_mono hc hy hp, drawA_mono hc hy e⟩
theorem regionA_mono (hc : CLe call call') (hy : CLe yi yi') {ops : List Oper} {d : Bool} {F : Fr} {H : AHeap} {r : Fr × AHeap} (e : regionA E call yi ops d F H = some r) : regionA E call' yi' ops d F H = some r := by
  cases d with
  | false => exact opsA_mono hc hy e
  | true =>
    simp only [regionA, cond_true, drawR, bif_some, Option.bind_eq_some_iff] at e ⊢
    obtain ⟨h1, s, hs, e⟩ := e
    exact ⟨h1, s, drawA_mono hc hy hs, e⟩

theorem codeA_mono (hc : CLe call call') (hy : CLe yi yi') {again again' : Rec} (hr : RLe again again') {F : AF} {H : AHeap} {c : Code} {o : Out} (e : codeA E call yi again F H c = some o) : codeA E call' yi' again' F H c = some o := by
  have then_ : ∀ {o1 : Out} {k k' : AF → AHeap → Option Out}, (∀ F H r, k F H = some r → k' F H = some r) → thenA o1 k = some o → thenA o1 k' = some o := by
    intro o1 k k' hk h
    simp only [thenA] at h ⊢
    cases hx : o1.e with
    | normal => simp only [hx] at h ⊢; exact hk _ _ _ h
    | exit id => simp only [hx] at h ⊢; exact h
    | ret => simp only [hx] at h ⊢; exact h
  cases c <;> try exact e
  case region id ops d =>
    simp only [codeA, regCode, Option.map_eq_some_iff] at e ⊢
    obtain ⟨p, hp, rfl⟩ := e
    exact ⟨p, regionA_mono hc hy hp, rfl⟩
  case seq a b =>
    simp only [codeA, Option.bind_eq_some_iff] at e ⊢
    obtain ⟨o1, h1, e⟩ := e
    exact ⟨o1, hr _ _ _ _ h1, then_ (fun F H r h => hr _ _ _ _ h) e⟩
  case cond x a b =>
    simp only [codeA, condA, Option.bind_eq_some_iff] at e ⊢
    obtain ⟨v, hv, t, ht, e⟩ := e
    refine ⟨v, hv, t, ht, ?_⟩
    cases t
    · exact hr _ _ _ _ e
    · exact hr _ _ _ _ e
  case block id c =>
    simp only [codeA, Option.map_eq_some_iff] at e ⊢
    obtain ⟨o1, h1, rfl⟩ := e
    exact ⟨o1, hr _ _ _ _ h1, rfl⟩
  case loop b =>
    simp only [codeA, Option.bind_eq_some_iff] at e ⊢
    obtain ⟨o1, h1, e⟩ := e
    exact ⟨o1, hr _ _ _ _ h1, then_ (fun F H r h => hr _ _ _ _ h) e⟩
  case scope b => exact hr _ _ _ _ e
  case rangeFunc f ps a b =>
    simp only [codeA, rangeCode, Option.bind_eq_some_iff] at e ⊢
    obtain ⟨fv, h1, v, h2, bk, h3, e⟩ := e
    refine ⟨fv, h1, v, h2, bk, h3, ?_⟩
    simp only [rangeGo, Option.bind_eq_some_iff, bif_some] at e ⊢
    obtain ⟨g, h4, h5, p, h6, e⟩ := e
    exact ⟨g, h4, h5, p, hc _ _ _ _ h6, e⟩
end

theorem funcA_mono {E : Env} {again again' : Rec} (hr : RLe again again') : CLe (funcA E again) (funcA E again') := by
  intro f args H r e
  unfold funcA at e ⊢
  cases hv : E.sum f with
  | some v => simp only [hv] at e ⊢; exact e
  | none =>
  simp only [hv] at e ⊢
  simp only [funcA0, funcBody, Option.bind_eq_some_iff] at e ⊢
  obtain ⟨fn, h1, c, h2, o, h3, e⟩ := e
  exact ⟨fn, h1, c, h2, o, hr _ _ _ _ h3, e⟩
theorem yieldA_mono {again again' : Rec} (hr : RLe again again') : CLe (yieldA again) (yieldA again') := by
  intro l args H r e
  simp only [yieldA, Option.bind_eq_some_iff, bif_some] at e ⊢
  obtain ⟨rl, h1, h2, o, h3, e⟩ := e
  refine ⟨rl, h1, h2, o, hr _ _ _ _ h3, ?_⟩
  simp only [roundBody, roundBody.thenOnly] at e ⊢
  cases hx : o.e with
  | normal =>
    simp only [hx, Option.bind_eq_some_iff, bif_some] at e ⊢
    obtain ⟨r1, h4, h5, o2, h6, e⟩ := e
    exact ⟨r1, h4, h5, o2, hr _ _ _ _ h6, e⟩
  | exit id => simp only [hx] at e; cases e
  | ret => simp only [hx] at e; cases e

theorem run_step (E : Env) : ∀ n, RLe (run E n) (run E (n + 1))
  | 0 => fun c F H o e => by simp [run] at e
  | n + 1 => fun c F H o e => by
    have ih := run_step E n
    exact codeA_mono (funcA_mono ih) (yieldA_mono ih) ih e
theorem run_le (E : Env) {n m : Nat} (h : n ≤ m) : RLe (run E n) (run E m) := by
  induction h with
  | refl => exact fun _ _ _ _ e => e
  | step _ ih => exact fun c F H o e => run_step E _ c F H o (ih c F H o e)
theorem callA_le (E : Env) {n m : Nat} (h : n ≤ m) : CLe (callA E n) (callA E m) := funcA_mono (run_le E h)

/-- The call answers, with enough fuel. -/
def Ev (E : Env) (f : FuncId) (args : List Value) (H : AHeap) (r : Value × AHeap) : Prop := ∃ n, callA E n f args H = some r
/-- The code ends, with enough fuel. -/
def Go (E : Env) (c : Code) (F : AF) (H : AHeap) (o : Out) : Prop := ∃ n, run E n c F H = some o
end Go.Eng

/- The abstract memory that tells a whole world: every row under its own number. -/
namespace Go.Eng
open Go

def trN {α : Type} (f : Nat → Option α) : Nat → Tr α
  | 0 => .lf
  | k + 1 => (trN f k).put (k + 1) k (f k)
theorem trN_get {α : Type} (f : Nat → Option α) : ∀ (n j : Nat), (trN f n).get j = if j < n then f j else none
  | 0, j => by simp [trN, Tr.get]
  | k + 1, j => by
    simp only [trN]
    rw [Tr.get_put _ _ _ _ _ (Nat.lt_succ_self k), trN_get f k j]
    by_cases h : j = k
    · subst h; simp
    · rw [if_neg h]
      by_cases h2 : j < k
      · rw [if_pos h2, if_pos (by omega)]
      · rw [if_neg h2, if_neg (by omega)]

/-- A value as the interpreter sees it in a world of n blocks. -/
def absA (n : Nat) (a : Addr) : Bool := isNone a.spot && Nat.blt a.block n
def absV (n : Nat) (v : Value) : Value :=
  bif plain v then v else
  match v with
  | .pointer (some a) => bif absA n a then v else ANY
  | .slice (some a) _ _ => bif absA n a then v else ANY
  | .map (some r) => bif Nat.blt r n then v else ANY
  | _ => ANY

def idEmb (w : World) : Emb := ⟨fun i => ⟨i, 0, match w.heap[i]? with | some (.cells C _ _) => C.size | _ => 0⟩, fun i => i < w.heap.size, fun _ => .nilIface⟩

theorem absA_some {n : Nat} {a : Addr} (h : absA n a = true) : a = ⟨a.block, a.off, none⟩ ∧ a.block < n := by
  simp only [absA, Bool.and_eq_true, isNone_true, blt_nat] at h
  refine ⟨?_, h.2⟩
  cases a; simp_all

theorem absV_rel (w : World) {v : Value} (h : oneC v = true) : VRel (idEmb w) (absV w.heap.size v) v := by
  unfold absV
  cases hp : plain v with
  | true => exact .base hp
  | false =>
    simp only [cond_false]
    split
    · rename_i a
      cases ha : absA w.heap.size a with
      | false => exact .any h
      | true =>
        obtain ⟨h1, h2⟩ := absA_some ha
        rw [h1]
        have := VRel.ptr (φ := idEmb w) (i := a.block) (o := a.off) h2
        simpa [idEmb] using this
    · rename_i a l c
      cases ha : absA w.heap.size a with
      | false => exact .any h
      | true =>
        obtain ⟨h1, h2⟩ := absA_some ha
        rw [h1]
        have := VRel.sl (φ := idEmb w) (i := a.block) (o := a.off) (l := l) (c := c) h2
        simpa [idEmb] using this
    · rename_i r
      cases hr : Nat.blt r w.heap.size with
      | false => exact .any h
      | true => exact .map (φ := idEmb w) (blt_nat.1 hr)
    · exact .any h

def absO (n : Nat) : Obj → Option AObj
  | .cells C e fr => bif C.toList.all oneC then some (.cells e (fr == (0, 0)) (fr == (0, 0)) (C.toList.map (absV n))) else none
  | _ => none
def idHeap (w : World) : AHeap := ⟨w.heap.size, trN (fun i => (w.heap[i]?).bind (absO w.heap.size)) w.heap.size⟩
theorem idHeap_get (w : World) (i : Nat) : (idHeap w).get i = (w.heap[i]?).bind (absO w.heap.size) := by
  unfold idHeap AHeap.get
  rw [trN_get]
  by_cases h : i < w.heap.size
  · rw [if_pos h]
  · rw [if_neg h, Array.getElem?_eq_none (by omega)]; rfl

theorem map_abs_rel (w : World) : ∀ {l : List Value}, l.all oneC = true → LRel (idEmb w) (l.map (absV w.heap.size)) l
  | [], _ => .nil
  | v :: l, h => by
    simp only [List.all_cons, Bool.and_eq_true] at h
    exact .cons (absV_rel w h.1) (map_abs_rel w h.2)

theorem idRel (G : Nat) (w : World) (hG : G ≤ w.heap.size) : HRel G (idEmb w) (idHeap w) w := by
  refine ⟨fun g hg => ⟨Nat.lt_of_lt_of_le hg hG, rfl, rfl⟩, fun i hi => hi, ?_, ?_⟩
  · intro i o hi
    rw [idHeap_get, Option.bind_eq_some_iff] at hi
    obtain ⟨ob, hob, ho⟩ := hi
    have hlt := (Array.getElem?_eq_some_iff.1 hob).1
    refine ⟨hlt, ob, hob, ?_⟩
    cases ob <;> simp only [absO, bif_some, Option.some.injEq, reduceCtorEq] at ho
    rename_i C e fr
    obtain ⟨h1, rfl⟩ := ho
    have hsz : ((idEmb w) i).size = C.size := by simp [idEmb, hob]
    have hsh : ((idEmb w) i).shift = 0 := rfl
    refine .cells hsz.symm (by rw [hsh, hsz]; simp) ?_ (fun h => by simpa using h) (fun h => by rw [h]; exact ⟨hsh, by rw [hsz]; simp⟩)
    rw [hsh, List.drop_zero, List.length_map, List.take_length]
    exact map_abs_rel w h1
  · intro i j o p hi hj hij _
    exact hij
end Go.Eng

/- Symbolic runs of the interpreter: what holds of an answer, pushed through. -/
namespace Go.Eng
open Go

def W {α : Type} (x : Option α) (Q : α → Prop) : Prop := ∃ a, x = some a ∧ Q a
theorem W_some {α : Type} {a : α} {Q : α → Prop} : W (some a) Q ↔ Q a := by simp [W]
theorem W_bind {α β : Type} {x : Option α} {f : α → Option β} {Q : β → Prop} : W (x.bind f) Q ↔ W x fun a => W (f a) Q := by
  simp only [W, Option.bind_eq_some_iff]
  constructor
  · rintro ⟨b, ⟨a, h1, h2⟩, h3⟩; exact ⟨a, h1, b, h2, h3⟩
  · rintro ⟨a, h1, b, h2, h3⟩; exact ⟨b, ⟨a, h1, h2⟩, h3⟩
theorem W_map {α β : Type} {x : Option α} {f : α → β} {Q : β → Prop} : W (x.map f) Q ↔ W x fun a => Q (f a) := by
  simp only [W, Option.map_eq_some_iff]
  constructor
  · rintro ⟨b, ⟨a, h1, rfl⟩, h3⟩; exact ⟨a, h1, h3⟩
  · rintro ⟨a, h1, h3⟩; exact ⟨f a, ⟨a, h1, rfl⟩, h3⟩
theorem W_of {α : Type} {x : Option α} {a : α} {Q : α → Prop} (h : x = some a) (hq : Q a) : W x Q := ⟨a, h, hq⟩
theorem W.mono {α : Type} {x : Option α} {Q Q' : α → Prop} (h : W x Q) (hq : ∀ a, Q a → Q' a) : W x Q' := by
  obtain ⟨a, h1, h2⟩ := h; exact ⟨a, h1, hq a h2⟩

theorem at_self {F : Fr} {d : Nat} {v : Value} (h : d < F.n) : (F.set d v).at d = v := by rw [Fr.at_set, if_pos ⟨rfl, h⟩]
theorem at_ne {F : Fr} {d i : Nat} {v : Value} (h : i ≠ d) : (F.set d v).at i = F.at i := by rw [Fr.at_set, if_neg (fun x => h x.1)]

/-- Code, with enough fuel. -/
def WC (E : Env) (c : Code) (F : AF) (H : AHeap) (Q : Out → Prop) : Prop := ∃ n, W (run E n c F H) Q
/-- A call, with enough fuel. -/
def WF (E : Env) (f : FuncId) (args : List Value) (H : AHeap) (Q : Value × AHeap → Prop) : Prop := ∃ n, W (callA E n f args H) Q

section
variable {E : Env} {F : AF} {H : AHeap} {Q : Out → Prop}
theorem run_succ (n : Nat) (c : Code) : run E (n + 1) c F H = codeA E (funcA E (run E n)) (yieldA (run E n)) (run E n) F H c := rfl
theorem WC.mono {c : Code} {Q' : Out → Prop} (h : WC E c F H Q) (hq : ∀ o, Q o → Q' o) : WC E c F H Q' := by
  obtain ⟨n, h⟩ := h; exact ⟨n, h.mono hq⟩
theorem WF.mono {f : FuncId} {args : List Value} {Q Q' : Value × AHeap → Prop} (h : WF E f args H Q) (hq : ∀ o, Q o → Q' o) : WF E f args H Q' := by
  obtain ⟨n, h⟩ := h; exact ⟨n, h.mono hq⟩

theorem WC.skip (h : Q ⟨.normal, F, H⟩) : WC E .skip F H Q := ⟨1, _, rfl, h⟩
theorem WC.ret (h : Q ⟨.ret, F, H⟩) : WC E .ret F H Q := ⟨1, _, rfl, h⟩
theorem WC.exit {id : Nat} (h : Q ⟨.exit id, F, H⟩) : WC E (.exit id) F H Q := ⟨1, _, rfl, h⟩
theorem WC.seq {a b : Code} (h : WC E a F H fun o => match o.e with | .normal => WC E b o.F o.H Q | _ => Q o) : WC E (.seq a b) F H Q := by
  obtain ⟨n, o, h1, h2⟩ := h
  cases hx : o.e with
  | normal =>
    rw [hx] at h2
    obtain ⟨m, o2, h3, h4⟩ := h2
    refine ⟨max n m + 1, o2, ?_, h4⟩
    simp only [run_succ, codeA, run_le E (Nat.le_max_left n m) _ _ _ _ h1, Option.bind_some, thenA, hx]
    exact run_le E (Nat.le_max_right n m) _ _ _ _ h3
  | exit id =>
    rw [hx] at h2
    refine ⟨n + 1, o, ?_, h2⟩
    simp only [run_succ, codeA, h1, Option.bind_some, thenA, hx]
  | ret =>
    rw [hx] at h2
    refine ⟨n + 1, o, ?_, h2⟩
    simp only [run_succ, codeA, h1, Option.bind_some, thenA, hx]
theorem WC.cond {x : Operand} {a b : Code} {t : Bool} (hx : aval E.G F.tmps x = some (.bool t)) (h : WC E (if t then a else b) F H Q) : WC E (.cond x a b) F H Q := by
  obtain ⟨n, o, h1, h2⟩ := h
  refine ⟨n + 1, o, ?_, h2⟩
  simp only [run_succ, codeA, condA, hx, Option.bind_some, vBool]
  cases t <;> exact h1
theorem WC.block {id : Nat} {c : Code} (h : WC E c F H fun o => Q (leaveA id o)) : WC E (.block id c) F H Q := by
  obtain ⟨n, o, h1, h2⟩ := h
  refine ⟨n + 1, leaveA id o, ?_, h2⟩
  simp only [run_succ, codeA, h1, Option.map_some]
theorem WC.loop {c : Code} (h : WC E c F H fun o => match o.e with | .normal => WC E (.loop c) o.F o.H Q | _ => Q o) : WC E (.loop c) F H Q := by
  obtain ⟨n, o, h1, h2⟩ := h
  cases hx : o.e with
  | normal =>
    rw [hx] at h2
    obtain ⟨m, o2, h3, h4⟩ := h2
    refine ⟨max n m + 1, o2, ?_, h4⟩
    simp only [run_succ, codeA, run_le E (Nat.le_max_left n m) _ _ _ _ h1, Option.bind_some, thenA, hx]
    exact run_le E (Nat.le_max_right n m) _ _ _ _ h3
  | exit id =>
    rw [hx] at h2
    refine ⟨n + 1, o, ?_, h2⟩
    simp only [run_succ, codeA, h1, Option.bind_some, thenA, hx]
  | ret =>
    rw [hx] at h2
    refine ⟨n + 1, o, ?_, h2⟩
    simp only [run_succ, codeA, h1, Option.bind_some, thenA, hx]
theorem WC.scope {c : Code} (h : WC E c F H Q) : WC E (.scope c) F H Q := by
  obtain ⟨n, o, h1, h2⟩ := h
  exact ⟨n + 1, o, h1, h2⟩
end
end Go.Eng

/- Symbolic runs: operations and regions. -/
namespace Go.Eng
open Go

/-- The calls with some fuel. -/
abbrev CN (E : Env) (n : Nat) : Caller := funcA E (run E n)
abbrev YN (E : Env) (n : Nat) : Caller := yieldA (run E n)
theorem CN_le (E : Env) {n m : Nat} (h : n ≤ m) : CLe (CN E n) (CN E m) := funcA_mono (run_le E h)
theorem YN_le (E : Env) {n m : Nat} (h : n ≤ m) : CLe (YN E n) (YN E m) := yieldA_mono (run_le E h)

/-- Operations in text order, with enough fuel. -/
def WO (E : Env) (ops l : List Oper) (F : Fr) (H : AHeap) (Q : Fr → AHeap → Prop) : Prop := ∃ n, W (opsA E (CN E n) (YN E n) ops l F H) fun p => Q p.1 p.2
/-- One operation. -/
def WP (E : Env) (op : Op) (F : Fr) (H : AHeap) (Q : Value → AHeap → Prop) : Prop := ∃ n, W (opA E (CN E n) (YN E n) F H op) fun p => Q p.1 p.2

section
variable {E : Env} {ops l : List Oper} {F : Fr} {H : AHeap} {Q : Fr → AHeap → Prop}
theorem WO.nil (h : Q F H) : WO E ops [] F H Q := ⟨0, _, rfl, h⟩
theorem WO.cons {o : Oper} (hg : o.guard = none) (h : WP E o.op F H fun v H1 => WO E ops l (setT F o.dst v) H1 Q) : WO E ops (o :: l) F H Q := by
  obtain ⟨n, p, h1, m, q, h2, h3⟩ := h
  refine ⟨max n m, q, ?_, h3⟩
  have k1 := opA_mono (CN_le E (Nat.le_max_left n m)) (YN_le E (Nat.le_max_left n m)) h1
  have k2 := opsA_mono (CN_le E (Nat.le_max_right n m)) (YN_le E (Nat.le_max_right n m)) h2
  simp only [opsA, oneA, wantedA, hg, Option.bind_some, cond_true, k1, Option.map_some]
  exact k2
theorem WO.guard {o : Oper} {w : Bool} (hg : wantedA ops F o = some w) (h : if w then WP E o.op F H fun v H1 => WO E ops l (setT F o.dst v) H1 Q else WO E ops l (setT F o.dst undefV) H Q) : WO E ops (o :: l) F H Q := by
  cases w with
  | true =>
    obtain ⟨n, p, h1, m, q, h2, h3⟩ := h
    refine ⟨max n m, q, ?_, h3⟩
    have k1 := opA_mono (CN_le E (Nat.le_max_left n m)) (YN_le E (Nat.le_max_left n m)) h1
    have k2 := opsA_mono (CN_le E (Nat.le_max_right n m)) (YN_le E (Nat.le_max_right n m)) h2
    simp only [opsA, oneA, hg, Option.bind_some, cond_true, k1, Option.map_some]
    exact k2
  | false =>
    obtain ⟨m, q, h2, h3⟩ := h
    refine ⟨m, q, ?_, h3⟩
    simp only [opsA, oneA, hg, Option.bind_some, cond_false]
    exact h2
theorem WP.of {op : Op} {v : Value} {H1 : AHeap} {Q : Value → AHeap → Prop} (h : ∀ c y, opA E c y F H op = some (v, H1)) (hq : Q v H1) : WP E op F H Q := ⟨0, _, h _ _, hq⟩
/-- A call of a known function. -/
theorem WP.call {c : Call} {f : FuncId} {args : List Value} {Q : Value → AHeap → Prop} (hc : c.callee = .value (.func f)) (hx : E.ext f = none) (ha : avals E.G F c.args.toList = some args) (h : WF E f args H fun r => Q r.1 r.2) : WP E (.call c) F H Q := by
  obtain ⟨n, r, h1, h2⟩ := h
  refine ⟨n, r, ?_, h2⟩
  have hv : ∀ l : List Value, [] ++ (l ++ []) = l := fun l => by simp
  simp only [opA, callOpA, ha, Option.bind_some, hc, calleeA, aval, vFunc, callVal, fnFunc, callFn, hx, hv]
  exact h1
/-- A call of a function value. -/
theorem WP.callV {c : Call} {t : Tmp} {f : FuncId} {a b : Array Value} {args : List Value} {Q : Value → AHeap → Prop} (hc : c.callee = .value (.tmp t)) (ht : F.at t = .func (.func f) a b) (hx : E.ext f = none) (ha : avals E.G F c.args.toList = some args)
    (h : WF E f (a.toList ++ (args ++ b.toList)) H fun r => Q r.1 r.2) : WP E (.call c) F H Q := by
  obtain ⟨n, r, h1, h2⟩ := h
  refine ⟨n, r, ?_, h2⟩
  simp only [opA, callOpA, ha, Option.bind_some, hc, calleeA, aval, ht, vFunc, callVal, fnFunc, callFn, hx]
  exact h1
end

section
variable {E : Env} {F : AF} {H : AHeap} {Q : Out → Prop}
theorem WC.region {id : Nat} {ops : Array Oper} (h : WO E ops.toList ops.toList F.tmps H fun T H1 => Q ⟨.normal, ⟨F.fn, T, F.defs, F.round⟩, H1⟩) : WC E (.region id ops false) F H Q := by
  obtain ⟨n, p, h1, h2⟩ := h
  refine ⟨n + 1, _, ?_, h2⟩
  simp only [run_succ, codeA, regCode, regionA, cond_false, h1, Option.map_some]

/-- A function, from its body. -/
theorem WF.of {E : Env} {f : FuncId} {fn : Func} {c : Code} {args : List Value} {H : AHeap} {Q : Value × AHeap → Prop} (hs : E.sum f = none) (hf : E.P.funcs[f]? = some fn) (hb : fn.body = some c)
    (h : WC E c ⟨f, frame0 args fn.ntmps, [], none⟩ H fun o => W (funcEnd E.P fn.results.toList o) Q) : WF E f args H Q := by
  obtain ⟨n, o, h1, h2⟩ := h
  obtain ⟨r, h3, h4⟩ := h2
  refine ⟨n, r, ?_, h4⟩
  simp only [callA, funcA, hs, funcA0, hf, Option.bind_some, hb, funcBody, h1, h3]
/-- A function whose answer is known. -/
theorem WF.sum {E : Env} {f : FuncId} {v : Value} {H : AHeap} {Q : Value × AHeap → Prop} (hs : E.sum f = some v) (h : Q (v, H)) : WF E f [] H Q :=
  ⟨0, _, by simp only [callA, funcA, hs]; rfl, h⟩
end
end Go.Eng

/- Symbolic runs: regions whose order is drawn. -/
namespace Go.Eng
open Go

def WD (E : Env) (R : DR) (l : List Nat) (s : DS) (Q : DS → Prop) : Prop := ∃ n, W (drawA E (CN E n) (YN E n) R l s) Q

/-- What is closed of a step: the masks. -/
def stepOk (R : DR) (i : Nat) (o : Oper) (done : Nat) (hs : List Nat) : Bool :=
  !Nat.testBit done i && Nat.beq (Nat.land (R.anc.getD i 0) done) (R.anc.getD i 0) && (bif isHeavy o then isHead i hs else lateOk R.anc i hs)
section
variable {E : Env} {R : DR} {l : List Nat} {s : DS} {Q : DS → Prop} {i : Nat} {o : Oper}
theorem WD.nil (h : Q s) : WD E R [] s Q := ⟨0, _, rfl, h⟩
theorem WD.light (ho : R.ops[i]? = some o) (hh : isHeavy o = false) (hk : stepOk R i o s.done s.hs = true) (hw : wantedA R.ops s.F o = some true) {p : Value × AHeap} (he : evalAt E s.F (R.base + i) s.H o.op = some p) (hr : readOk E R i o s p = true)
    (h : WD E R l ⟨setT s.F o.dst p.1, ⟨s.H.next, p.2.objs⟩, s.past, s.bit i, s.hs⟩ Q) : WD E R (i :: l) s Q := by
  obtain ⟨n, r, h1, h2⟩ := h
  refine ⟨n, r, ?_, h2⟩
  simp only [stepOk, hh, cond_false, Bool.and_eq_true] at hk
  have hk1 : (!Nat.testBit s.done i && Nat.beq (Nat.land (R.anc.getD i 0) s.done) (R.anc.getD i 0)) = true := by rw [Bool.and_eq_true]; exact hk.1
  simp only [drawA, drawStep, ho, Option.bind_some, hk1, cond_true, hh, cond_false, drawLight, hk.2, hw, he, hr, h1]
theorem WD.lightSkip (ho : R.ops[i]? = some o) (hh : isHeavy o = false) (hk : stepOk R i o s.done s.hs = true) (hw : wantedA R.ops s.F o = some false)
    (h : WD E R l ⟨setT s.F o.dst undefV, s.H, s.past, s.bit i, s.hs⟩ Q) : WD E R (i :: l) s Q := by
  obtain ⟨n, r, h1, h2⟩ := h
  refine ⟨n, r, ?_, h2⟩
  simp only [stepOk, hh, cond_false, Bool.and_eq_true] at hk
  have hk1 : (!Nat.testBit s.done i && Nat.beq (Nat.land (R.anc.getD i 0) s.done) (R.anc.getD i 0)) = true := by rw [Bool.and_eq_true]; exact hk.1
  simp only [drawA, drawStep, ho, Option.bind_some, hk1, cond_true, hh, cond_false, drawLight, hk.2, hw, h1]
theorem WD.heavy (ho : R.ops[i]? = some o) (hh : isHeavy o = true) (hk : stepOk R i o s.done s.hs = true) (hw : wantedA R.ops s.F o = some true)
    (h : WP E o.op s.F s.H fun v H1 => WD E R l ⟨setT s.F o.dst v, H1, H1 :: s.past, s.bit i, s.hs.tail⟩ Q) : WD E R (i :: l) s Q := by
  obtain ⟨n, p, h1, m, r, h2, h3⟩ := h
  refine ⟨max n m, r, ?_, h3⟩
  simp only [stepOk, hh, cond_true, Bool.and_eq_true] at hk
  have hk1 : (!Nat.testBit s.done i && Nat.beq (Nat.land (R.anc.getD i 0) s.done) (R.anc.getD i 0)) = true := by rw [Bool.and_eq_true]; exact hk.1
  have k1 := opA_mono (CN_le E (Nat.le_max_left n m)) (YN_le E (Nat.le_max_left n m)) h1
  have k2 := drawA_mono (CN_le E (Nat.le_max_right n m)) (YN_le E (Nat.le_max_right n m)) h2
  simp only [drawA, drawStep, ho, Option.bind_some, hk1, cond_true, hh, drawHeavy, hk.2, hw, k1, Option.map_some, k2]
theorem WD.heavySkip (ho : R.ops[i]? = some o) (hh : isHeavy o = true) (hk : stepOk R i o s.done s.hs = true) (hw : wantedA R.ops s.F o = some false)
    (h : WD E R l ⟨setT s.F o.dst undefV, s.H, s.H :: s.past, s.bit i, s.hs.tail⟩ Q) : WD E R (i :: l) s Q := by
  obtain ⟨n, r, h1, h2⟩ := h
  refine ⟨n, r, ?_, h2⟩
  simp only [stepOk, hh, cond_true, Bool.and_eq_true] at hk
  have hk1 : (!Nat.testBit s.done i && Nat.beq (Nat.land (R.anc.getD i 0) s.done) (R.anc.getD i 0)) = true := by rw [Bool.and_eq_true]; exact hk.1
  simp only [drawA, drawStep, ho, Option.bind_some, hk1, cond_true, hh, drawHeavy, hk.2, hw, cond_false, h1]
end

/-- A region whose order is drawn: its closed part first. -/
theorem WC.draw {E : Env} {F : AF} {H : AHeap} {Q : Out → Prop} {id : Nat} {ops : Array Oper} {ord : List Nat} (hord : canon ops.toList.length (ancA ops.toList []) (heavies ops.toList 0) (heavies ops.toList 0) 0 = ord)
    (hchk : (edgesOk ops.toList 0 && chainOk (ancA ops.toList []) (heavies ops.toList 0) && tmpsOk ops.toList (ancA ops.toList []) ops.toList 0) = true)
    (h : WD E ⟨ops.toList, ancA ops.toList [], heavies ops.toList 0, H.next⟩ ord ⟨F.tmps, ⟨H.next + ops.toList.length, H.objs⟩, [⟨H.next + ops.toList.length, H.objs⟩], 0, heavies ops.toList 0⟩
      fun s => (Nat.beq s.done (2 ^ ops.toList.length - 1) && s.hs.isEmpty) = true ∧ Q ⟨.normal, ⟨F.fn, s.F, F.defs, F.round⟩, s.H⟩) : WC E (.region id ops true) F H Q := by
  obtain ⟨n, s, h1, h2, h3⟩ := h
  refine ⟨n + 1, _, ?_, h3⟩
  subst hord
  simp only [run_succ, codeA, regCode, regionA, cond_true, drawR, drawChecks, hchk, h1, Option.bind_some, drawEnd, h2, Option.map_some]
end Go.Eng
namespace Go.Eng
open Go
/-! ### rows behind writes -/
theorem row_set (H : AHeap) (i : Nat) (o : AObj) (j : Nat) : (H.set i o).row j = if j = i then rowOf o else H.row j := by
  simp only [AHeap.row, AHeap.get_set]; split <;> rfl
theorem row_new (H : AHeap) (o : AObj) (j : Nat) : (H.new o).row j = if j = H.next then rowOf o else H.row j := by
  simp only [AHeap.row, AHeap.get_new]; split <;> rfl
theorem row_drop (H : AHeap) (i : Nat) (j : Nat) : (H.drop i).row j = if j = i then none else H.row j := by
  simp only [AHeap.row, AHeap.get_drop]; split <;> rfl
theorem load_row {P : Program} {T b o : Nat} {H : AHeap} {r : Row} (hr : H.row b = some r) : loadA P T (.pointer (some ⟨b, o, none⟩)) H = readAt P T r.cs o := by
  show (H.row b).bind _ = _
  rw [hr]; rfl
end Go.Eng
