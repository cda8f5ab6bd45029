/- The closed run alive46 answers true. Conditions: none beyond each theorem's own. -/
import Derived.Test.YtphehedgnhmahaaGreatDoorF
import Derived.KernelRfl
namespace Go.Eng
open Go Go.Proofs
/-- The closed call's own environment: with what the model answers itself. -/
def exts : List (FuncId × Ext) := [(183, .count), (192, .same), (213, .indexByte), (407, .makeNoZero 5)]
noncomputable def EA : Env := { P := Tryz.prog, G := 8, ext := lookF exts }
theorem ext_rows : ∀ p ∈ exts, ExtRow Tryz.prog p.1 p.2 := by
  have h1 : (Tryz.prog.funcs[183]?).map (fun fn => (fn.name, fn.origin, fn.body.isNone)) = some ("internal/bytealg.CountString", "", true) := by kernel_rfl
  have h2 : (Tryz.prog.funcs[192]?).map (fun fn => (fn.name, fn.origin, fn.body.isNone)) = some ("internal/abi.NoEscape", "", true) := by kernel_rfl
  have h3 : (Tryz.prog.funcs[213]?).map (fun fn => (fn.name, fn.origin, fn.body.isNone)) = some ("internal/bytealg.IndexByteString", "", true) := by kernel_rfl
  have h4 : (Tryz.prog.funcs[407]?).map (fun fn => (fn.name, fn.origin, fn.body.isNone)) = some ("internal/bytealg.MakeNoZero", "", true) := by kernel_rfl
  have h5 : (Tryz.prog.funcs[407]?).map (fun fn => fn.resultTypes.toList) = some [((Tryz.prog.funcs[407]?).map (fun fn => fn.resultTypes.getD 0 0)).getD 0] := by kernel_rfl
  have h6 : Tryz.prog.underlying (((Tryz.prog.funcs[407]?).map (fun fn => fn.resultTypes.getD 0 0)).getD 0) = some (.slice 5) := by kernel_rfl
  have go : ∀ {f : FuncId} {s : String}, (Tryz.prog.funcs[f]?).map (fun fn => (fn.name, fn.origin, fn.body.isNone)) = some (s, "", true) → ∃ fn, Tryz.prog.funcs[f]? = some fn ∧ fn.name = s ∧ fn.origin = "" ∧ fn.body = none := by
    intro f s h
    simp only [Option.map_eq_some_iff, Prod.mk.injEq] at h
    obtain ⟨fn, hf, hn, ho, hb⟩ := h
    exact ⟨fn, hf, hn, ho, by simpa using hb⟩
  intro p hp
  simp only [exts, List.mem_cons, List.not_mem_nil, or_false] at hp
  rcases hp with rfl | rfl | rfl | rfl
  · exact go h1
  · exact go h2
  · exact go h3
  · obtain ⟨fn, hf, hn, ho, hb⟩ := go h4
    refine ⟨fn, _, hf, hn, ho, hb, ?_, h6⟩
    rw [hf] at h5 ⊢
    simp only [Option.map_some, Option.some.injEq, Option.getD_some] at h5 ⊢
    apply Array.ext'
    simpa using h5
theorem okayA : Okay EA EA.G :=
  { ext := extOK_of ext_rows
    names := noCount_of (by kernel_rfl)
    mixed := by kernel_rfl
    hG := rfl
    sum := fun f v h => by cases h }
theorem ran : answersTrue EA 100000 18 = true := by kernel_rfl
theorem okay0 : Okay E0 E0.G :=
  { ext := fun f e h => by cases h
    names := okayA.names
    mixed := okayA.mixed
    hG := rfl
    sum := fun f v h => by
      have h' : (bif Nat.beq f 18 then some (Value.bool true) else none) = some v := h
      cases hb : Nat.beq f 18 with
      | false => rw [hb] at h'; cases h'
      | true =>
        rw [hb] at h'
        have := Nat.eq_of_beq_eq_true hb
        subst this
        obtain rfl : Value.bool true = v := Option.some.inj h'
        exact sum_ok okayA ran }
/-- From the interpreter to the machine: a call that answers true, over views. -/
theorem calls_true {f : FuncId} {acs cs : List Value} {φ : Emb} {H : AHeap} {W : World} (hW : HRel 8 φ H W) (hV : Vws H) (hl : LRel φ acs cs) (h : WF E0 f [.agg acs.toArray] H fun q => q.1 = .bool true) :
    Calls Tryz.prog f #[.agg cs.toArray] W fun e W' => e = .returned (.bool true) ∧ RowKit.Below W.heap.size W W' := by
  obtain ⟨n, ⟨v, H'⟩, h1, rfl⟩ := h
  obtain ⟨-, hc⟩ := callA_ok okay0 n f _ H _ h1
  intro cs'
  obtain ⟨fr, v', w', φ', s1, h1, h2, h3, h4, h5⟩ := hc φ W #[.agg cs.toArray] (.cons (.aggL (by simpa using hl)) .nil) hW cs'
  have := h5.bool_inv
  subst this
  exact ⟨.returned (.bool true), w', fr, ⟨rfl, views_below hV h4⟩, s1, h1, h2⟩

end Go.Eng
