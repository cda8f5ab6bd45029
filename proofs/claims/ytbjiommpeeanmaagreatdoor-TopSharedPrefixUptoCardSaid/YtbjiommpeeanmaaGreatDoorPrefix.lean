/- The call of TopSharedPrefix returns true for every input of bulk at most 1048576, and the input reads as it did. Conditions: none. -/
import Derived.Test.YtbjiommpeeanmaaGreatDoorRows
import Derived.ProofKit
import Derived.OpenShut
import Derived.Carry
import Derived.Test.YtbjiommpeeanmaaGreatDoorPrefixZ
namespace Go.Proofs.YtbjiommpeeanmaaGreatDoor
open Go Go.Eng Go.ChangeShapes Go.WideShapes Go.ChangeAt Go.RowKit

theorem bulkAll_eq {K : Type} : ∀ l : List (DataW K), Rows.uptoBulkAll l = (l.map Rows.uptoBulk).sum
  | [] => rfl
  | x :: r => by simp only [Rows.uptoBulkAll, List.map_cons, List.sum_cons, bulkAll_eq r]
theorem msr (K : Type) : Msr (Rows.uptoBulk (H := K)) where
  one d := by
    cases d with
    | lit l => cases l <;> simp [Rows.uptoBulk]
    | _ => simp [Rows.uptoBulk]
  sl e s := by
    simp only [Rows.uptoBulk, bulkAll_eq]
    omega
  agg p := by
    simp only [Rows.uptoBulk, bulkAll_eq]
    omega
theorem ok_struct {P : Program} {w : World} {r : Reach} {base : Nat} {t : TypeId} {v : Value} {fs : Array Field} (ht : P.underlying t = some (.struct fs)) (h : Value.okWide P w r base t v) : ∃ cs, v = .agg cs ∧ cs.size = P.cellsOf t ∧ Row.okWide P w r base t cs := by
  unfold Value.okWide at h
  rw [ht] at h
  exact h
set_option maxRecDepth 100000 in
theorem contract (K : Type) (enc : TypeId × Value → K) (W : World) (base : Nat) (args : Array Value) (ds gs : List (DataW K)) (before : List MemPlace)
    (hval : ∀ (j : Nat) t v, Tryz.f3.params[j]? = some t → args[j]? = some v → Value.okWide Tryz.prog W .any base t v)
    (hW : DataW.Whole enc Tryz.prog Tryz.f3.params.toList Rows.topSharedPrefixSpec.vars false W args.toList ds gs before) (hsmall : Rows.uptoBulkAll (ds ++ gs) ≤ 1048576)
    (hlaid : laidOutB Tryz.prog = true) :
    Calls Tryz.prog 3 args W fun e W' => ∃ v, e = .returned v ∧ Rows.topSharedPrefixSpec.post enc Tryz.prog Tryz.f3 false true false false W args v W' := by
  have hW' := hW
  obtain ⟨p, q, hA0, hV, rfl, hfz, hnd⟩ := hW
  have hA : DataW.TrodAll enc Tryz.prog W 0 (fun _ => true) true Tryz.f3.params.toList args.toList ds p := hA0
  rw [Tryz.params3] at hA hval
  obtain ⟨v0, vs0, d0, ds0, p0, q0, hargs, rfl, rfl, h0, r0⟩ := trodAll_cons hA
  obtain ⟨rfl, rfl, rfl⟩ := trodAll_nil r0
  obtain rfl : args = #[v0] := by cases args; simp_all
  obtain ⟨rfl, rfl⟩ := trodVars_none hV
  have hv := hval 0 28 v0 (by simp) (by simp)
  obtain ⟨cs, rfl, hcs, -⟩ := ok_struct Tryz.underlying28 hv
  obtain ⟨fuel, hf⟩ := h0
  have hd : Rows.uptoBulk d0 ≤ 1048576 := by
    simp only [List.append_nil, Rows.uptoBulkAll] at hsmall
    omega
  have hf' : DataW.trod enc Tryz.prog W 0 (fun _ => true) true fuel 28 cs.toList = some (d0, p0) := hf
  have hcall := core_Prefix (msr K) W cs (hcs.trans cells28_Prefix) hf' (fun b off hm => hfz b off (by simp [hm])) (by omega)
  refine hcall.mono fun e W' he => ?_
  obtain ⟨rfl, hb⟩ := he
  refine ⟨_, rfl, [d0], [], _, [], p0 ++ [], [], hW', ?_, ?_, rfl, hb.frame _, fun h => by cases h⟩
  · exact ⟨[], [], shut_bool Tryz.underlying4 true, rfl, rfl⟩
  · rw [Tryz.params3]
    exact ⟨p0, [], Below.trod hlaid (by kernel_rfl) (of_decide_eq_true (by kernel_rfl)) ⟨fuel, hf⟩ hb (fun x hx => hW'.lt x (by simp [hx])), rfl, by simp⟩
end Go.Proofs.YtbjiommpeeanmaaGreatDoor
