/- The call of TopSharedValues returns true for every input of bulk at most 1048576, and the input reads as it did. Conditions: none. -/
import Derived.Test.YtphehedgnhmahaaGreatDoorRows
import Derived.ProofKit
import Derived.OpenShut
import Derived.Carry
import Derived.Test.YtphehedgnhmahaaGreatDoorAlive
import Derived.Test.YtphehedgnhmahaaGreatDoorValuesB
namespace Go.Proofs.YtphehedgnhmahaaGreatDoor
open Go Go.Eng Go.ChangeShapes Go.WideShapes Go.ChangeAt Go.RowKit

theorem bulkAll_eq {K : Type} : ∀ l : List (DataW K), Rows.uptoBulkAll l = (l.map Rows.uptoBulk).sum
  | [] => rfl
  | x :: r => by simp only [Rows.uptoBulkAll, List.map_cons, List.sum_cons, bulkAll_eq r]
theorem msr (K : Type) : Msr (Rows.uptoBulk (H := K)) where
  one d := by
    cases d with
    | lit l => cases l <;> simp [Rows.uptoBulk]
    | _ => simp [Rows.uptoBulk]
  sl e s := by
    simp only [Rows.uptoBulk, bulkAll_eq]
    omega
  agg p := by
    simp only [Rows.uptoBulk, bulkAll_eq]
    omega
/-- The shape tells the type. -/
theorem cells52 : Tryz.prog.cellsOf 52 = 9 := by kernel_rfl
theorem cells3 : Tryz.prog.cellsOf 3 = 1 := by kernel_rfl
theorem cells50 : Tryz.prog.cellsOf 50 = 1 := by kernel_rfl
theorem cells4 : Tryz.prog.cellsOf 4 = 1 := by kernel_rfl
theorem cells49 : Tryz.prog.cellsOf 49 = 5 := by kernel_rfl
theorem cells22 : Tryz.prog.cellsOf 22 = 1 := by kernel_rfl
theorem cells47 : Tryz.prog.cellsOf 47 = 1 := by kernel_rfl
theorem cells164 : Tryz.prog.cellsOf 164 = 2 := by kernel_rfl
theorem cells46 : Tryz.prog.cellsOf 46 = 1 := by kernel_rfl
theorem cells169 : Tryz.prog.cellsOf 169 = 2 := by kernel_rfl
theorem fits50 : Fits Tryz.prog (.list 1 .bool) 50 := ⟨4, Tryz.underlying50, cells4, by decide, by decide, by decide, .inl Tryz.underlying4⟩
theorem fits22 : Fits Tryz.prog (.list 1 (.num .i64)) 22 := ⟨3, Tryz.underlying22, cells3, by decide, by decide, by decide, .inl Tryz.underlying3⟩
theorem fits47 : Fits Tryz.prog (.list 2 (.fld 0 (.num .i64) (.fld 1 (.num .i64) .nil))) 47 := ⟨164, Tryz.underlying47, cells164, by decide, by decide, by decide, .inr ⟨_, Tryz.underlying164, by
    rw [cells164]
    refine ⟨_, _, rfl, rfl, rfl, ⟨_, _, rfl, ?_, ?_, ⟨rfl, ?_⟩, .inl Tryz.underlying3⟩, .inl Tryz.underlying3⟩ <;> simp only [cells3]⟩⟩
theorem fits46 : Fits Tryz.prog (.list 2 (.fld 0 (.num .i64) (.fld 1 (.num .i64) .nil))) 46 := ⟨169, Tryz.underlying46, cells169, by decide, by decide, by decide, .inr ⟨_, Tryz.underlying169, by
    rw [cells169]
    refine ⟨_, _, rfl, rfl, rfl, ⟨_, _, rfl, ?_, ?_, ⟨rfl, ?_⟩, .inl Tryz.underlying3⟩, .inl Tryz.underlying3⟩ <;> simp only [cells3]⟩⟩
theorem fits52 : Fits.go Tryz.prog ShValues [{ name := "C", type := 49, offset := 0, embedded := false, tag := "", pkgPath := "", byteOffset := 0 }, { name := "State", type := 50, offset := 5, embedded := false, tag := "", pkgPath := "", byteOffset := 104 }, { name := "Inputs", type := 50, offset := 6, embedded := false, tag := "", pkgPath := "", byteOffset := 128 }, { name := "Values", type := 50, offset := 7, embedded := false, tag := "", pkgPath := "", byteOffset := 152 }, { name := "L", type := 3, offset := 8, embedded := false, tag := "", pkgPath := "", byteOffset := 176 }] 0 9 := by
  refine ⟨_, _, rfl, rfl, rfl, ⟨_, _, rfl, ?_, ?_, ⟨_, _, rfl, ?_, ?_, ⟨_, _, rfl, ?_, ?_, ⟨_, _, rfl, ?_, ?_, ⟨rfl, ?_⟩, .inl Tryz.underlying3⟩, .inl fits50⟩, .inl fits50⟩, .inl fits50⟩, .inr ⟨_, Tryz.underlying49, by
    rw [cells49]
    refine ⟨_, _, rfl, rfl, rfl, ⟨_, _, rfl, ?_, ?_, ⟨_, _, rfl, ?_, ?_, ⟨_, _, rfl, ?_, ?_, ⟨_, _, rfl, ?_, ?_, ⟨rfl, ?_⟩, .inl fits22⟩, .inl fits22⟩, .inl fits47⟩, .inl fits46⟩, .inl Tryz.underlying3⟩ <;> simp only [cells3, cells46, cells47, cells22]⟩⟩ <;> simp only [cells49, cells50, cells3]
theorem ok_struct {P : Program} {w : World} {r : Reach} {base : Nat} {t : TypeId} {v : Value} {fs : Array Field} (ht : P.underlying t = some (.struct fs)) (h : Value.okWide P w r base t v) : ∃ cs, v = .agg cs ∧ cs.size = P.cellsOf t ∧ Row.okWide P w r base t cs := by
  unfold Value.okWide at h
  rw [ht] at h
  exact h
/-- An argument's slices lead to plain places. -/
theorem spot_of_ok {P : Program} {w : World} {r : Reach} {base : Nat} {u : TypeId} {a : Addr} {l c : Nat} (h : Cell.okWide P w r base u (.slice (some a) l c)) : a.spot = none := by
  unfold Cell.okWide at h
  split at h <;> rename_i h1 h2 <;> try (cases h2)
  all_goals try (cases h1)
  unfold Cell.ok at h
  split at h <;> rename_i h1 h2 <;> try (cases h2)
  all_goals try (exact h.elim)
  exact h.2.2.2.1

set_option maxRecDepth 100000 in
theorem contract (K : Type) (enc : TypeId × Value → K) (W : World) (base : Nat) (args : Array Value) (ds gs : List (DataW K)) (before : List MemPlace)
    (hval : ∀ (j : Nat) t v, Tryz.f4.params[j]? = some t → args[j]? = some v → Value.okWide Tryz.prog W .any base t v)
    (hW : DataW.Whole enc Tryz.prog Tryz.f4.params.toList Rows.topSharedValuesSpec.vars false W args.toList ds gs before) (hsmall : Rows.uptoBulkAll (ds ++ gs) ≤ 1048576)
    (hlaid : laidOutB Tryz.prog = true) :
    Calls Tryz.prog 4 args W fun e W' => ∃ v, e = .returned v ∧ Rows.topSharedValuesSpec.post enc Tryz.prog Tryz.f4 false true false false W args v W' := by
  have hW' := hW
  obtain ⟨p, q, hA0, hV, rfl, hfz, hnd⟩ := hW
  have hA : DataW.TrodAll enc Tryz.prog W 0 (fun _ => true) true Tryz.f4.params.toList args.toList ds p := hA0
  rw [Tryz.params4] at hA hval
  obtain ⟨v0, vs0, d0, ds0, p0, q0, hargs, rfl, rfl, h0, r0⟩ := trodAll_cons hA
  obtain ⟨rfl, rfl, rfl⟩ := trodAll_nil r0
  obtain rfl : args = #[v0] := by cases args; simp_all
  obtain ⟨rfl, rfl⟩ := trodVars_none hV
  have hv := hval 0 52 v0 (by simp) (by simp)
  obtain ⟨cs, rfl, hcs, ts, -, -, hrow⟩ := ok_struct Tryz.underlying52 hv
  obtain ⟨fuel, hf⟩ := h0
  have hd : Rows.uptoBulk d0 ≤ 1048576 := by
    simp only [List.append_nil, Rows.uptoBulkAll] at hsmall
    omega
  have hsp : Spots cs.toList := by
    intro a l c hm
    obtain ⟨i, hi, he⟩ := List.mem_iff_getElem.1 hm
    obtain ⟨u, -, hu⟩ := hrow i (.slice (some a) l c) (by
      rw [Array.getElem?_eq_getElem (by simpa using hi)]
      exact congrArg some (by simpa using he))
    exact spot_of_ok hu
  have hf' : DataW.trod enc Tryz.prog W 0 (fun _ => true) true fuel 52 cs.toList = some (d0, p0) := hf
  obtain ⟨φ, H, acs, ns, ss, D, k1, k2, k3, k4, k5, k6, k7, k8, k9, k10⟩ := arg_vr (msr K) (G := 8) (s := ShValues) rfl Tryz.underlying52 (by rw [cells52]; exact fits52) hf' hsp (fun b off hm => hfz b off (by simp [hm])) (by dsimp only; omega) _ _ (rel0 8 W) (fun i o hi => by simp [heap0, AHeap.get, Tr.get] at hi)
  have hal : acs.length = 9 := by rw [LRel.len k6]; simpa using hcs.trans cells52
  dsimp only at k10
  have hcall := calls_true k1 k2 k6 (top_4 (true, true) (fun _ => rfl) H acs ns ss D hal k7 k8 k9 (by omega) (by omega))
  rw [show cs.toList.toArray = cs by simp] at hcall
  refine hcall.mono fun e W' he => ?_
  obtain ⟨rfl, hb⟩ := he
  refine ⟨_, rfl, [d0], [], _, [], p0 ++ [], [], hW', ?_, ?_, rfl, hb.frame _, fun h => by cases h⟩
  · exact ⟨[], [], shut_bool Tryz.underlying4 true, rfl, rfl⟩
  · rw [Tryz.params4]
    exact ⟨p0, [], Below.trod hlaid (by kernel_rfl) (of_decide_eq_true (by kernel_rfl)) ⟨fuel, hf⟩ hb (fun x hx => hW'.lt x (by simp [hx])), rfl, by simp⟩
end Go.Proofs.YtphehedgnhmahaaGreatDoor
