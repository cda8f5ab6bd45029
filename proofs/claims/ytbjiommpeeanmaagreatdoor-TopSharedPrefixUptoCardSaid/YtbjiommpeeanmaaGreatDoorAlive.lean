/- The closed run alive46 answers true; what the library lays. Conditions: none beyond each theorem's own. -/
import Derived.Shelf.Lays
import Derived.Shelf.Lays2
import Derived.Test.YtbjiommpeeanmaaGreatDoorProg
import Derived.Test.YtbjiommpeeanmaaGreatDoorF
import Derived.KernelRfl
set_option linter.all false
namespace Go.Proofs
open Go.Shelf
def Tryz.laysSort_ren : Go.Shelf.Ren := ⟨fun | 189 => 121 | 125 => 170 | 257 => 169 | 128 => 226 | 129 => 227 | 294 => 217 | 295 => 218 | 296 => 219 | 297 => 220 | 298 => 221 | 299 => 222 | 216 => 223 | 300 => 224 | 301 => 225 | 328 => 262 | 329 => 263 | 330 => 264 | 331 => 265 | 332 => 266 | 215 => 213 | 343 => 289 | n => n, fun | 28 => 24 | 3 => 3 | 46 => 181 | 0 => 0 | 51 => 310 | 53 => 312 | 4 => 4 | 183 => 304 | 182 => 303 | 131 => 227 | 5 => 5 | 9 => 9 | 218 => 347 | 222 => 145 | 228 => 359 | 229 => 360 | n => n, fun | n => n⟩
theorem Tryz.laysSort : Go.Proofs.Lays.n189 Tryz.prog Tryz.laysSort_ren := {
  mixed := by kernel_rfl
  f125 := Tryz.func170.trans (congrArg some (by kernel_rfl))
  f128 := Tryz.func226.trans (congrArg some (by kernel_rfl))
  f129 := Tryz.func227.trans (congrArg some (by kernel_rfl))
  f189 := Tryz.func121.trans (congrArg some (by kernel_rfl))
  f215 := Tryz.func213.trans (congrArg some (by kernel_rfl))
  f216 := Tryz.func223.trans (congrArg some (by kernel_rfl))
  f257 := Tryz.func169.trans (congrArg some (by kernel_rfl))
  f294 := Tryz.func217.trans (congrArg some (by kernel_rfl))
  f295 := Tryz.func218.trans (congrArg some (by kernel_rfl))
  f296 := Tryz.func219.trans (congrArg some (by kernel_rfl))
  f297 := Tryz.func220.trans (congrArg some (by kernel_rfl))
  f298 := Tryz.func221.trans (congrArg some (by kernel_rfl))
  f299 := Tryz.func222.trans (congrArg some (by kernel_rfl))
  f300 := Tryz.func224.trans (congrArg some (by kernel_rfl))
  f301 := Tryz.func225.trans (congrArg some (by kernel_rfl))
  f328 := Tryz.func262.trans (congrArg some (by kernel_rfl))
  f329 := Tryz.func263.trans (congrArg some (by kernel_rfl))
  f330 := Tryz.func264.trans (congrArg some (by kernel_rfl))
  f331 := Tryz.func265.trans (congrArg some (by kernel_rfl))
  f332 := Tryz.func266.trans (congrArg some (by kernel_rfl))
  f343 := Tryz.func289.trans (congrArg some (by kernel_rfl))
  t0 := Tryz.underlying0
  a0 := Tryz.isAgg0
  z0 := Tryz.sizeOf0
  v0 := Tryz.zeroValue0
  t3 := Tryz.underlying3
  a3 := Tryz.isAgg3
  z3 := Tryz.sizeOf3
  v3 := Tryz.zeroValue3
  t4 := Tryz.underlying4
  a4 := Tryz.isAgg4
  z4 := Tryz.sizeOf4
  v4 := Tryz.zeroValue4
  t5 := Tryz.underlying5
  a5 := Tryz.isAgg5
  z5 := Tryz.sizeOf5
  v5 := Tryz.zeroValue5
  t9 := Tryz.underlying9
  a9 := Tryz.isAgg9
  z9 := Tryz.sizeOf9
  v9 := Tryz.zeroValue9
  t28 := Tryz.underlying24
  a28 := Tryz.isAgg24
  z28 := Tryz.sizeOf24
  v28 := Tryz.zeroValue24
  t46 := Tryz.underlying181
  a46 := Tryz.isAgg181
  z46 := Tryz.sizeOf181
  v46 := Tryz.zeroValue181
  t51 := Tryz.underlying310
  a51 := Tryz.isAgg310
  z51 := Tryz.sizeOf310
  v51 := Tryz.zeroValue310
  t53 := Tryz.underlying312
  a53 := Tryz.isAgg312
  z53 := Tryz.sizeOf312
  v53 := Tryz.zeroValue312
  t131 := Tryz.underlying227
  a131 := Tryz.isAgg227
  z131 := Tryz.sizeOf227
  v131 := Tryz.zeroValue227
  t182 := Tryz.underlying303
  a182 := Tryz.isAgg303
  z182 := Tryz.sizeOf303
  v182 := Tryz.zeroValue303
  t183 := Tryz.underlying304
  a183 := Tryz.isAgg304
  z183 := Tryz.sizeOf304
  v183 := Tryz.zeroValue304
  t218 := Tryz.underlying347
  a218 := Tryz.isAgg347
  z218 := Tryz.sizeOf347
  v218 := Tryz.zeroValue347
  t222 := Tryz.underlying145
  a222 := Tryz.isAgg145
  z222 := Tryz.sizeOf145
  v222 := Tryz.zeroValue145
  t228 := Tryz.underlying359
  a228 := Tryz.isAgg359
  z228 := Tryz.sizeOf359
  v228 := Tryz.zeroValue359
  t229 := Tryz.underlying360
  a229 := Tryz.isAgg360
  z229 := Tryz.sizeOf360
  v229 := Tryz.zeroValue360 }
def Tryz.laysCompact_ren : Go.Shelf.Ren := ⟨fun | 20 => 516 | n => n, fun | 22 => 24 | 3 => 3 | 4 => 4 | 0 => 0 | n => n, fun | n => n⟩
theorem Tryz.laysCompact : Go.Proofs.Lays2.n20 Tryz.prog Tryz.laysCompact_ren := {
  mixed := by kernel_rfl
  f20 := Tryz.func516.trans (congrArg some (by kernel_rfl))
  t0 := Tryz.underlying0
  a0 := Tryz.isAgg0
  z0 := Tryz.sizeOf0
  v0 := Tryz.zeroValue0
  t3 := Tryz.underlying3
  a3 := Tryz.isAgg3
  z3 := Tryz.sizeOf3
  v3 := Tryz.zeroValue3
  t4 := Tryz.underlying4
  a4 := Tryz.isAgg4
  z4 := Tryz.sizeOf4
  v4 := Tryz.zeroValue4
  t22 := Tryz.underlying24
  a22 := Tryz.isAgg24
  z22 := Tryz.sizeOf24
  v22 := Tryz.zeroValue24
  i3 := by kernel_rfl }
def Tryz.laysDelete_ren : Go.Shelf.Ren := ⟨fun | 23 => 564 | n => n, fun | 22 => 24 | 3 => 3 | 4 => 4 | 0 => 0 | n => n, fun | n => n⟩
theorem Tryz.laysDelete : Go.Proofs.Lays2.n23 Tryz.prog Tryz.laysDelete_ren := {
  mixed := by kernel_rfl
  f23 := Tryz.func564.trans (congrArg some (by kernel_rfl))
  t0 := Tryz.underlying0
  a0 := Tryz.isAgg0
  z0 := Tryz.sizeOf0
  v0 := Tryz.zeroValue0
  t3 := Tryz.underlying3
  a3 := Tryz.isAgg3
  z3 := Tryz.sizeOf3
  v3 := Tryz.zeroValue3
  t4 := Tryz.underlying4
  a4 := Tryz.isAgg4
  z4 := Tryz.sizeOf4
  v4 := Tryz.zeroValue4
  t22 := Tryz.underlying24
  a22 := Tryz.isAgg24
  z22 := Tryz.sizeOf24
  v22 := Tryz.zeroValue24
  i3 := by kernel_rfl }
end Go.Proofs

namespace Go.Eng
open Go Go.Proofs
def exts : List (FuncId × Ext) := [(241, .count), (250, .same), (293, .indexByte), (455, .makeNoZero 5)]
noncomputable def EA : Env := { P := Tryz.prog, G := 8, ext := lookF exts }
theorem ext_rows : ∀ p ∈ exts, ExtRow Tryz.prog p.1 p.2 := by
  have h1 : (Tryz.prog.funcs[241]?).map (fun fn => (fn.name, fn.origin, fn.body.isNone)) = some ("internal/bytealg.CountString", "", true) := by kernel_rfl
  have h2 : (Tryz.prog.funcs[250]?).map (fun fn => (fn.name, fn.origin, fn.body.isNone)) = some ("internal/abi.NoEscape", "", true) := by kernel_rfl
  have h3 : (Tryz.prog.funcs[293]?).map (fun fn => (fn.name, fn.origin, fn.body.isNone)) = some ("internal/bytealg.IndexByteString", "", true) := by kernel_rfl
  have h4 : (Tryz.prog.funcs[455]?).map (fun fn => (fn.name, fn.origin, fn.body.isNone)) = some ("internal/bytealg.MakeNoZero", "", true) := by kernel_rfl
  have h5 : (Tryz.prog.funcs[455]?).map (fun fn => fn.resultTypes.toList) = some [((Tryz.prog.funcs[455]?).map (fun fn => fn.resultTypes.getD 0 0)).getD 0] := by kernel_rfl
  have h6 : Tryz.prog.underlying (((Tryz.prog.funcs[455]?).map (fun fn => fn.resultTypes.getD 0 0)).getD 0) = some (.slice 5) := by kernel_rfl
  have go : ∀ {f : FuncId} {s : String}, (Tryz.prog.funcs[f]?).map (fun fn => (fn.name, fn.origin, fn.body.isNone)) = some (s, "", true) → ∃ fn, Tryz.prog.funcs[f]? = some fn ∧ fn.name = s ∧ fn.origin = "" ∧ fn.body = none := by
    intro f s h
    simp only [Option.map_eq_some_iff, Prod.mk.injEq] at h
    obtain ⟨fn, hf, hn, ho, hb⟩ := h
    exact ⟨fn, hf, hn, ho, by simpa using hb⟩
  intro p hp
  simp only [exts, List.mem_cons, List.not_mem_nil, or_false] at hp
  rcases hp with rfl | rfl | rfl | rfl
  · exact go h1
  · exact go h2
  · exact go h3
  · obtain ⟨fn, hf, hn, ho, hb⟩ := go h4
    refine ⟨fn, _, hf, hn, ho, hb, ?_, h6⟩
    rw [hf] at h5 ⊢
    simp only [Option.map_some, Option.some.injEq, Option.getD_some] at h5 ⊢
    apply Array.ext'
    simpa using h5
theorem okayA : Okay EA EA.G :=
  { ext := extOK_of ext_rows
    names := noCount_of (by kernel_rfl)
    mixed := by kernel_rfl
    hG := rfl
    sum := fun f v h => by cases h }
theorem ran : answersTrue EA 100000 19 = true := by kernel_rfl
theorem okayB : Okay Eb Eb.G :=
  { ext := fun f e h => by cases h
    names := okayA.names
    mixed := okayA.mixed
    hG := rfl
    sum := fun f v h => by cases h }
theorem okay0 : Okay E0 E0.G :=
  { ext := fun f e h => by cases h
    names := okayA.names
    mixed := okayA.mixed
    hG := rfl
    sum := fun f v h => by
      have h' : (bif Nat.beq f 19 then some (known (.bool true)) else bif Nat.beq f 121 then some (sortS Eb 121 mergeI) else bif Nat.beq f 516 then some (editS Eb 516 compactE) else bif Nat.beq f 564 then some (editS Eb 564 deleteE) else none) = some v := h
      cases hb : Nat.beq f 19 with
      | true =>
        rw [hb] at h'
        have := Nat.eq_of_beq_eq_true hb
        subst this
        obtain rfl := Option.some.inj h'
        intro g args H r e
        refine sum_ok okayA ran g args H r ?_
        unfold known at e
        cases h1 : Nat.beq g 19 <;> cases h2 : args.isEmpty <;> simp_all
      | false =>
      rw [hb] at h'
      cases hb : Nat.beq f 121 with
      | true =>
        rw [hb] at h'
        have := Nat.eq_of_beq_eq_true hb
        subst this
        obtain rfl := Option.some.inj h'
        exact sort_ok (ρ := Tryz.laysSort_ren) Tryz.laysSort okayB rfl ⟨_, Tryz.func121, rfl⟩
      | false =>
      rw [hb] at h'
      cases hb : Nat.beq f 516 with
      | true =>
        rw [hb] at h'
        have := Nat.eq_of_beq_eq_true hb
        subst this
        obtain rfl := Option.some.inj h'
        exact compact_ok (ρ := Tryz.laysCompact_ren) Tryz.laysCompact okayB rfl ⟨_, Tryz.func516, rfl⟩
      | false =>
      rw [hb] at h'
      cases hb : Nat.beq f 564 with
      | true =>
        rw [hb] at h'
        have := Nat.eq_of_beq_eq_true hb
        subst this
        obtain rfl := Option.some.inj h'
        exact delete_ok (ρ := Tryz.laysDelete_ren) Tryz.laysDelete okayB rfl ⟨_, Tryz.func564, rfl⟩
      | false =>
      rw [hb] at h'
      cases h' }
theorem calls_true {f : FuncId} {acs cs : List Value} {φ : Emb} {H : AHeap} {W : World} (hW : HRel 8 φ H W) (hV : Vws H) (hl : LRel φ acs cs) (h : WF E0 f [.agg acs.toArray] H fun q => q.1 = .bool true) :
    Calls Tryz.prog f #[.agg cs.toArray] W fun e W' => e = .returned (.bool true) ∧ RowKit.Below W.heap.size W W' := by
  obtain ⟨n, ⟨v, H'⟩, h1, rfl⟩ := h
  obtain ⟨-, hc⟩ := callA_ok okay0 n f _ H _ h1
  intro cs'
  obtain ⟨fr, v', w', φ', s1, h1, h2, h3, h4, h5⟩ := hc φ W #[.agg cs.toArray] (.cons (.aggL (by simpa using hl)) .nil) hW cs'
  have := h5.bool_inv
  subst this
  exact ⟨.returned (.bool true), w', fr, ⟨rfl, views_below hV h4⟩, s1, h1, h2⟩
end Go.Eng
