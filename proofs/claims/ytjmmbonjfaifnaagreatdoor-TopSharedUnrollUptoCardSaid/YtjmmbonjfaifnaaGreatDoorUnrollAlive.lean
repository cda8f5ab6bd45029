/- The closed run alive46 answers true; what the library lays. Conditions: none beyond each theorem's own. -/
import Derived.Shelf.Lays
import Derived.Shelf.Lays2
import Derived.Test.YtjmmbonjfaifnaaGreatDoorProg
import Derived.Test.YtjmmbonjfaifnaaGreatDoorUnrollF
import Derived.KernelRfl
set_option linter.all false
/-
  DERIVED: THE SHELF's CONTRACTS AT THIS DUMP, IN PLAIN WORDS (tools/lay-plain.mjs out of 'R6Shelf.lean', which tools/lay-shelf.mjs wrote): THE SAME DECLARATIONS UNDER THE SAME NAMES: 'import', 'namespace', 'open', 'def', 'theorem' AND NOTHING ELSE: no command of the shelf's: FOR A HAND-IN. Each laying: the table of numbers ('.._ren') and one theorem, a field a fact of the dump's own or the kernel's comparison; each contract: ONE APPLICATION.
-/
namespace Go.Proofs
open Go.Shelf
def Tryz.laysSort_ren : Go.Shelf.Ren := ⟨fun | 189 => 82 | 125 => 116 | 257 => 115 | 128 => 148 | 129 => 149 | 294 => 140 | 295 => 141 | 296 => 142 | 297 => 143 | 298 => 144 | 299 => 145 | 216 => 117 | 300 => 146 | 301 => 147 | 328 => 169 | 329 => 170 | 330 => 171 | 331 => 172 | 332 => 173 | 215 => 150 | 343 => 191 | n => n, fun | 28 => 22 | 3 => 3 | 46 => 200 | 0 => 0 | 51 => 233 | 53 => 235 | 4 => 4 | 183 => 227 | 182 => 226 | 131 => 144 | 5 => 5 | 9 => 9 | 218 => 257 | 222 => 134 | 228 => 265 | 229 => 131 | n => n, fun | n => n⟩
theorem Tryz.laysSort : Go.Proofs.Lays.n189 Tryz.prog Tryz.laysSort_ren := {
  mixed := by kernel_rfl
  f125 := Tryz.func116.trans (congrArg some (by kernel_rfl))
  f128 := Tryz.func148.trans (congrArg some (by kernel_rfl))
  f129 := Tryz.func149.trans (congrArg some (by kernel_rfl))
  f189 := Tryz.func82.trans (congrArg some (by kernel_rfl))
  f215 := Tryz.func150.trans (congrArg some (by kernel_rfl))
  f216 := Tryz.func117.trans (congrArg some (by kernel_rfl))
  f257 := Tryz.func115.trans (congrArg some (by kernel_rfl))
  f294 := Tryz.func140.trans (congrArg some (by kernel_rfl))
  f295 := Tryz.func141.trans (congrArg some (by kernel_rfl))
  f296 := Tryz.func142.trans (congrArg some (by kernel_rfl))
  f297 := Tryz.func143.trans (congrArg some (by kernel_rfl))
  f298 := Tryz.func144.trans (congrArg some (by kernel_rfl))
  f299 := Tryz.func145.trans (congrArg some (by kernel_rfl))
  f300 := Tryz.func146.trans (congrArg some (by kernel_rfl))
  f301 := Tryz.func147.trans (congrArg some (by kernel_rfl))
  f328 := Tryz.func169.trans (congrArg some (by kernel_rfl))
  f329 := Tryz.func170.trans (congrArg some (by kernel_rfl))
  f330 := Tryz.func171.trans (congrArg some (by kernel_rfl))
  f331 := Tryz.func172.trans (congrArg some (by kernel_rfl))
  f332 := Tryz.func173.trans (congrArg some (by kernel_rfl))
  f343 := Tryz.func191.trans (congrArg some (by kernel_rfl))
  t0 := Tryz.underlying0
  a0 := Tryz.isAgg0
  z0 := Tryz.sizeOf0
  v0 := Tryz.zeroValue0
  t3 := Tryz.underlying3
  a3 := Tryz.isAgg3
  z3 := Tryz.sizeOf3
  v3 := Tryz.zeroValue3
  t4 := Tryz.underlying4
  a4 := Tryz.isAgg4
  z4 := Tryz.sizeOf4
  v4 := Tryz.zeroValue4
  t5 := Tryz.underlying5
  a5 := Tryz.isAgg5
  z5 := Tryz.sizeOf5
  v5 := Tryz.zeroValue5
  t9 := Tryz.underlying9
  a9 := Tryz.isAgg9
  z9 := Tryz.sizeOf9
  v9 := Tryz.zeroValue9
  t28 := Tryz.underlying22
  a28 := Tryz.isAgg22
  z28 := Tryz.sizeOf22
  v28 := Tryz.zeroValue22
  t46 := Tryz.underlying200
  a46 := Tryz.isAgg200
  z46 := Tryz.sizeOf200
  v46 := Tryz.zeroValue200
  t51 := Tryz.underlying233
  a51 := Tryz.isAgg233
  z51 := Tryz.sizeOf233
  v51 := Tryz.zeroValue233
  t53 := Tryz.underlying235
  a53 := Tryz.isAgg235
  z53 := Tryz.sizeOf235
  v53 := Tryz.zeroValue235
  t131 := Tryz.underlying144
  a131 := Tryz.isAgg144
  z131 := Tryz.sizeOf144
  v131 := Tryz.zeroValue144
  t182 := Tryz.underlying226
  a182 := Tryz.isAgg226
  z182 := Tryz.sizeOf226
  v182 := Tryz.zeroValue226
  t183 := Tryz.underlying227
  a183 := Tryz.isAgg227
  z183 := Tryz.sizeOf227
  v183 := Tryz.zeroValue227
  t218 := Tryz.underlying257
  a218 := Tryz.isAgg257
  z218 := Tryz.sizeOf257
  v218 := Tryz.zeroValue257
  t222 := Tryz.underlying134
  a222 := Tryz.isAgg134
  z222 := Tryz.sizeOf134
  v222 := Tryz.zeroValue134
  t228 := Tryz.underlying265
  a228 := Tryz.isAgg265
  z228 := Tryz.sizeOf265
  v228 := Tryz.zeroValue265
  t229 := Tryz.underlying131
  a229 := Tryz.isAgg131
  z229 := Tryz.sizeOf131
  v229 := Tryz.zeroValue131 }
def Tryz.laysCompact_ren : Go.Shelf.Ren := ⟨fun | 20 => 83 | n => n, fun | 22 => 22 | 3 => 3 | 4 => 4 | 0 => 0 | n => n, fun | n => n⟩
theorem Tryz.laysCompact : Go.Proofs.Lays2.n20 Tryz.prog Tryz.laysCompact_ren := {
  mixed := by kernel_rfl
  f20 := Tryz.func83.trans (congrArg some (by kernel_rfl))
  t0 := Tryz.underlying0
  a0 := Tryz.isAgg0
  z0 := Tryz.sizeOf0
  v0 := Tryz.zeroValue0
  t3 := Tryz.underlying3
  a3 := Tryz.isAgg3
  z3 := Tryz.sizeOf3
  v3 := Tryz.zeroValue3
  t4 := Tryz.underlying4
  a4 := Tryz.isAgg4
  z4 := Tryz.sizeOf4
  v4 := Tryz.zeroValue4
  t22 := Tryz.underlying22
  a22 := Tryz.isAgg22
  z22 := Tryz.sizeOf22
  v22 := Tryz.zeroValue22
  i3 := by kernel_rfl }
def Tryz.laysDelete_ren : Go.Shelf.Ren := ⟨fun | 23 => 94 | n => n, fun | 22 => 22 | 3 => 3 | 4 => 4 | 0 => 0 | n => n, fun | n => n⟩
theorem Tryz.laysDelete : Go.Proofs.Lays2.n23 Tryz.prog Tryz.laysDelete_ren := {
  mixed := by kernel_rfl
  f23 := Tryz.func94.trans (congrArg some (by kernel_rfl))
  t0 := Tryz.underlying0
  a0 := Tryz.isAgg0
  z0 := Tryz.sizeOf0
  v0 := Tryz.zeroValue0
  t3 := Tryz.underlying3
  a3 := Tryz.isAgg3
  z3 := Tryz.sizeOf3
  v3 := Tryz.zeroValue3
  t4 := Tryz.underlying4
  a4 := Tryz.isAgg4
  z4 := Tryz.sizeOf4
  v4 := Tryz.zeroValue4
  t22 := Tryz.underlying22
  a22 := Tryz.isAgg22
  z22 := Tryz.sizeOf22
  v22 := Tryz.zeroValue22
  i3 := by kernel_rfl }
end Go.Proofs

namespace Go.Eng
open Go Go.Proofs

/-- The closed call's own environment: with what the model answers itself. -/
def exts : List (FuncId × Ext) := [(159, .count), (168, .same), (195, .indexByte), (395, .makeNoZero 5)]
noncomputable def EA : Env := { P := Tryz.prog, G := 8, ext := lookF exts }
theorem ext_rows : ∀ p ∈ exts, ExtRow Tryz.prog p.1 p.2 := by
  have h1 : (Tryz.prog.funcs[159]?).map (fun fn => (fn.name, fn.origin, fn.body.isNone)) = some ("internal/bytealg.CountString", "", true) := by kernel_rfl
  have h2 : (Tryz.prog.funcs[168]?).map (fun fn => (fn.name, fn.origin, fn.body.isNone)) = some ("internal/abi.NoEscape", "", true) := by kernel_rfl
  have h3 : (Tryz.prog.funcs[195]?).map (fun fn => (fn.name, fn.origin, fn.body.isNone)) = some ("internal/bytealg.IndexByteString", "", true) := by kernel_rfl
  have h4 : (Tryz.prog.funcs[395]?).map (fun fn => (fn.name, fn.origin, fn.body.isNone)) = some ("internal/bytealg.MakeNoZero", "", true) := by kernel_rfl
  have h5 : (Tryz.prog.funcs[395]?).map (fun fn => fn.resultTypes.toList) = some [((Tryz.prog.funcs[395]?).map (fun fn => fn.resultTypes.getD 0 0)).getD 0] := by kernel_rfl
  have h6 : Tryz.prog.underlying (((Tryz.prog.funcs[395]?).map (fun fn => fn.resultTypes.getD 0 0)).getD 0) = some (.slice 5) := by kernel_rfl
  have go : ∀ {f : FuncId} {s : String}, (Tryz.prog.funcs[f]?).map (fun fn => (fn.name, fn.origin, fn.body.isNone)) = some (s, "", true) → ∃ fn, Tryz.prog.funcs[f]? = some fn ∧ fn.name = s ∧ fn.origin = "" ∧ fn.body = none := by
    intro f s h
    simp only [Option.map_eq_some_iff, Prod.mk.injEq] at h
    obtain ⟨fn, hf, hn, ho, hb⟩ := h
    exact ⟨fn, hf, hn, ho, by simpa using hb⟩
  intro p hp
  simp only [exts, List.mem_cons, List.not_mem_nil, or_false] at hp
  rcases hp with rfl | rfl | rfl | rfl
  · exact go h1
  · exact go h2
  · exact go h3
  · obtain ⟨fn, hf, hn, ho, hb⟩ := go h4
    refine ⟨fn, _, hf, hn, ho, hb, ?_, h6⟩
    rw [hf] at h5 ⊢
    simp only [Option.map_some, Option.some.injEq, Option.getD_some] at h5 ⊢
    apply Array.ext'
    simpa using h5
theorem okayA : Okay EA EA.G :=
  { ext := extOK_of ext_rows
    names := noCount_of (by kernel_rfl)
    mixed := by kernel_rfl
    hG := rfl
    sum := fun f v h => by cases h }
theorem ran : answersTrue EA 100000 17 = true := by kernel_rfl
theorem okayB : Okay Eb Eb.G :=
  { ext := fun f e h => by cases h
    names := okayA.names
    mixed := okayA.mixed
    hG := rfl
    sum := fun f v h => by cases h }
theorem okay0 : Okay E0 E0.G :=
  { ext := fun f e h => by cases h
    names := okayA.names
    mixed := okayA.mixed
    hG := rfl
    sum := fun f v h => by
      have h' : (bif Nat.beq f 17 then some (known (.bool true)) else bif Nat.beq f 82 then some (sortS Eb 82 mergeI) else bif Nat.beq f 83 then some (editS Eb 83 compactE) else bif Nat.beq f 94 then some (editS Eb 94 deleteE) else none) = some v := h
      cases hb : Nat.beq f 17 with
      | true =>
        rw [hb] at h'
        have := Nat.eq_of_beq_eq_true hb
        subst this
        obtain rfl := Option.some.inj h'
        intro g args H r e
        refine sum_ok okayA ran g args H r ?_
        unfold known at e
        cases h1 : Nat.beq g 17 <;> cases h2 : args.isEmpty <;> simp_all
      | false =>
      rw [hb] at h'
      cases hb : Nat.beq f 82 with
      | true =>
        rw [hb] at h'
        have := Nat.eq_of_beq_eq_true hb
        subst this
        obtain rfl := Option.some.inj h'
        exact sort_ok (ρ := Tryz.laysSort_ren) Tryz.laysSort okayB rfl ⟨_, Tryz.func82, rfl⟩
      | false =>
      rw [hb] at h'
      cases hb : Nat.beq f 83 with
      | true =>
        rw [hb] at h'
        have := Nat.eq_of_beq_eq_true hb
        subst this
        obtain rfl := Option.some.inj h'
        exact compact_ok (ρ := Tryz.laysCompact_ren) Tryz.laysCompact okayB rfl ⟨_, Tryz.func83, rfl⟩
      | false =>
      rw [hb] at h'
      cases hb : Nat.beq f 94 with
      | true =>
        rw [hb] at h'
        have := Nat.eq_of_beq_eq_true hb
        subst this
        obtain rfl := Option.some.inj h'
        exact delete_ok (ρ := Tryz.laysDelete_ren) Tryz.laysDelete okayB rfl ⟨_, Tryz.func94, rfl⟩
      | false =>
      rw [hb] at h'
      cases h' }
/-- From the interpreter to the machine: a call that answers true, over views. -/
theorem calls_true {f : FuncId} {acs cs : List Value} {φ : Emb} {H : AHeap} {W : World} (hW : HRel 8 φ H W) (hV : Vws H) (hl : LRel φ acs cs) (h : WF E0 f [.agg acs.toArray] H fun q => q.1 = .bool true) :
    Calls Tryz.prog f #[.agg cs.toArray] W fun e W' => e = .returned (.bool true) ∧ RowKit.Below W.heap.size W W' := by
  obtain ⟨n, ⟨v, H'⟩, h1, rfl⟩ := h
  obtain ⟨-, hc⟩ := callA_ok okay0 n f _ H _ h1
  intro cs'
  obtain ⟨fr, v', w', φ', s1, h1, h2, h3, h4, h5⟩ := hc φ W #[.agg cs.toArray] (.cons (.aggL (by simpa using hl)) .nil) hW cs'
  have := h5.bool_inv
  subst this
  exact ⟨.returned (.bool true), w', fr, ⟨rfl, views_below hV h4⟩, s1, h1, h2⟩

end Go.Eng
