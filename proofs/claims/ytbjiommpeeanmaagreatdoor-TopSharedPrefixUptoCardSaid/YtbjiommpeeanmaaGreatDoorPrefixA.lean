/- The functions that see and own the arguments of TopSharedPrefix keep their contracts. Conditions: none beyond each theorem's own. -/
import Derived.Test.YtbjiommpeeanmaaGreatDoorSee
import Derived.KernelRfl
set_option linter.all false
namespace Go.Eng
open Go Go.Proofs
theorem ag4_APrefix : isAggT E0.P 4 = some false := by kernel_rfl
theorem sz3_APrefix : sizeT E0.P 3 = some 1 := by kernel_rfl
theorem fo136_0_APrefix : foff E0.P 136 0 = some 0 := by kernel_rfl
theorem ag24_APrefix : isAggT E0.P 24 = some false := by kernel_rfl
theorem el24_APrefix : elemT E0.P 24 = some 3 := by kernel_rfl
theorem ez3_APrefix : elemZ E0.P 3 = some (1, [.int .i64 0]) := by kernel_rfl
theorem sb3_APrefix : smallBytes E0.P 3 = true := by kernel_rfl
theorem un24_APrefix : E0.P.underlying 24 = some (.slice 3) := by kernel_rfl
theorem sz24_APrefix : sizeT E0.P 24 = some 1 := by kernel_rfl
theorem un33_APrefix : E0.P.underlying 33 = some (.slice 47) := by kernel_rfl
theorem sz47_APrefix : sizeT E0.P 47 = some 1 := by kernel_rfl
theorem ag47_APrefix : isAggT E0.P 47 = some false := by kernel_rfl
theorem sz136_APrefix : sizeT E0.P 136 = some 5 := by kernel_rfl
theorem ag136_APrefix : isAggT E0.P 136 = some true := by kernel_rfl
theorem un34_APrefix : E0.P.underlying 34 = some (.slice 24) := by kernel_rfl
theorem fo26_0_APrefix : foff E0.P 26 0 = some 0 := by kernel_rfl
theorem fo26_1_APrefix : foff E0.P 26 1 = some 1 := by kernel_rfl
theorem ag22_APrefix : isAggT E0.P 22 = some false := by kernel_rfl
theorem un22_APrefix : E0.P.underlying 22 = some (.slice 150) := by kernel_rfl
theorem fo26_2_APrefix : foff E0.P 26 2 = some 2 := by kernel_rfl
theorem ag23_APrefix : isAggT E0.P 23 = some false := by kernel_rfl
theorem un23_APrefix : E0.P.underlying 23 = some (.slice 187) := by kernel_rfl
theorem sz150_APrefix : sizeT E0.P 150 = some 2 := by kernel_rfl
theorem fo150_0_APrefix : foff E0.P 150 0 = some 0 := by kernel_rfl
theorem fo150_1_APrefix : foff E0.P 150 1 = some 1 := by kernel_rfl
theorem ag26_APrefix : isAggT E0.P 26 = some true := by kernel_rfl
theorem sz26_APrefix : sizeT E0.P 26 = some 5 := by kernel_rfl
theorem fo26_3_APrefix : foff E0.P 26 3 = some 3 := by kernel_rfl
theorem fo26_4_APrefix : foff E0.P 26 4 = some 4 := by kernel_rfl
theorem sz187_APrefix : sizeT E0.P 187 = some 2 := by kernel_rfl
theorem fo187_1_APrefix : foff E0.P 187 1 = some 1 := by kernel_rfl
theorem fo187_0_APrefix : foff E0.P 187 0 = some 0 := by kernel_rfl
theorem el23_APrefix : elemT E0.P 23 = some 187 := by kernel_rfl
theorem ez187_APrefix : elemZ E0.P 187 = some (2, [.int .i64 0, .int .i64 0]) := by kernel_rfl
theorem sb187_APrefix : smallBytes E0.P 187 = true := by kernel_rfl
theorem el22_APrefix : elemT E0.P 22 = some 150 := by kernel_rfl
theorem ez150_APrefix : elemZ E0.P 150 = some (2, [.int .i64 0, .int .i64 0]) := by kernel_rfl
theorem sb150_APrefix : smallBytes E0.P 150 = true := by kernel_rfl
theorem fo36_0_APrefix : foff E0.P 36 0 = some 0 := by kernel_rfl
theorem fo36_1_APrefix : foff E0.P 36 1 = some 1 := by kernel_rfl
theorem sz23_APrefix : sizeT E0.P 23 = some 1 := by kernel_rfl
theorem zt26_APrefix : zeroT E0.P 26 = some [.int .i64 0, .slice none 0 0, .slice none 0 0, .slice none 0 0, .slice none 0 0] := by kernel_rfl
theorem fo38_3_APrefix : foff E0.P 38 3 = some 3 := by kernel_rfl
theorem ag34_APrefix : isAggT E0.P 34 = some false := by kernel_rfl
theorem fo38_2_APrefix : foff E0.P 38 2 = some 2 := by kernel_rfl
theorem fo38_4_APrefix : foff E0.P 38 4 = some 4 := by kernel_rfl
theorem sz22_APrefix : sizeT E0.P 22 = some 1 := by kernel_rfl
theorem fo38_5_APrefix : foff E0.P 38 5 = some 5 := by kernel_rfl
theorem fo38_0_APrefix : foff E0.P 38 0 = some 0 := by kernel_rfl
theorem fo38_1_APrefix : foff E0.P 38 1 = some 1 := by kernel_rfl
theorem fo136_4_APrefix : foff E0.P 136 4 = some 4 := by kernel_rfl
theorem fo28_0_APrefix : foff E0.P 28 0 = some 0 := by kernel_rfl
theorem fo28_1_APrefix : foff E0.P 28 1 = some 5 := by kernel_rfl
theorem zt28_APrefix : zeroT E0.P 28 = some [.int .i64 0, .slice none 0 0, .slice none 0 0, .slice none 0 0, .slice none 0 0, .int .i64 0] := by kernel_rfl
theorem ag28_APrefix : isAggT E0.P 28 = some true := by kernel_rfl
theorem sz28_APrefix : sizeT E0.P 28 = some 6 := by kernel_rfl
theorem fo40_0_APrefix : foff E0.P 40 0 = some 0 := by kernel_rfl
theorem fo40_1_APrefix : foff E0.P 40 1 = some 5 := by kernel_rfl
theorem zt136_APrefix : zeroT E0.P 136 = some [.slice none 0 0, .slice none 0 0, .bool false, .int .i64 0, .bool false] := by kernel_rfl
theorem un49_APrefix : E0.P.underlying 49 = some (.slice 48) := by kernel_rfl
theorem sz48_APrefix : sizeT E0.P 48 = some 1 := by kernel_rfl
theorem ag48_APrefix : isAggT E0.P 48 = some false := by kernel_rfl
theorem see_197 (tS : Nat) : SeeOK E0 3 tS 197 (.fld 0 (.num .i64) (.fld 1 (.num .i64) .nil)) := by
  refine SeeOK.of fun H be oe n0 s0 mark room re Fn Fs bx o rx ns ss D h0 => ?_
  refine WF.k Tryz.func197 rfl rfl ?_
  refine KC.seq (KC.region ?_)
  refine KO.pv (PV.move rfl) rfl rfl ?_
  refine KO.pv (PV.move rfl) rfl rfl ?_
  refine KO.pv (PV.nilCheck rfl) rfl rfl ?_
  refine KO.pv (PV.fieldAddr fo150_0_APrefix rfl) rfl rfl ?_
  refine KO.call rfl rfl rfl rfl (Pre.fld (num_int tS) rfl h0) fun v0 G0 q0 => ?_
  refine KO.nil ?_
  obtain ⟨_, _, _, _, _, _, _, _, _, h1, k0⟩ := q0
  refine KC.region ?_
  refine KO.pv (PV.move rfl) rfl rfl ?_
  refine KO.pv (PV.move rfl) rfl rfl ?_
  refine KO.pv (PV.nilCheck rfl) rfl rfl ?_
  refine KO.pv (PV.fieldAddr fo150_1_APrefix rfl) rfl rfl ?_
  refine KO.call rfl rfl rfl rfl (Pre.fld (num_int tS) rfl h1) fun v1 G1 q1 => ?_
  refine KO.nil ?_
  obtain ⟨_, _, _, _, _, _, _, _, _, h2, k1⟩ := q1
  exact ⟨rfl, _, rfl, (k0 _ (k1 _ (Pre.nil h2)))⟩
theorem all_196 (tS : Nat) {g : FuncId} {s : Sh} (hg : SeeOK E0 3 tS g s) (hx : E0.ext g = none) (hok : s.cells.all (fun i => Nat.blt i 2) = true) (H : AHeap) (be oe : Nat) (n0 : List Int) (s0 : List ByteArray) (mark : Bool) (room : Md) (at_ : Int) (re : Row) (Fn Fs : List Nat) (a : Option Addr) (len cap : Nat) (ns : List Int) (ss : List ByteArray) (D : List Nat)
    (he : Eye 3 tS H be oe n0 s0 mark room.r at_ re Fn Fs) (hwm : mark = true ∨ s.bools = true → room.w = true) (hmk : mark = true → room.k = false) (hlc : len ≤ cap ∧ cnt room.r len cap ≤ 1000000000) (hroom : room.r = true → exactBase a = true) (hL : LRd H room s 2 a (cnt room.r len cap) ns ss D)
    (hD : ∀ j ∈ D, j < H.next) (d1 : be ∉ D) (d2 : ∀ j ∈ D, j ∉ Fn) (d3 : ∀ j ∈ D, j ∉ Fs) (hm : mark = true → D.Nodup) (l1 : n0.length + (ns.length + 1) ≤ 1000000000) (l2 : s0.length + ss.length ≤ 1000000000) :
    WF E0 196 [.pointer (some ⟨be, oe, none⟩), .slice a len cap, .func (.func g) #[] #[]] H fun q => SeenL 3 tS s 2 H be oe (n0 ++ [(len : Int)]) s0 mark room re Fn Fs a (cnt room.r len cap) ns ss D q.2 := by
  refine WF.k Tryz.func196 rfl rfl ?_
  obtain ⟨nv, hnv, hnL⟩ := he.n
  have hre := lt_of_get hnv
  refine KC.seq (KC.region ?_)
  refine KO.pv (PV.move rfl) rfl rfl ?_
  refine KO.pv (PV.move rfl) rfl rfl ?_
  refine KO.pv (PV.nilCheck rfl) rfl rfl ?_
  refine KO.pv (PV.fieldAddr fo136_0_APrefix rfl) rfl rfl ?_
  refine KO.load1 ag24_APrefix rfl (he.row) (hnv) rfl rfl ?_
  refine KO.pv (PV.move rfl) rfl rfl ?_
  refine KO.pv (PV.len un22_APrefix rfl) rfl rfl ?_
  refine KO.buildSlice el24_APrefix ez3_APrefix rfl rfl (rfl) rfl rfl fun H1 n1 => ?_
  have he1 : Eye 3 tS H1 be oe n0 s0 mark room.r at_ re Fn Fs := he.frame (by rw [n1.next]; exact Nat.le_succ _) (fun j hj => by rw [n1.row, if_neg]; rcases hj with rfl | hj | hj; have := he.ltb; omega; have := he.ltn j hj; omega; have := he.lts j hj; omega)
  have hnL1 : Lst H1 3 1 nv (n0.map (Value.int .i64)) Fn := hnL.frame (fun j hj => by have hj2 := he.ltn j hj; rw [n1.row, if_neg (by omega)])
  refine KO.append el24_APrefix ez3_APrefix sb3_APrefix un24_APrefix rfl rfl (hnL1) ((newElems_one (n1.row _ ▸ if_pos rfl) rfl rfl)) (rfl) ((ints_one _)) ((by simp only [List.length_map, List.length_cons, List.length_nil]; omega)) rfl rfl fun v2 H2 D2 k1 k2 k3 k4 => ?_
  refine KO.pv (PV.nilCheck rfl) rfl rfl ?_
  refine KO.pv (PV.fieldAddr fo136_0_APrefix rfl) rfl rfl ?_
  have hbe2 : H2.row be = some re := by rw [k3 be he1.bn he1.ltb]; exact he1.row
  refine KO.store1 sz24_APrefix rfl rfl (k1.one) (hbe2) (he1.rw) (hre) rfl fun H3 u3 => ?_
  refine KO.nil ?_
  obtain ⟨hq1, hq2, hq3⟩ := Eye.push (x := (len : Int)) he1 (by rw [List.map_append]; exact k1) k2 k3 k4 u3
  have hkk : ∀ j, j < H.next → j ≠ be → j ∉ Fn → H3.row j = H.row j := fun j j0 j1 j2 => by
    rw [hq3 j (by rw [n1.next]; omega) j1 j2, n1.row, if_neg (by omega)]
  have hnx : H.next ≤ H3.next := by have := hq2; rw [n1.next] at this; omega
  have hL3 := hL.frame (H' := H3) (fun j hj => hkk j (hD j hj) (fun e => d1 (e ▸ hj)) (d2 j hj))
  have hF3 : ∀ j ∈ D2, j ∈ Fn ∨ H.next ≤ j := fun j hj => by
    rcases k4 j hj with h | ⟨h, -⟩
    · exact .inl h
    · refine .inr ?_; rw [n1.next] at h; omega
  have hER : EyeRow oe re ⟨re.elem, re.whole, true, putL re.cs oe [v2]⟩ := ⟨rfl, rfl, putL_length (show oe + [v2].length ≤ _ from hre), fun i i1 i2 i3 => (putL1 hre i).trans (if_neg i1)⟩
  obtain ⟨J, J0, JS, JE⟩ := list_J hg hok hwm hmk hq1 hL3 (fun j hj => Nat.lt_of_lt_of_le (hD j hj) hnx) d1 (fun j hj hf => by rcases hF3 j hf with h | h; exact d2 j hj h; have := hD j hj; omega) d3 hm (by rw [List.length_append, List.length_singleton]; omega) l2
  refine KC.seq (KC.seq (KC.region ?_))
  refine KO.pv (PV.move rfl) rfl rfl ?_
  refine KO.pv (PV.nilCheck rfl) rfl rfl ?_
  refine KO.pv (PV.fieldAddr fo136_4_APrefix rfl) rfl rfl ?_
  refine KO.load1 ag4_APrefix rfl (hq1.row) (hq1.room) rfl rfl ?_
  refine KO.nil ?_
  refine KC.mono (Q := fun e l' H' => e = .normal ∧ H' = H3 ∧ Sub [(0, .pointer (some ⟨be, oe, none⟩)), (1, .slice a (cnt room.r len cap) cap), (2, .func (.func g) #[] #[])] l') ?_ ?_
  · refine KC.cond rfl (fun hb => ?_) (fun hb => ?_)
    · refine KC.region ?_
      refine KO.pv (PV.move rfl) rfl rfl ?_
      refine KO.pv (PV.move rfl) rfl rfl ?_
      refine KO.pv (PV.cap un22_APrefix ((hroom hb)) rfl) rfl rfl ?_
      refine KO.pv (PV.slice rfl (fun _ h => by cases h) (fun _ => rfl) (fun _ h => by cases h; exact ⟨_, rfl, rfl⟩) (fun h => by cases h) (fun _ h => by cases h) (fun _ => rfl) (slice_cap un22_APrefix sz150_APrefix (hroom hb))) rfl rfl ?_
      refine KO.pv (PV.assign rfl) rfl rfl ?_
      refine KO.nil ?_
      exact ⟨rfl, rfl, .cons rfl (.cons (by rw [cnt, if_pos hb]; rfl) (.cons rfl .nil))⟩
    · exact KC.skip ⟨rfl, rfl, .cons rfl (.cons (by rw [cnt, if_neg (by rw [hb]; simp)]; rfl) (.cons rfl .nil))⟩
  · rintro e l' H' ⟨rfl, rfl, hsub⟩
    refine KC.sub hsub (KC.seq (KC.region ?_))
    refine KO.pv (PV.assign rfl) rfl rfl ?_
    refine KO.nil ?_
    have hcb := hlc.2
    generalize cnt room.r len cap = c at *
    refine KC.sub (l' := [(0, .pointer (some ⟨be, oe, none⟩)), (1, .slice a c cap), (2, .func (.func g) #[] #[]), (6, .int .i64 ((0 : Nat) : Int))]) (.cons rfl (.cons rfl (.cons rfl (.cons rfl .nil)))) ?_
    refine KC.block (KC.loopN (fun k l Hi => ∃ i : Nat, i + k = c ∧ l = [(0, .pointer (some ⟨be, oe, none⟩)), (1, .slice a c cap), (2, .func (.func g) #[] #[]), (6, .int .i64 (i : Int))] ∧ J i Hi) ?_ c ?_)
    rotate_left
    · exact ⟨0, by omega, rfl, J0⟩
    rintro k l Hi ⟨i, hik, rfl, hJ⟩
    refine KC.seq (KC.seq (KC.region ?_))
    refine KO.pv (PV.move rfl) rfl rfl ?_
    refine KO.pv (PV.move rfl) rfl rfl ?_
    refine KO.pv (PV.len un22_APrefix rfl) rfl rfl ?_
    refine KO.pv (PV.lss rfl rfl) rfl rfl ?_
    refine KO.nil ?_
    refine KC.cond rfl (fun hb => KC.skip ?_) (fun hb => KC.exit ?_)
    · have hi : i < c := by simpa using hb
      obtain ⟨b, off, sp, rfl, hw⟩ := JS i Hi hi hJ
      refine KC.seq (KC.block (KC.region ?_))
      refine KO.pv (PV.move rfl) rfl rfl ?_
      refine KO.pv (PV.move rfl) rfl rfl ?_
      refine KO.pv (PV.move rfl) rfl rfl ?_
      refine KO.pv (PV.move rfl) rfl rfl ?_
      refine KO.pv (PV.indexAddr un22_APrefix sz150_APrefix rfl rfl (hi)) rfl rfl ?_
      refine KO.callV (rfl) (hx) rfl rfl rfl (hw) fun v4 H4 hJ4 => ?_
      refine KO.nil ?_
      refine KC.region ?_
      refine KO.pv (PV.move rfl) rfl rfl ?_
      refine KO.pv (PV.add rfl rfl ((show _ = ((i + 1 : Nat) : Int) from wrap64 (by omega) (by omega)))) rfl rfl ?_
      refine KO.pv (PV.assign rfl) rfl rfl ?_
      refine KO.nil ?_
      exact ⟨k - 1, _, by omega, .cons rfl (.cons rfl (.cons rfl (.cons rfl .nil))), i + 1, by omega, rfl, hJ4⟩
    · have hi : i = c := by
        have : ¬ (i : Int) < (c : Int) := by simpa using hb
        omega
      subst hi
      exact ⟨rfl, _, rfl, (JE _ hJ).back hER hnx hkk hF3 hD d1 d2⟩
theorem see_147 (tS : Nat) : SeeOK E0 3 tS 147 (.list 2 (.fld 0 (.num .i64) (.fld 1 (.num .i64) .nil))) := by
  refine SeeOK.of fun H be oe n0 s0 mark room re Fn Fs bx o rx ns ss D h => ?_
  obtain ⟨a, len, cap, hc, hlc, hroom, n1, rfl, hL⟩ := h.rd
  refine WF.k Tryz.func147 rfl rfl (KC.region ?_)
  obtain ⟨at_, he⟩ := h.eye
  refine KO.pv (PV.move rfl) rfl rfl ?_
  refine KO.pv (PV.move rfl) rfl rfl ?_
  refine KO.pv (PV.nilCheck rfl) rfl rfl ?_
  refine KO.load1 ag22_APrefix rfl (h.x) (hc) rfl rfl ?_
  refine KO.call rfl rfl rfl rfl (all_196 tS (g := 197) (see_197 tS) rfl rfl H be oe n0 s0 mark room at_ re Fn Fs a len cap n1 ss D he h.wm h.mkk hlc hroom hL h.ltD h.a4 h.a5 h.a6 (fun hm => (h.mkd hm).1) h.l1 h.l2) fun v H1 h1 => ?_
  refine KO.nil ?_
  exact ⟨rfl, _, rfl, Seen.ofL h hc hlc hroom h1⟩
theorem see_199 (tS : Nat) : SeeOK E0 3 tS 199 (.fld 0 (.num .i64) (.fld 1 (.num .i64) .nil)) := by
  refine SeeOK.of fun H be oe n0 s0 mark room re Fn Fs bx o rx ns ss D h0 => ?_
  refine WF.k Tryz.func199 rfl rfl ?_
  refine KC.seq (KC.region ?_)
  refine KO.pv (PV.move rfl) rfl rfl ?_
  refine KO.pv (PV.move rfl) rfl rfl ?_
  refine KO.pv (PV.nilCheck rfl) rfl rfl ?_
  refine KO.pv (PV.fieldAddr fo187_0_APrefix rfl) rfl rfl ?_
  refine KO.call rfl rfl rfl rfl (Pre.fld (num_int tS) rfl h0) fun v0 G0 q0 => ?_
  refine KO.nil ?_
  obtain ⟨_, _, _, _, _, _, _, _, _, h1, k0⟩ := q0
  refine KC.region ?_
  refine KO.pv (PV.move rfl) rfl rfl ?_
  refine KO.pv (PV.move rfl) rfl rfl ?_
  refine KO.pv (PV.nilCheck rfl) rfl rfl ?_
  refine KO.pv (PV.fieldAddr fo187_1_APrefix rfl) rfl rfl ?_
  refine KO.call rfl rfl rfl rfl (Pre.fld (num_int tS) rfl h1) fun v1 G1 q1 => ?_
  refine KO.nil ?_
  obtain ⟨_, _, _, _, _, _, _, _, _, h2, k1⟩ := q1
  exact ⟨rfl, _, rfl, (k0 _ (k1 _ (Pre.nil h2)))⟩
theorem all_198 (tS : Nat) {g : FuncId} {s : Sh} (hg : SeeOK E0 3 tS g s) (hx : E0.ext g = none) (hok : s.cells.all (fun i => Nat.blt i 2) = true) (H : AHeap) (be oe : Nat) (n0 : List Int) (s0 : List ByteArray) (mark : Bool) (room : Md) (at_ : Int) (re : Row) (Fn Fs : List Nat) (a : Option Addr) (len cap : Nat) (ns : List Int) (ss : List ByteArray) (D : List Nat)
    (he : Eye 3 tS H be oe n0 s0 mark room.r at_ re Fn Fs) (hwm : mark = true ∨ s.bools = true → room.w = true) (hmk : mark = true → room.k = false) (hlc : len ≤ cap ∧ cnt room.r len cap ≤ 1000000000) (hroom : room.r = true → exactBase a = true) (hL : LRd H room s 2 a (cnt room.r len cap) ns ss D)
    (hD : ∀ j ∈ D, j < H.next) (d1 : be ∉ D) (d2 : ∀ j ∈ D, j ∉ Fn) (d3 : ∀ j ∈ D, j ∉ Fs) (hm : mark = true → D.Nodup) (l1 : n0.length + (ns.length + 1) ≤ 1000000000) (l2 : s0.length + ss.length ≤ 1000000000) :
    WF E0 198 [.pointer (some ⟨be, oe, none⟩), .slice a len cap, .func (.func g) #[] #[]] H fun q => SeenL 3 tS s 2 H be oe (n0 ++ [(len : Int)]) s0 mark room re Fn Fs a (cnt room.r len cap) ns ss D q.2 := by
  refine WF.k Tryz.func198 rfl rfl ?_
  obtain ⟨nv, hnv, hnL⟩ := he.n
  have hre := lt_of_get hnv
  refine KC.seq (KC.region ?_)
  refine KO.pv (PV.move rfl) rfl rfl ?_
  refine KO.pv (PV.move rfl) rfl rfl ?_
  refine KO.pv (PV.nilCheck rfl) rfl rfl ?_
  refine KO.pv (PV.fieldAddr fo136_0_APrefix rfl) rfl rfl ?_
  refine KO.load1 ag24_APrefix rfl (he.row) (hnv) rfl rfl ?_
  refine KO.pv (PV.move rfl) rfl rfl ?_
  refine KO.pv (PV.len un23_APrefix rfl) rfl rfl ?_
  refine KO.buildSlice el24_APrefix ez3_APrefix rfl rfl (rfl) rfl rfl fun H1 n1 => ?_
  have he1 : Eye 3 tS H1 be oe n0 s0 mark room.r at_ re Fn Fs := he.frame (by rw [n1.next]; exact Nat.le_succ _) (fun j hj => by rw [n1.row, if_neg]; rcases hj with rfl | hj | hj; have := he.ltb; omega; have := he.ltn j hj; omega; have := he.lts j hj; omega)
  have hnL1 : Lst H1 3 1 nv (n0.map (Value.int .i64)) Fn := hnL.frame (fun j hj => by have hj2 := he.ltn j hj; rw [n1.row, if_neg (by omega)])
  refine KO.append el24_APrefix ez3_APrefix sb3_APrefix un24_APrefix rfl rfl (hnL1) ((newElems_one (n1.row _ ▸ if_pos rfl) rfl rfl)) (rfl) ((ints_one _)) ((by simp only [List.length_map, List.length_cons, List.length_nil]; omega)) rfl rfl fun v2 H2 D2 k1 k2 k3 k4 => ?_
  refine KO.pv (PV.nilCheck rfl) rfl rfl ?_
  refine KO.pv (PV.fieldAddr fo136_0_APrefix rfl) rfl rfl ?_
  have hbe2 : H2.row be = some re := by rw [k3 be he1.bn he1.ltb]; exact he1.row
  refine KO.store1 sz24_APrefix rfl rfl (k1.one) (hbe2) (he1.rw) (hre) rfl fun H3 u3 => ?_
  refine KO.nil ?_
  obtain ⟨hq1, hq2, hq3⟩ := Eye.push (x := (len : Int)) he1 (by rw [List.map_append]; exact k1) k2 k3 k4 u3
  have hkk : ∀ j, j < H.next → j ≠ be → j ∉ Fn → H3.row j = H.row j := fun j j0 j1 j2 => by
    rw [hq3 j (by rw [n1.next]; omega) j1 j2, n1.row, if_neg (by omega)]
  have hnx : H.next ≤ H3.next := by have := hq2; rw [n1.next] at this; omega
  have hL3 := hL.frame (H' := H3) (fun j hj => hkk j (hD j hj) (fun e => d1 (e ▸ hj)) (d2 j hj))
  have hF3 : ∀ j ∈ D2, j ∈ Fn ∨ H.next ≤ j := fun j hj => by
    rcases k4 j hj with h | ⟨h, -⟩
    · exact .inl h
    · refine .inr ?_; rw [n1.next] at h; omega
  have hER : EyeRow oe re ⟨re.elem, re.whole, true, putL re.cs oe [v2]⟩ := ⟨rfl, rfl, putL_length (show oe + [v2].length ≤ _ from hre), fun i i1 i2 i3 => (putL1 hre i).trans (if_neg i1)⟩
  obtain ⟨J, J0, JS, JE⟩ := list_J hg hok hwm hmk hq1 hL3 (fun j hj => Nat.lt_of_lt_of_le (hD j hj) hnx) d1 (fun j hj hf => by rcases hF3 j hf with h | h; exact d2 j hj h; have := hD j hj; omega) d3 hm (by rw [List.length_append, List.length_singleton]; omega) l2
  refine KC.seq (KC.seq (KC.region ?_))
  refine KO.pv (PV.move rfl) rfl rfl ?_
  refine KO.pv (PV.nilCheck rfl) rfl rfl ?_
  refine KO.pv (PV.fieldAddr fo136_4_APrefix rfl) rfl rfl ?_
  refine KO.load1 ag4_APrefix rfl (hq1.row) (hq1.room) rfl rfl ?_
  refine KO.nil ?_
  refine KC.mono (Q := fun e l' H' => e = .normal ∧ H' = H3 ∧ Sub [(0, .pointer (some ⟨be, oe, none⟩)), (1, .slice a (cnt room.r len cap) cap), (2, .func (.func g) #[] #[])] l') ?_ ?_
  · refine KC.cond rfl (fun hb => ?_) (fun hb => ?_)
    · refine KC.region ?_
      refine KO.pv (PV.move rfl) rfl rfl ?_
      refine KO.pv (PV.move rfl) rfl rfl ?_
      refine KO.pv (PV.cap un23_APrefix ((hroom hb)) rfl) rfl rfl ?_
      refine KO.pv (PV.slice rfl (fun _ h => by cases h) (fun _ => rfl) (fun _ h => by cases h; exact ⟨_, rfl, rfl⟩) (fun h => by cases h) (fun _ h => by cases h) (fun _ => rfl) (slice_cap un23_APrefix sz187_APrefix (hroom hb))) rfl rfl ?_
      refine KO.pv (PV.assign rfl) rfl rfl ?_
      refine KO.nil ?_
      exact ⟨rfl, rfl, .cons rfl (.cons (by rw [cnt, if_pos hb]; rfl) (.cons rfl .nil))⟩
    · exact KC.skip ⟨rfl, rfl, .cons rfl (.cons (by rw [cnt, if_neg (by rw [hb]; simp)]; rfl) (.cons rfl .nil))⟩
  · rintro e l' H' ⟨rfl, rfl, hsub⟩
    refine KC.sub hsub (KC.seq (KC.region ?_))
    refine KO.pv (PV.assign rfl) rfl rfl ?_
    refine KO.nil ?_
    have hcb := hlc.2
    generalize cnt room.r len cap = c at *
    refine KC.sub (l' := [(0, .pointer (some ⟨be, oe, none⟩)), (1, .slice a c cap), (2, .func (.func g) #[] #[]), (6, .int .i64 ((0 : Nat) : Int))]) (.cons rfl (.cons rfl (.cons rfl (.cons rfl .nil)))) ?_
    refine KC.block (KC.loopN (fun k l Hi => ∃ i : Nat, i + k = c ∧ l = [(0, .pointer (some ⟨be, oe, none⟩)), (1, .slice a c cap), (2, .func (.func g) #[] #[]), (6, .int .i64 (i : Int))] ∧ J i Hi) ?_ c ?_)
    rotate_left
    · exact ⟨0, by omega, rfl, J0⟩
    rintro k l Hi ⟨i, hik, rfl, hJ⟩
    refine KC.seq (KC.seq (KC.region ?_))
    refine KO.pv (PV.move rfl) rfl rfl ?_
    refine KO.pv (PV.move rfl) rfl rfl ?_
    refine KO.pv (PV.len un23_APrefix rfl) rfl rfl ?_
    refine KO.pv (PV.lss rfl rfl) rfl rfl ?_
    refine KO.nil ?_
    refine KC.cond rfl (fun hb => KC.skip ?_) (fun hb => KC.exit ?_)
    · have hi : i < c := by simpa using hb
      obtain ⟨b, off, sp, rfl, hw⟩ := JS i Hi hi hJ
      refine KC.seq (KC.block (KC.region ?_))
      refine KO.pv (PV.move rfl) rfl rfl ?_
      refine KO.pv (PV.move rfl) rfl rfl ?_
      refine KO.pv (PV.move rfl) rfl rfl ?_
      refine KO.pv (PV.move rfl) rfl rfl ?_
      refine KO.pv (PV.indexAddr un23_APrefix sz187_APrefix rfl rfl (hi)) rfl rfl ?_
      refine KO.callV (rfl) (hx) rfl rfl rfl (hw) fun v4 H4 hJ4 => ?_
      refine KO.nil ?_
      refine KC.region ?_
      refine KO.pv (PV.move rfl) rfl rfl ?_
      refine KO.pv (PV.add rfl rfl ((show _ = ((i + 1 : Nat) : Int) from wrap64 (by omega) (by omega)))) rfl rfl ?_
      refine KO.pv (PV.assign rfl) rfl rfl ?_
      refine KO.nil ?_
      exact ⟨k - 1, _, by omega, .cons rfl (.cons rfl (.cons rfl (.cons rfl .nil))), i + 1, by omega, rfl, hJ4⟩
    · have hi : i = c := by
        have : ¬ (i : Int) < (c : Int) := by simpa using hb
        omega
      subst hi
      exact ⟨rfl, _, rfl, (JE _ hJ).back hER hnx hkk hF3 hD d1 d2⟩
theorem see_148 (tS : Nat) : SeeOK E0 3 tS 148 (.list 2 (.fld 0 (.num .i64) (.fld 1 (.num .i64) .nil))) := by
  refine SeeOK.of fun H be oe n0 s0 mark room re Fn Fs bx o rx ns ss D h => ?_
  obtain ⟨a, len, cap, hc, hlc, hroom, n1, rfl, hL⟩ := h.rd
  refine WF.k Tryz.func148 rfl rfl (KC.region ?_)
  obtain ⟨at_, he⟩ := h.eye
  refine KO.pv (PV.move rfl) rfl rfl ?_
  refine KO.pv (PV.move rfl) rfl rfl ?_
  refine KO.pv (PV.nilCheck rfl) rfl rfl ?_
  refine KO.load1 ag23_APrefix rfl (h.x) (hc) rfl rfl ?_
  refine KO.call rfl rfl rfl rfl (all_198 tS (g := 199) (see_199 tS) rfl rfl H be oe n0 s0 mark room at_ re Fn Fs a len cap n1 ss D he h.wm h.mkk hlc hroom hL h.ltD h.a4 h.a5 h.a6 (fun hm => (h.mkd hm).1) h.l1 h.l2) fun v H1 h1 => ?_
  refine KO.nil ?_
  exact ⟨rfl, _, rfl, Seen.ofL h hc hlc hroom h1⟩
theorem all_122 (tS : Nat) {g : FuncId} {s : Sh} (hg : SeeOK E0 3 tS g s) (hx : E0.ext g = none) (hok : s.cells.all (fun i => Nat.blt i 1) = true) (H : AHeap) (be oe : Nat) (n0 : List Int) (s0 : List ByteArray) (mark : Bool) (room : Md) (at_ : Int) (re : Row) (Fn Fs : List Nat) (a : Option Addr) (len cap : Nat) (ns : List Int) (ss : List ByteArray) (D : List Nat)
    (he : Eye 3 tS H be oe n0 s0 mark room.r at_ re Fn Fs) (hwm : mark = true ∨ s.bools = true → room.w = true) (hmk : mark = true → room.k = false) (hlc : len ≤ cap ∧ cnt room.r len cap ≤ 1000000000) (hroom : room.r = true → exactBase a = true) (hL : LRd H room s 1 a (cnt room.r len cap) ns ss D)
    (hD : ∀ j ∈ D, j < H.next) (d1 : be ∉ D) (d2 : ∀ j ∈ D, j ∉ Fn) (d3 : ∀ j ∈ D, j ∉ Fs) (hm : mark = true → D.Nodup) (l1 : n0.length + (ns.length + 1) ≤ 1000000000) (l2 : s0.length + ss.length ≤ 1000000000) :
    WF E0 122 [.pointer (some ⟨be, oe, none⟩), .slice a len cap, .func (.func g) #[] #[]] H fun q => SeenL 3 tS s 1 H be oe (n0 ++ [(len : Int)]) s0 mark room re Fn Fs a (cnt room.r len cap) ns ss D q.2 := by
  refine WF.k Tryz.func122 rfl rfl ?_
  obtain ⟨nv, hnv, hnL⟩ := he.n
  have hre := lt_of_get hnv
  refine KC.seq (KC.region ?_)
  refine KO.pv (PV.move rfl) rfl rfl ?_
  refine KO.pv (PV.move rfl) rfl rfl ?_
  refine KO.pv (PV.nilCheck rfl) rfl rfl ?_
  refine KO.pv (PV.fieldAddr fo136_0_APrefix rfl) rfl rfl ?_
  refine KO.load1 ag24_APrefix rfl (he.row) (hnv) rfl rfl ?_
  refine KO.pv (PV.move rfl) rfl rfl ?_
  refine KO.pv (PV.len un24_APrefix rfl) rfl rfl ?_
  refine KO.buildSlice el24_APrefix ez3_APrefix rfl rfl (rfl) rfl rfl fun H1 n1 => ?_
  have he1 : Eye 3 tS H1 be oe n0 s0 mark room.r at_ re Fn Fs := he.frame (by rw [n1.next]; exact Nat.le_succ _) (fun j hj => by rw [n1.row, if_neg]; rcases hj with rfl | hj | hj; have := he.ltb; omega; have := he.ltn j hj; omega; have := he.lts j hj; omega)
  have hnL1 : Lst H1 3 1 nv (n0.map (Value.int .i64)) Fn := hnL.frame (fun j hj => by have hj2 := he.ltn j hj; rw [n1.row, if_neg (by omega)])
  refine KO.append el24_APrefix ez3_APrefix sb3_APrefix un24_APrefix rfl rfl (hnL1) ((newElems_one (n1.row _ ▸ if_pos rfl) rfl rfl)) (rfl) ((ints_one _)) ((by simp only [List.length_map, List.length_cons, List.length_nil]; omega)) rfl rfl fun v2 H2 D2 k1 k2 k3 k4 => ?_
  refine KO.pv (PV.nilCheck rfl) rfl rfl ?_
  refine KO.pv (PV.fieldAddr fo136_0_APrefix rfl) rfl rfl ?_
  have hbe2 : H2.row be = some re := by rw [k3 be he1.bn he1.ltb]; exact he1.row
  refine KO.store1 sz24_APrefix rfl rfl (k1.one) (hbe2) (he1.rw) (hre) rfl fun H3 u3 => ?_
  refine KO.nil ?_
  obtain ⟨hq1, hq2, hq3⟩ := Eye.push (x := (len : Int)) he1 (by rw [List.map_append]; exact k1) k2 k3 k4 u3
  have hkk : ∀ j, j < H.next → j ≠ be → j ∉ Fn → H3.row j = H.row j := fun j j0 j1 j2 => by
    rw [hq3 j (by rw [n1.next]; omega) j1 j2, n1.row, if_neg (by omega)]
  have hnx : H.next ≤ H3.next := by have := hq2; rw [n1.next] at this; omega
  have hL3 := hL.frame (H' := H3) (fun j hj => hkk j (hD j hj) (fun e => d1 (e ▸ hj)) (d2 j hj))
  have hF3 : ∀ j ∈ D2, j ∈ Fn ∨ H.next ≤ j := fun j hj => by
    rcases k4 j hj with h | ⟨h, -⟩
    · exact .inl h
    · refine .inr ?_; rw [n1.next] at h; omega
  have hER : EyeRow oe re ⟨re.elem, re.whole, true, putL re.cs oe [v2]⟩ := ⟨rfl, rfl, putL_length (show oe + [v2].length ≤ _ from hre), fun i i1 i2 i3 => (putL1 hre i).trans (if_neg i1)⟩
  obtain ⟨J, J0, JS, JE⟩ := list_J hg hok hwm hmk hq1 hL3 (fun j hj => Nat.lt_of_lt_of_le (hD j hj) hnx) d1 (fun j hj hf => by rcases hF3 j hf with h | h; exact d2 j hj h; have := hD j hj; omega) d3 hm (by rw [List.length_append, List.length_singleton]; omega) l2
  refine KC.seq (KC.seq (KC.region ?_))
  refine KO.pv (PV.move rfl) rfl rfl ?_
  refine KO.pv (PV.nilCheck rfl) rfl rfl ?_
  refine KO.pv (PV.fieldAddr fo136_4_APrefix rfl) rfl rfl ?_
  refine KO.load1 ag4_APrefix rfl (hq1.row) (hq1.room) rfl rfl ?_
  refine KO.nil ?_
  refine KC.mono (Q := fun e l' H' => e = .normal ∧ H' = H3 ∧ Sub [(0, .pointer (some ⟨be, oe, none⟩)), (1, .slice a (cnt room.r len cap) cap), (2, .func (.func g) #[] #[])] l') ?_ ?_
  · refine KC.cond rfl (fun hb => ?_) (fun hb => ?_)
    · refine KC.region ?_
      refine KO.pv (PV.move rfl) rfl rfl ?_
      refine KO.pv (PV.move rfl) rfl rfl ?_
      refine KO.pv (PV.cap un24_APrefix ((hroom hb)) rfl) rfl rfl ?_
      refine KO.pv (PV.slice rfl (fun _ h => by cases h) (fun _ => rfl) (fun _ h => by cases h; exact ⟨_, rfl, rfl⟩) (fun h => by cases h) (fun _ h => by cases h) (fun _ => rfl) (slice_cap un24_APrefix sz3_APrefix (hroom hb))) rfl rfl ?_
      refine KO.pv (PV.assign rfl) rfl rfl ?_
      refine KO.nil ?_
      exact ⟨rfl, rfl, .cons rfl (.cons (by rw [cnt, if_pos hb]; rfl) (.cons rfl .nil))⟩
    · exact KC.skip ⟨rfl, rfl, .cons rfl (.cons (by rw [cnt, if_neg (by rw [hb]; simp)]; rfl) (.cons rfl .nil))⟩
  · rintro e l' H' ⟨rfl, rfl, hsub⟩
    refine KC.sub hsub (KC.seq (KC.region ?_))
    refine KO.pv (PV.assign rfl) rfl rfl ?_
    refine KO.nil ?_
    have hcb := hlc.2
    generalize cnt room.r len cap = c at *
    refine KC.sub (l' := [(0, .pointer (some ⟨be, oe, none⟩)), (1, .slice a c cap), (2, .func (.func g) #[] #[]), (6, .int .i64 ((0 : Nat) : Int))]) (.cons rfl (.cons rfl (.cons rfl (.cons rfl .nil)))) ?_
    refine KC.block (KC.loopN (fun k l Hi => ∃ i : Nat, i + k = c ∧ l = [(0, .pointer (some ⟨be, oe, none⟩)), (1, .slice a c cap), (2, .func (.func g) #[] #[]), (6, .int .i64 (i : Int))] ∧ J i Hi) ?_ c ?_)
    rotate_left
    · exact ⟨0, by omega, rfl, J0⟩
    rintro k l Hi ⟨i, hik, rfl, hJ⟩
    refine KC.seq (KC.seq (KC.region ?_))
    refine KO.pv (PV.move rfl) rfl rfl ?_
    refine KO.pv (PV.move rfl) rfl rfl ?_
    refine KO.pv (PV.len un24_APrefix rfl) rfl rfl ?_
    refine KO.pv (PV.lss rfl rfl) rfl rfl ?_
    refine KO.nil ?_
    refine KC.cond rfl (fun hb => KC.skip ?_) (fun hb => KC.exit ?_)
    · have hi : i < c := by simpa using hb
      obtain ⟨b, off, sp, rfl, hw⟩ := JS i Hi hi hJ
      refine KC.seq (KC.block (KC.region ?_))
      refine KO.pv (PV.move rfl) rfl rfl ?_
      refine KO.pv (PV.move rfl) rfl rfl ?_
      refine KO.pv (PV.move rfl) rfl rfl ?_
      refine KO.pv (PV.move rfl) rfl rfl ?_
      refine KO.pv (PV.indexAddr un24_APrefix sz3_APrefix rfl rfl (hi)) rfl rfl ?_
      refine KO.callV (rfl) (hx) rfl rfl rfl (hw) fun v4 H4 hJ4 => ?_
      refine KO.nil ?_
      refine KC.region ?_
      refine KO.pv (PV.move rfl) rfl rfl ?_
      refine KO.pv (PV.add rfl rfl ((show _ = ((i + 1 : Nat) : Int) from wrap64 (by omega) (by omega)))) rfl rfl ?_
      refine KO.pv (PV.assign rfl) rfl rfl ?_
      refine KO.nil ?_
      exact ⟨k - 1, _, by omega, .cons rfl (.cons rfl (.cons rfl (.cons rfl .nil))), i + 1, by omega, rfl, hJ4⟩
    · have hi : i = c := by
        have : ¬ (i : Int) < (c : Int) := by simpa using hb
        omega
      subst hi
      exact ⟨rfl, _, rfl, (JE _ hJ).back hER hnx hkk hF3 hD d1 d2⟩
theorem see_50 (tS : Nat) : SeeOK E0 3 tS 50 (.list 1 (.num .i64)) := by
  refine SeeOK.of fun H be oe n0 s0 mark room re Fn Fs bx o rx ns ss D h => ?_
  obtain ⟨a, len, cap, hc, hlc, hroom, n1, rfl, hL⟩ := h.rd
  refine WF.k Tryz.func50 rfl rfl (KC.region ?_)
  obtain ⟨at_, he⟩ := h.eye
  refine KO.pv (PV.move rfl) rfl rfl ?_
  refine KO.pv (PV.move rfl) rfl rfl ?_
  refine KO.pv (PV.nilCheck rfl) rfl rfl ?_
  refine KO.load1 ag24_APrefix rfl (h.x) (hc) rfl rfl ?_
  refine KO.call rfl rfl rfl rfl (all_122 tS (g := 88) (num_int tS) rfl rfl H be oe n0 s0 mark room at_ re Fn Fs a len cap n1 ss D he h.wm h.mkk hlc hroom hL h.ltD h.a4 h.a5 h.a6 (fun hm => (h.mkd hm).1) h.l1 h.l2) fun v H1 h1 => ?_
  refine KO.nil ?_
  exact ⟨rfl, _, rfl, Seen.ofL h hc hlc hroom h1⟩
theorem see_87 (tS : Nat) : SeeOK E0 3 tS 87 (.fld 0 (.num .i64) (.fld 1 (.list 2 (.fld 0 (.num .i64) (.fld 1 (.num .i64) .nil))) (.fld 2 (.list 2 (.fld 0 (.num .i64) (.fld 1 (.num .i64) .nil))) (.fld 3 (.list 1 (.num .i64)) (.fld 4 (.list 1 (.num .i64)) .nil))))) := by
  refine SeeOK.of fun H be oe n0 s0 mark room re Fn Fs bx o rx ns ss D h0 => ?_
  refine WF.k Tryz.func87 rfl rfl ?_
  refine KC.seq (KC.region ?_)
  refine KO.pv (PV.move rfl) rfl rfl ?_
  refine KO.pv (PV.move rfl) rfl rfl ?_
  refine KO.pv (PV.nilCheck rfl) rfl rfl ?_
  refine KO.pv (PV.fieldAddr fo26_0_APrefix rfl) rfl rfl ?_
  refine KO.call rfl rfl rfl rfl (Pre.fld (num_int tS) rfl h0) fun v0 G0 q0 => ?_
  refine KO.nil ?_
  obtain ⟨_, _, _, _, _, _, _, _, _, h1, k0⟩ := q0
  refine KC.seq (KC.region ?_)
  refine KO.pv (PV.move rfl) rfl rfl ?_
  refine KO.pv (PV.move rfl) rfl rfl ?_
  refine KO.pv (PV.nilCheck rfl) rfl rfl ?_
  refine KO.pv (PV.fieldAddr fo26_1_APrefix rfl) rfl rfl ?_
  refine KO.call rfl rfl rfl rfl (Pre.fld (see_147 tS) rfl h1) fun v1 G1 q1 => ?_
  refine KO.nil ?_
  obtain ⟨_, _, _, _, _, _, _, _, _, h2, k1⟩ := q1
  refine KC.seq (KC.region ?_)
  refine KO.pv (PV.move rfl) rfl rfl ?_
  refine KO.pv (PV.move rfl) rfl rfl ?_
  refine KO.pv (PV.nilCheck rfl) rfl rfl ?_
  refine KO.pv (PV.fieldAddr fo26_2_APrefix rfl) rfl rfl ?_
  refine KO.call rfl rfl rfl rfl (Pre.fld (see_148 tS) rfl h2) fun v2 G2 q2 => ?_
  refine KO.nil ?_
  obtain ⟨_, _, _, _, _, _, _, _, _, h3, k2⟩ := q2
  refine KC.seq (KC.region ?_)
  refine KO.pv (PV.move rfl) rfl rfl ?_
  refine KO.pv (PV.move rfl) rfl rfl ?_
  refine KO.pv (PV.nilCheck rfl) rfl rfl ?_
  refine KO.pv (PV.fieldAddr fo26_3_APrefix rfl) rfl rfl ?_
  refine KO.call rfl rfl rfl rfl (Pre.fld (see_50 tS) rfl h3) fun v3 G3 q3 => ?_
  refine KO.nil ?_
  obtain ⟨_, _, _, _, _, _, _, _, _, h4, k3⟩ := q3
  refine KC.region ?_
  refine KO.pv (PV.move rfl) rfl rfl ?_
  refine KO.pv (PV.move rfl) rfl rfl ?_
  refine KO.pv (PV.nilCheck rfl) rfl rfl ?_
  refine KO.pv (PV.fieldAddr fo26_4_APrefix rfl) rfl rfl ?_
  refine KO.call rfl rfl rfl rfl (Pre.fld (see_50 tS) rfl h4) fun v4 G4 q4 => ?_
  refine KO.nil ?_
  obtain ⟨_, _, _, _, _, _, _, _, _, h5, k4⟩ := q4
  exact ⟨rfl, _, rfl, (k0 _ (k1 _ (k2 _ (k3 _ (k4 _ (Pre.nil h5))))))⟩
theorem see_11 (tS : Nat) : SeeOK E0 3 tS 11 (.fld 0 (.fld 0 (.num .i64) (.fld 1 (.list 2 (.fld 0 (.num .i64) (.fld 1 (.num .i64) .nil))) (.fld 2 (.list 2 (.fld 0 (.num .i64) (.fld 1 (.num .i64) .nil))) (.fld 3 (.list 1 (.num .i64)) (.fld 4 (.list 1 (.num .i64)) .nil))))) (.fld 5 (.num .i64) .nil)) := by
  refine SeeOK.of fun H be oe n0 s0 mark room re Fn Fs bx o rx ns ss D h0 => ?_
  refine WF.k Tryz.func11 rfl rfl ?_
  refine KC.seq (KC.region ?_)
  refine KO.pv (PV.move rfl) rfl rfl ?_
  refine KO.pv (PV.move rfl) rfl rfl ?_
  refine KO.pv (PV.nilCheck rfl) rfl rfl ?_
  refine KO.pv (PV.fieldAddr fo28_0_APrefix rfl) rfl rfl ?_
  refine KO.call rfl rfl rfl rfl (Pre.fld (see_87 tS) rfl h0) fun v0 G0 q0 => ?_
  refine KO.nil ?_
  obtain ⟨_, _, _, _, _, _, _, _, _, h1, k0⟩ := q0
  refine KC.region ?_
  refine KO.pv (PV.move rfl) rfl rfl ?_
  refine KO.pv (PV.move rfl) rfl rfl ?_
  refine KO.pv (PV.nilCheck rfl) rfl rfl ?_
  refine KO.pv (PV.fieldAddr fo28_1_APrefix rfl) rfl rfl ?_
  refine KO.call rfl rfl rfl rfl (Pre.fld (num_int tS) rfl h1) fun v1 G1 q1 => ?_
  refine KO.nil ?_
  obtain ⟨_, _, _, _, _, _, _, _, _, h2, k1⟩ := q1
  exact ⟨rfl, _, rfl, (k0 _ (k1 _ (Pre.nil h2)))⟩
theorem all_179 (tS : Nat) {g : FuncId} {s : Sh} (hg : SeeOK E0 3 tS g s) (hx : E0.ext g = none) (hok : s.cells.all (fun i => Nat.blt i 1) = true) (H : AHeap) (be oe : Nat) (n0 : List Int) (s0 : List ByteArray) (mark : Bool) (room : Md) (at_ : Int) (re : Row) (Fn Fs : List Nat) (a : Option Addr) (len cap : Nat) (ns : List Int) (ss : List ByteArray) (D : List Nat)
    (he : Eye 3 tS H be oe n0 s0 mark room.r at_ re Fn Fs) (hwm : mark = true ∨ s.bools = true → room.w = true) (hmk : mark = true → room.k = false) (hlc : len ≤ cap ∧ cnt room.r len cap ≤ 1000000000) (hroom : room.r = true → exactBase a = true) (hL : LRd H room s 1 a (cnt room.r len cap) ns ss D)
    (hD : ∀ j ∈ D, j < H.next) (d1 : be ∉ D) (d2 : ∀ j ∈ D, j ∉ Fn) (d3 : ∀ j ∈ D, j ∉ Fs) (hm : mark = true → D.Nodup) (l1 : n0.length + (ns.length + 1) ≤ 1000000000) (l2 : s0.length + ss.length ≤ 1000000000) :
    WF E0 179 [.pointer (some ⟨be, oe, none⟩), .slice a len cap, .func (.func g) #[] #[]] H fun q => SeenL 3 tS s 1 H be oe (n0 ++ [(len : Int)]) s0 mark room re Fn Fs a (cnt room.r len cap) ns ss D q.2 := by
  refine WF.k Tryz.func179 rfl rfl ?_
  obtain ⟨nv, hnv, hnL⟩ := he.n
  have hre := lt_of_get hnv
  refine KC.seq (KC.region ?_)
  refine KO.pv (PV.move rfl) rfl rfl ?_
  refine KO.pv (PV.move rfl) rfl rfl ?_
  refine KO.pv (PV.nilCheck rfl) rfl rfl ?_
  refine KO.pv (PV.fieldAddr fo136_0_APrefix rfl) rfl rfl ?_
  refine KO.load1 ag24_APrefix rfl (he.row) (hnv) rfl rfl ?_
  refine KO.pv (PV.move rfl) rfl rfl ?_
  refine KO.pv (PV.len un34_APrefix rfl) rfl rfl ?_
  refine KO.buildSlice el24_APrefix ez3_APrefix rfl rfl (rfl) rfl rfl fun H1 n1 => ?_
  have he1 : Eye 3 tS H1 be oe n0 s0 mark room.r at_ re Fn Fs := he.frame (by rw [n1.next]; exact Nat.le_succ _) (fun j hj => by rw [n1.row, if_neg]; rcases hj with rfl | hj | hj; have := he.ltb; omega; have := he.ltn j hj; omega; have := he.lts j hj; omega)
  have hnL1 : Lst H1 3 1 nv (n0.map (Value.int .i64)) Fn := hnL.frame (fun j hj => by have hj2 := he.ltn j hj; rw [n1.row, if_neg (by omega)])
  refine KO.append el24_APrefix ez3_APrefix sb3_APrefix un24_APrefix rfl rfl (hnL1) ((newElems_one (n1.row _ ▸ if_pos rfl) rfl rfl)) (rfl) ((ints_one _)) ((by simp only [List.length_map, List.length_cons, List.length_nil]; omega)) rfl rfl fun v2 H2 D2 k1 k2 k3 k4 => ?_
  refine KO.pv (PV.nilCheck rfl) rfl rfl ?_
  refine KO.pv (PV.fieldAddr fo136_0_APrefix rfl) rfl rfl ?_
  have hbe2 : H2.row be = some re := by rw [k3 be he1.bn he1.ltb]; exact he1.row
  refine KO.store1 sz24_APrefix rfl rfl (k1.one) (hbe2) (he1.rw) (hre) rfl fun H3 u3 => ?_
  refine KO.nil ?_
  obtain ⟨hq1, hq2, hq3⟩ := Eye.push (x := (len : Int)) he1 (by rw [List.map_append]; exact k1) k2 k3 k4 u3
  have hkk : ∀ j, j < H.next → j ≠ be → j ∉ Fn → H3.row j = H.row j := fun j j0 j1 j2 => by
    rw [hq3 j (by rw [n1.next]; omega) j1 j2, n1.row, if_neg (by omega)]
  have hnx : H.next ≤ H3.next := by have := hq2; rw [n1.next] at this; omega
  have hL3 := hL.frame (H' := H3) (fun j hj => hkk j (hD j hj) (fun e => d1 (e ▸ hj)) (d2 j hj))
  have hF3 : ∀ j ∈ D2, j ∈ Fn ∨ H.next ≤ j := fun j hj => by
    rcases k4 j hj with h | ⟨h, -⟩
    · exact .inl h
    · refine .inr ?_; rw [n1.next] at h; omega
  have hER : EyeRow oe re ⟨re.elem, re.whole, true, putL re.cs oe [v2]⟩ := ⟨rfl, rfl, putL_length (show oe + [v2].length ≤ _ from hre), fun i i1 i2 i3 => (putL1 hre i).trans (if_neg i1)⟩
  obtain ⟨J, J0, JS, JE⟩ := list_J hg hok hwm hmk hq1 hL3 (fun j hj => Nat.lt_of_lt_of_le (hD j hj) hnx) d1 (fun j hj hf => by rcases hF3 j hf with h | h; exact d2 j hj h; have := hD j hj; omega) d3 hm (by rw [List.length_append, List.length_singleton]; omega) l2
  refine KC.seq (KC.seq (KC.region ?_))
  refine KO.pv (PV.move rfl) rfl rfl ?_
  refine KO.pv (PV.nilCheck rfl) rfl rfl ?_
  refine KO.pv (PV.fieldAddr fo136_4_APrefix rfl) rfl rfl ?_
  refine KO.load1 ag4_APrefix rfl (hq1.row) (hq1.room) rfl rfl ?_
  refine KO.nil ?_
  refine KC.mono (Q := fun e l' H' => e = .normal ∧ H' = H3 ∧ Sub [(0, .pointer (some ⟨be, oe, none⟩)), (1, .slice a (cnt room.r len cap) cap), (2, .func (.func g) #[] #[])] l') ?_ ?_
  · refine KC.cond rfl (fun hb => ?_) (fun hb => ?_)
    · refine KC.region ?_
      refine KO.pv (PV.move rfl) rfl rfl ?_
      refine KO.pv (PV.move rfl) rfl rfl ?_
      refine KO.pv (PV.cap un34_APrefix ((hroom hb)) rfl) rfl rfl ?_
      refine KO.pv (PV.slice rfl (fun _ h => by cases h) (fun _ => rfl) (fun _ h => by cases h; exact ⟨_, rfl, rfl⟩) (fun h => by cases h) (fun _ h => by cases h) (fun _ => rfl) (slice_cap un34_APrefix sz24_APrefix (hroom hb))) rfl rfl ?_
      refine KO.pv (PV.assign rfl) rfl rfl ?_
      refine KO.nil ?_
      exact ⟨rfl, rfl, .cons rfl (.cons (by rw [cnt, if_pos hb]; rfl) (.cons rfl .nil))⟩
    · exact KC.skip ⟨rfl, rfl, .cons rfl (.cons (by rw [cnt, if_neg (by rw [hb]; simp)]; rfl) (.cons rfl .nil))⟩
  · rintro e l' H' ⟨rfl, rfl, hsub⟩
    refine KC.sub hsub (KC.seq (KC.region ?_))
    refine KO.pv (PV.assign rfl) rfl rfl ?_
    refine KO.nil ?_
    have hcb := hlc.2
    generalize cnt room.r len cap = c at *
    refine KC.sub (l' := [(0, .pointer (some ⟨be, oe, none⟩)), (1, .slice a c cap), (2, .func (.func g) #[] #[]), (6, .int .i64 ((0 : Nat) : Int))]) (.cons rfl (.cons rfl (.cons rfl (.cons rfl .nil)))) ?_
    refine KC.block (KC.loopN (fun k l Hi => ∃ i : Nat, i + k = c ∧ l = [(0, .pointer (some ⟨be, oe, none⟩)), (1, .slice a c cap), (2, .func (.func g) #[] #[]), (6, .int .i64 (i : Int))] ∧ J i Hi) ?_ c ?_)
    rotate_left
    · exact ⟨0, by omega, rfl, J0⟩
    rintro k l Hi ⟨i, hik, rfl, hJ⟩
    refine KC.seq (KC.seq (KC.region ?_))
    refine KO.pv (PV.move rfl) rfl rfl ?_
    refine KO.pv (PV.move rfl) rfl rfl ?_
    refine KO.pv (PV.len un34_APrefix rfl) rfl rfl ?_
    refine KO.pv (PV.lss rfl rfl) rfl rfl ?_
    refine KO.nil ?_
    refine KC.cond rfl (fun hb => KC.skip ?_) (fun hb => KC.exit ?_)
    · have hi : i < c := by simpa using hb
      obtain ⟨b, off, sp, rfl, hw⟩ := JS i Hi hi hJ
      refine KC.seq (KC.block (KC.region ?_))
      refine KO.pv (PV.move rfl) rfl rfl ?_
      refine KO.pv (PV.move rfl) rfl rfl ?_
      refine KO.pv (PV.move rfl) rfl rfl ?_
      refine KO.pv (PV.move rfl) rfl rfl ?_
      refine KO.pv (PV.indexAddr un34_APrefix sz24_APrefix rfl rfl (hi)) rfl rfl ?_
      refine KO.callV (rfl) (hx) rfl rfl rfl (hw) fun v4 H4 hJ4 => ?_
      refine KO.nil ?_
      refine KC.region ?_
      refine KO.pv (PV.move rfl) rfl rfl ?_
      refine KO.pv (PV.add rfl rfl ((show _ = ((i + 1 : Nat) : Int) from wrap64 (by omega) (by omega)))) rfl rfl ?_
      refine KO.pv (PV.assign rfl) rfl rfl ?_
      refine KO.nil ?_
      exact ⟨k - 1, _, by omega, .cons rfl (.cons rfl (.cons rfl (.cons rfl .nil))), i + 1, by omega, rfl, hJ4⟩
    · have hi : i = c := by
        have : ¬ (i : Int) < (c : Int) := by simpa using hb
        omega
      subst hi
      exact ⟨rfl, _, rfl, (JE _ hJ).back hER hnx hkk hF3 hD d1 d2⟩
theorem see_130 (tS : Nat) : SeeOK E0 3 tS 130 (.list 1 (.list 1 (.num .i64))) := by
  refine SeeOK.of fun H be oe n0 s0 mark room re Fn Fs bx o rx ns ss D h => ?_
  obtain ⟨a, len, cap, hc, hlc, hroom, n1, rfl, hL⟩ := h.rd
  refine WF.k Tryz.func130 rfl rfl (KC.region ?_)
  obtain ⟨at_, he⟩ := h.eye
  refine KO.pv (PV.move rfl) rfl rfl ?_
  refine KO.pv (PV.move rfl) rfl rfl ?_
  refine KO.pv (PV.nilCheck rfl) rfl rfl ?_
  refine KO.load1 ag34_APrefix rfl (h.x) (hc) rfl rfl ?_
  refine KO.call rfl rfl rfl rfl (all_179 tS (g := 50) (see_50 tS) rfl rfl H be oe n0 s0 mark room at_ re Fn Fs a len cap n1 ss D he h.wm h.mkk hlc hroom hL h.ltD h.a4 h.a5 h.a6 (fun hm => (h.mkd hm).1) h.l1 h.l2) fun v H1 h1 => ?_
  refine KO.nil ?_
  exact ⟨rfl, _, rfl, Seen.ofL h hc hlc hroom h1⟩
theorem see_131 (tS : Nat) : SeeOK E0 3 tS 131 (.fld 0 (.list 2 (.fld 0 (.num .i64) (.fld 1 (.num .i64) .nil))) (.fld 1 (.num .i64) .nil)) := by
  refine SeeOK.of fun H be oe n0 s0 mark room re Fn Fs bx o rx ns ss D h0 => ?_
  refine WF.k Tryz.func131 rfl rfl ?_
  refine KC.seq (KC.region ?_)
  refine KO.pv (PV.move rfl) rfl rfl ?_
  refine KO.pv (PV.move rfl) rfl rfl ?_
  refine KO.pv (PV.nilCheck rfl) rfl rfl ?_
  refine KO.pv (PV.fieldAddr fo36_0_APrefix rfl) rfl rfl ?_
  refine KO.call rfl rfl rfl rfl (Pre.fld (see_148 tS) rfl h0) fun v0 G0 q0 => ?_
  refine KO.nil ?_
  obtain ⟨_, _, _, _, _, _, _, _, _, h1, k0⟩ := q0
  refine KC.region ?_
  refine KO.pv (PV.move rfl) rfl rfl ?_
  refine KO.pv (PV.move rfl) rfl rfl ?_
  refine KO.pv (PV.nilCheck rfl) rfl rfl ?_
  refine KO.pv (PV.fieldAddr fo36_1_APrefix rfl) rfl rfl ?_
  refine KO.call rfl rfl rfl rfl (Pre.fld (num_int tS) rfl h1) fun v1 G1 q1 => ?_
  refine KO.nil ?_
  obtain ⟨_, _, _, _, _, _, _, _, _, h2, k1⟩ := q1
  exact ⟨rfl, _, rfl, (k0 _ (k1 _ (Pre.nil h2)))⟩
theorem see_68 (tS : Nat) : SeeOK E0 3 tS 68 (.fld 0 (.num .i64) (.fld 1 (.num .i64) (.fld 2 (.list 1 (.num .i64)) (.fld 3 (.list 1 (.list 1 (.num .i64))) (.fld 4 (.list 1 (.num .i64)) (.fld 5 (.fld 0 (.list 2 (.fld 0 (.num .i64) (.fld 1 (.num .i64) .nil))) (.fld 1 (.num .i64) .nil)) .nil)))))) := by
  refine SeeOK.of fun H be oe n0 s0 mark room re Fn Fs bx o rx ns ss D h0 => ?_
  refine WF.k Tryz.func68 rfl rfl ?_
  refine KC.seq (KC.region ?_)
  refine KO.pv (PV.move rfl) rfl rfl ?_
  refine KO.pv (PV.move rfl) rfl rfl ?_
  refine KO.pv (PV.nilCheck rfl) rfl rfl ?_
  refine KO.pv (PV.fieldAddr fo38_0_APrefix rfl) rfl rfl ?_
  refine KO.call rfl rfl rfl rfl (Pre.fld (num_int tS) rfl h0) fun v0 G0 q0 => ?_
  refine KO.nil ?_
  obtain ⟨_, _, _, _, _, _, _, _, _, h1, k0⟩ := q0
  refine KC.seq (KC.region ?_)
  refine KO.pv (PV.move rfl) rfl rfl ?_
  refine KO.pv (PV.move rfl) rfl rfl ?_
  refine KO.pv (PV.nilCheck rfl) rfl rfl ?_
  refine KO.pv (PV.fieldAddr fo38_1_APrefix rfl) rfl rfl ?_
  refine KO.call rfl rfl rfl rfl (Pre.fld (num_int tS) rfl h1) fun v1 G1 q1 => ?_
  refine KO.nil ?_
  obtain ⟨_, _, _, _, _, _, _, _, _, h2, k1⟩ := q1
  refine KC.seq (KC.region ?_)
  refine KO.pv (PV.move rfl) rfl rfl ?_
  refine KO.pv (PV.move rfl) rfl rfl ?_
  refine KO.pv (PV.nilCheck rfl) rfl rfl ?_
  refine KO.pv (PV.fieldAddr fo38_2_APrefix rfl) rfl rfl ?_
  refine KO.call rfl rfl rfl rfl (Pre.fld (see_50 tS) rfl h2) fun v2 G2 q2 => ?_
  refine KO.nil ?_
  obtain ⟨_, _, _, _, _, _, _, _, _, h3, k2⟩ := q2
  refine KC.seq (KC.region ?_)
  refine KO.pv (PV.move rfl) rfl rfl ?_
  refine KO.pv (PV.move rfl) rfl rfl ?_
  refine KO.pv (PV.nilCheck rfl) rfl rfl ?_
  refine KO.pv (PV.fieldAddr fo38_3_APrefix rfl) rfl rfl ?_
  refine KO.call rfl rfl rfl rfl (Pre.fld (see_130 tS) rfl h3) fun v3 G3 q3 => ?_
  refine KO.nil ?_
  obtain ⟨_, _, _, _, _, _, _, _, _, h4, k3⟩ := q3
  refine KC.seq (KC.region ?_)
  refine KO.pv (PV.move rfl) rfl rfl ?_
  refine KO.pv (PV.move rfl) rfl rfl ?_
  refine KO.pv (PV.nilCheck rfl) rfl rfl ?_
  refine KO.pv (PV.fieldAddr fo38_4_APrefix rfl) rfl rfl ?_
  refine KO.call rfl rfl rfl rfl (Pre.fld (see_50 tS) rfl h4) fun v4 G4 q4 => ?_
  refine KO.nil ?_
  obtain ⟨_, _, _, _, _, _, _, _, _, h5, k4⟩ := q4
  refine KC.region ?_
  refine KO.pv (PV.move rfl) rfl rfl ?_
  refine KO.pv (PV.move rfl) rfl rfl ?_
  refine KO.pv (PV.nilCheck rfl) rfl rfl ?_
  refine KO.pv (PV.fieldAddr fo38_5_APrefix rfl) rfl rfl ?_
  refine KO.call rfl rfl rfl rfl (Pre.fld (see_131 tS) rfl h5) fun v5 G5 q5 => ?_
  refine KO.nil ?_
  obtain ⟨_, _, _, _, _, _, _, _, _, h6, k5⟩ := q5
  exact ⟨rfl, _, rfl, (k0 _ (k1 _ (k2 _ (k3 _ (k4 _ (k5 _ (Pre.nil h6)))))))⟩
theorem see_15 (tS : Nat) : SeeOK E0 3 tS 15 (.fld 0 (.fld 0 (.num .i64) (.fld 1 (.list 2 (.fld 0 (.num .i64) (.fld 1 (.num .i64) .nil))) (.fld 2 (.list 2 (.fld 0 (.num .i64) (.fld 1 (.num .i64) .nil))) (.fld 3 (.list 1 (.num .i64)) (.fld 4 (.list 1 (.num .i64)) .nil))))) (.fld 5 (.fld 0 (.num .i64) (.fld 1 (.num .i64) (.fld 2 (.list 1 (.num .i64)) (.fld 3 (.list 1 (.list 1 (.num .i64))) (.fld 4 (.list 1 (.num .i64)) (.fld 5 (.fld 0 (.list 2 (.fld 0 (.num .i64) (.fld 1 (.num .i64) .nil))) (.fld 1 (.num .i64) .nil)) .nil)))))) .nil)) := by
  refine SeeOK.of fun H be oe n0 s0 mark room re Fn Fs bx o rx ns ss D h0 => ?_
  refine WF.k Tryz.func15 rfl rfl ?_
  refine KC.seq (KC.region ?_)
  refine KO.pv (PV.move rfl) rfl rfl ?_
  refine KO.pv (PV.move rfl) rfl rfl ?_
  refine KO.pv (PV.nilCheck rfl) rfl rfl ?_
  refine KO.pv (PV.fieldAddr fo40_0_APrefix rfl) rfl rfl ?_
  refine KO.call rfl rfl rfl rfl (Pre.fld (see_87 tS) rfl h0) fun v0 G0 q0 => ?_
  refine KO.nil ?_
  obtain ⟨_, _, _, _, _, _, _, _, _, h1, k0⟩ := q0
  refine KC.region ?_
  refine KO.pv (PV.move rfl) rfl rfl ?_
  refine KO.pv (PV.move rfl) rfl rfl ?_
  refine KO.pv (PV.nilCheck rfl) rfl rfl ?_
  refine KO.pv (PV.fieldAddr fo40_1_APrefix rfl) rfl rfl ?_
  refine KO.call rfl rfl rfl rfl (Pre.fld (see_68 tS) rfl h1) fun v1 G1 q1 => ?_
  refine KO.nil ?_
  obtain ⟨_, _, _, _, _, _, _, _, _, h2, k1⟩ := q1
  exact ⟨rfl, _, rfl, (k0 _ (k1 _ (Pre.nil h2)))⟩
theorem see_14 (tS : Nat) : SeeOK E0 3 tS 14 (.fld 0 (.fld 0 (.num .i64) (.fld 1 (.list 2 (.fld 0 (.num .i64) (.fld 1 (.num .i64) .nil))) (.fld 2 (.list 2 (.fld 0 (.num .i64) (.fld 1 (.num .i64) .nil))) (.fld 3 (.list 1 (.num .i64)) (.fld 4 (.list 1 (.num .i64)) .nil))))) (.fld 5 (.fld 0 (.num .i64) (.fld 1 (.num .i64) (.fld 2 (.list 1 (.num .i64)) (.fld 3 (.list 1 (.list 1 (.num .i64))) (.fld 4 (.list 1 (.num .i64)) (.fld 5 (.fld 0 (.list 2 (.fld 0 (.num .i64) (.fld 1 (.num .i64) .nil))) (.fld 1 (.num .i64) .nil)) .nil)))))) .nil)) := by
  refine SeeOK.of fun H be oe n0 s0 mark room re Fn Fs bx o rx ns ss D h => ?_
  refine WF.k Tryz.func14 rfl rfl (KC.region ?_)
  refine KO.pv (PV.move rfl) rfl rfl ?_
  refine KO.call rfl rfl rfl rfl (((see_15 tS).pre h)) fun v1 G1 h1 => ?_
  refine KO.nil ?_
  exact ⟨rfl, _, rfl, h1⟩
theorem see_18 (tS : Nat) : SeeOK E0 3 tS 18 (.fld 0 (.fld 0 (.num .i64) (.fld 1 (.list 2 (.fld 0 (.num .i64) (.fld 1 (.num .i64) .nil))) (.fld 2 (.list 2 (.fld 0 (.num .i64) (.fld 1 (.num .i64) .nil))) (.fld 3 (.list 1 (.num .i64)) (.fld 4 (.list 1 (.num .i64)) .nil))))) (.fld 5 (.fld 0 (.num .i64) (.fld 1 (.num .i64) (.fld 2 (.list 1 (.num .i64)) (.fld 3 (.list 1 (.list 1 (.num .i64))) (.fld 4 (.list 1 (.num .i64)) (.fld 5 (.fld 0 (.list 2 (.fld 0 (.num .i64) (.fld 1 (.num .i64) .nil))) (.fld 1 (.num .i64) .nil)) .nil)))))) .nil)) := by
  refine SeeOK.of fun H be oe n0 s0 mark room re Fn Fs bx o rx ns ss D h => ?_
  refine WF.k Tryz.func18 rfl rfl (KC.region ?_)
  refine KO.pv (PV.move rfl) rfl rfl ?_
  refine KO.call rfl rfl rfl rfl (((see_15 tS).pre h)) fun v1 G1 h1 => ?_
  refine KO.nil ?_
  exact ⟨rfl, _, rfl, h1⟩
theorem cop_145 : CopOK E0 145 150 2 [.int .i64 0, .int .i64 0] := by
  intro H a len cap cells h1 h2 h3 h4
  refine WF.k Tryz.func145 rfl rfl ?_
  refine KC.seq (KC.region ?_)
  refine KO.pv (PV.assign rfl) rfl rfl ?_
  refine KO.nil ?_
  refine KC.seq (KC.region ?_)
  refine KO.pv (PV.move rfl) rfl rfl ?_
  refine KO.pv (PV.len un22_APrefix rfl) rfl rfl ?_
  refine KO.pv (PV.add rfl rfl ((show _ = ((len + 2 : Nat) : Int) from wrap64 (by omega) (by omega)))) rfl rfl ?_
  refine KO.makeSlice el22_APrefix ez150_APrefix sb150_APrefix (rfl) (rfl) ((show (0 : Nat) ≤ len + 2 by omega)) ((show len + 2 ≤ 1000000000 by omega)) rfl rfl fun G n1 => ?_
  have hrow : G.row H.next = some ⟨150, true, true, zerosFor [.int .i64 0, .int .i64 0] (len + 2)⟩ := by rw [n1.row, if_pos rfl]
  have hne : newElems 2 (.slice a len cap) G = some (len, cells) := by
    rw [newElems_frame (H := H) (fun x hx => by rcases h3 x hx with h | h; exact .inl h; exact .inr (by rw [n1.row, if_neg (by omega)]))]; exact h1
  have hzl : (zerosFor [.int .i64 0, .int .i64 0] (len + 2)).length = (len + 2) * 2 := zerosFor_length _ _
  refine KO.pv (PV.move rfl) rfl rfl ?_
  refine KO.appendIn el22_APrefix ez150_APrefix sb150_APrefix un22_APrefix rfl rfl hrow rfl hne h2 (by omega) (by rw [hzl, h2]; exact Nat.mul_le_mul_right _ (by omega)) (by omega) rfl rfl fun G2 u1 => ?_
  refine KO.pv (PV.assign rfl) rfl rfl ?_
  refine KO.nil ?_
  have hput : putL (zerosFor [.int .i64 0, .int .i64 0] (len + 2)) 0 cells = cells ++ zerosFor [.int .i64 0, .int .i64 0] 2 := by
    simp only [putL, List.take_zero, List.nil_append, Nat.zero_add]
    rw [h2]
    exact congrArg _ (zerosFor_drop (z := [.int .i64 0, .int .i64 0]) 2 len)
  rw [hput] at u1
  refine KC.ret ⟨rfl, _, rfl, rfl, by show G2.next = _; rw [u1.next, n1.next], by show G2.row _ = _; rw [u1.row, if_pos rfl], fun j hj => ?_⟩
  show G2.row j = _
  rw [u1.row, if_neg (by omega), n1.row, if_neg (by omega)]
theorem own_145 : OwnL E0 145 2 (.fld 0 (.num .i64) (.fld 1 (.num .i64) .nil)) :=
  cop_145.flat rfl (by decide) (by decide) (by decide) rfl (nz := [0, 0]) (tz := []) (fun _ => ⟨_, _, _, _, _, _, ⟨0, rfl, rfl, rfl, rfl, rfl⟩, ⟨_, _, _, _, _, _, ⟨0, rfl, rfl, rfl, rfl, rfl⟩, ⟨rfl, rfl, rfl⟩, rfl, rfl, rfl⟩, rfl, rfl, rfl⟩) (by decide) (by decide)
theorem cop_146 : CopOK E0 146 187 2 [.int .i64 0, .int .i64 0] := by
  intro H a len cap cells h1 h2 h3 h4
  refine WF.k Tryz.func146 rfl rfl ?_
  refine KC.seq (KC.region ?_)
  refine KO.pv (PV.assign rfl) rfl rfl ?_
  refine KO.nil ?_
  refine KC.seq (KC.region ?_)
  refine KO.pv (PV.move rfl) rfl rfl ?_
  refine KO.pv (PV.len un23_APrefix rfl) rfl rfl ?_
  refine KO.pv (PV.add rfl rfl ((show _ = ((len + 2 : Nat) : Int) from wrap64 (by omega) (by omega)))) rfl rfl ?_
  refine KO.makeSlice el23_APrefix ez187_APrefix sb187_APrefix (rfl) (rfl) ((show (0 : Nat) ≤ len + 2 by omega)) ((show len + 2 ≤ 1000000000 by omega)) rfl rfl fun G n1 => ?_
  have hrow : G.row H.next = some ⟨187, true, true, zerosFor [.int .i64 0, .int .i64 0] (len + 2)⟩ := by rw [n1.row, if_pos rfl]
  have hne : newElems 2 (.slice a len cap) G = some (len, cells) := by
    rw [newElems_frame (H := H) (fun x hx => by rcases h3 x hx with h | h; exact .inl h; exact .inr (by rw [n1.row, if_neg (by omega)]))]; exact h1
  have hzl : (zerosFor [.int .i64 0, .int .i64 0] (len + 2)).length = (len + 2) * 2 := zerosFor_length _ _
  refine KO.pv (PV.move rfl) rfl rfl ?_
  refine KO.appendIn el23_APrefix ez187_APrefix sb187_APrefix un23_APrefix rfl rfl hrow rfl hne h2 (by omega) (by rw [hzl, h2]; exact Nat.mul_le_mul_right _ (by omega)) (by omega) rfl rfl fun G2 u1 => ?_
  refine KO.pv (PV.assign rfl) rfl rfl ?_
  refine KO.nil ?_
  have hput : putL (zerosFor [.int .i64 0, .int .i64 0] (len + 2)) 0 cells = cells ++ zerosFor [.int .i64 0, .int .i64 0] 2 := by
    simp only [putL, List.take_zero, List.nil_append, Nat.zero_add]
    rw [h2]
    exact congrArg _ (zerosFor_drop (z := [.int .i64 0, .int .i64 0]) 2 len)
  rw [hput] at u1
  refine KC.ret ⟨rfl, _, rfl, rfl, by show G2.next = _; rw [u1.next, n1.next], by show G2.row _ = _; rw [u1.row, if_pos rfl], fun j hj => ?_⟩
  show G2.row j = _
  rw [u1.row, if_neg (by omega), n1.row, if_neg (by omega)]
theorem own_146 : OwnL E0 146 2 (.fld 0 (.num .i64) (.fld 1 (.num .i64) .nil)) :=
  cop_146.flat rfl (by decide) (by decide) (by decide) rfl (nz := [0, 0]) (tz := []) (fun _ => ⟨_, _, _, _, _, _, ⟨0, rfl, rfl, rfl, rfl, rfl⟩, ⟨_, _, _, _, _, _, ⟨0, rfl, rfl, rfl, rfl, rfl⟩, ⟨rfl, rfl, rfl⟩, rfl, rfl, rfl⟩, rfl, rfl, rfl⟩) (by decide) (by decide)
theorem cop_108 : CopOK E0 108 3 1 [.int .i64 0] := by
  intro H a len cap cells h1 h2 h3 h4
  refine WF.k Tryz.func108 rfl rfl ?_
  refine KC.seq (KC.region ?_)
  refine KO.pv (PV.assign rfl) rfl rfl ?_
  refine KO.nil ?_
  refine KC.seq (KC.region ?_)
  refine KO.pv (PV.move rfl) rfl rfl ?_
  refine KO.pv (PV.len un24_APrefix rfl) rfl rfl ?_
  refine KO.pv (PV.add rfl rfl ((show _ = ((len + 2 : Nat) : Int) from wrap64 (by omega) (by omega)))) rfl rfl ?_
  refine KO.makeSlice el24_APrefix ez3_APrefix sb3_APrefix (rfl) (rfl) ((show (0 : Nat) ≤ len + 2 by omega)) ((show len + 2 ≤ 1000000000 by omega)) rfl rfl fun G n1 => ?_
  have hrow : G.row H.next = some ⟨3, true, true, zerosFor [.int .i64 0] (len + 2)⟩ := by rw [n1.row, if_pos rfl]
  have hne : newElems 1 (.slice a len cap) G = some (len, cells) := by
    rw [newElems_frame (H := H) (fun x hx => by rcases h3 x hx with h | h; exact .inl h; exact .inr (by rw [n1.row, if_neg (by omega)]))]; exact h1
  have hzl : (zerosFor [.int .i64 0] (len + 2)).length = (len + 2) * 1 := zerosFor_length _ _
  refine KO.pv (PV.move rfl) rfl rfl ?_
  refine KO.appendIn el24_APrefix ez3_APrefix sb3_APrefix un24_APrefix rfl rfl hrow rfl hne h2 (by omega) (by rw [hzl, h2]; exact Nat.mul_le_mul_right _ (by omega)) (by omega) rfl rfl fun G2 u1 => ?_
  refine KO.pv (PV.assign rfl) rfl rfl ?_
  refine KO.nil ?_
  have hput : putL (zerosFor [.int .i64 0] (len + 2)) 0 cells = cells ++ zerosFor [.int .i64 0] 2 := by
    simp only [putL, List.take_zero, List.nil_append, Nat.zero_add]
    rw [h2]
    exact congrArg _ (zerosFor_drop (z := [.int .i64 0]) 2 len)
  rw [hput] at u1
  refine KC.ret ⟨rfl, _, rfl, rfl, by show G2.next = _; rw [u1.next, n1.next], by show G2.row _ = _; rw [u1.row, if_pos rfl], fun j hj => ?_⟩
  show G2.row j = _
  rw [u1.row, if_neg (by omega), n1.row, if_neg (by omega)]
theorem own_108 : OwnL E0 108 1 (.num .i64) :=
  cop_108.flat rfl (by decide) (by decide) (by decide) rfl (nz := [0]) (tz := []) (fun _ => ⟨0, rfl, rfl, rfl, rfl, rfl⟩) (by decide) (by decide)
theorem own_86 : OwnA E0 86 (.fld 0 (.num .i64) (.fld 1 (.list 2 (.fld 0 (.num .i64) (.fld 1 (.num .i64) .nil))) (.fld 2 (.list 2 (.fld 0 (.num .i64) (.fld 1 (.num .i64) .nil))) (.fld 3 (.list 1 (.num .i64)) (.fld 4 (.list 1 (.num .i64)) .nil))))) 5 := by
  intro w_ H cs ns ss D hcl hone hR hD l1 l2
  obtain ⟨v0, v1, v2, v3, v4, rfl⟩ : ∃ v0 v1 v2 v3 v4, cs = [v0, v1, v2, v3, v4] := by
    match cs, hcl with
    | [v0, v1, v2, v3, v4], _ => exact ⟨v0, v1, v2, v3, v4, rfl⟩
  obtain ⟨n0, s0, D0, m0, t0, B0, r0, R0, rfl, rfl, rfl⟩ := hR
  obtain ⟨n1, s1, D1, m1, t1, B1, r1, R1, rfl, rfl, rfl⟩ := R0
  obtain ⟨n2, s2, D2, m2, t2, B2, r2, R2, rfl, rfl, rfl⟩ := R1
  obtain ⟨n3, s3, D3, m3, t3, B3, r3, R3, rfl, rfl, rfl⟩ := R2
  obtain ⟨n4, s4, D4, m4, t4, B4, r4, R4, rfl, rfl, rfl⟩ := R3
  obtain ⟨rfl, rfl, rfl⟩ := R4
  simp only [List.length_append, List.length_nil, List.mem_append, List.append_nil] at l1 l2 hD
  have r10 := r1
  obtain ⟨a1, len1, cap1, hc1, hl1, hm1, nn1, hn1, hL1⟩ := r1
  have e1 : v1 = .slice a1 len1 cap1 := by simpa using hc1
  subst e1
  have r20 := r2
  obtain ⟨a2, len2, cap2, hc2, hl2, hm2, nn2, hn2, hL2⟩ := r2
  have e2 : v2 = .slice a2 len2 cap2 := by simpa using hc2
  subst e2
  have r30 := r3
  obtain ⟨a3, len3, cap3, hc3, hl3, hm3, nn3, hn3, hL3⟩ := r3
  have e3 : v3 = .slice a3 len3 cap3 := by simpa using hc3
  subst e3
  have r40 := r4
  obtain ⟨a4, len4, cap4, hc4, hl4, hm4, nn4, hn4, hL4⟩ := r4
  have e4 : v4 = .slice a4 len4 cap4 := by simpa using hc4
  subst e4
  have honeA := hone
  simp only [List.all_cons, List.all_nil, Bool.and_true, Bool.and_eq_true] at honeA
  refine WF.kc Tryz.func86 rfl rfl rfl ?_
  refine KC.seq (KC.region ?_)
  refine KO.box (rfl) ((boxAgg hone)) rfl rfl fun G0 u0 => ?_
  refine KO.alloc zt26_APrefix rfl rfl fun G1 u1 => ?_
  refine KO.nil ?_
  have hX : G1.row H.next = some ⟨26, true, true, [v0, (.slice a1 len1 cap1), (.slice a2 len2 cap2), (.slice a3 len3 cap3), (.slice a4 len4 cap4)]⟩ := by rw [u1.row, if_neg (by rw [u0.next]; omega), u0.row, if_pos rfl]; rfl
  have hY : G1.row (H.next + 1) = some ⟨26, true, true, [.int .i64 0, .slice none 0 0, .slice none 0 0, .slice none 0 0, .slice none 0 0]⟩ := by rw [u1.row, if_pos u0.next.symm]
  have hk1 : ∀ j, j < H.next → G1.row j = H.row j := fun j hj => by rw [u1.row, if_neg (by rw [u0.next]; omega), u0.row, if_neg (by omega)]
  have hn1 : G1.next = H.next + 2 := by rw [u1.next, u0.next]
  rw [u0.next]
  have hlen1 : len1 ≤ 900000000 := list_len r10 hc1 (by omega) (by omega) (by decide)
  refine KC.seq (KC.region ?_)
  refine KO.pv (PV.fieldAddr fo26_1_APrefix rfl) rfl rfl ?_
  refine KO.load1 ag22_APrefix rfl (hX) (rfl) rfl rfl ?_
  refine KO.call rfl rfl rfl rfl (own_145 w_ G1 a1 len1 cap1 n1 s1 D1 (r10.shift (fun j hj => hk1 j (hD j (by simp only [hj, true_or, or_true]))) (fun i hi => by simp only [Sh.cells, List.mem_singleton] at hi; subst hi; rfl)) (fun j hj => by have := hD j (by simp only [hj, true_or, or_true]); omega) (by omega) (by omega) (hlen1)) fun w1 K1 q1 => ?_
  obtain ⟨⟨a1p, l1p, c1p, hw1⟩, o1⟩ := q1
  dsimp only at o1 hw1
  subst hw1
  have hX2_1 : K1.row H.next = some ⟨26, true, true, [v0, (.slice a1 len1 cap1), (.slice a2 len2 cap2), (.slice a3 len3 cap3), (.slice a4 len4 cap4)]⟩ := by rw [o1.keep _ (by omega)]; exact hX
  refine KO.pv (PV.fieldAddr fo26_1_APrefix rfl) rfl rfl ?_
  refine KO.store1 sz22_APrefix rfl rfl rfl (hX2_1) (rfl) ((by simp)) rfl fun M1 x1 => ?_
  refine KO.nil ?_
  have on1 := o1.next
  replace hX : M1.row H.next = some ⟨26, true, true, [v0, (.slice a1p l1p c1p), (.slice a2 len2 cap2), (.slice a3 len3 cap3), (.slice a4 len4 cap4)]⟩ := by rw [x1.row, if_pos rfl]; rfl
  replace hY : M1.row (H.next + 1) = some ⟨26, true, true, [.int .i64 0, .slice none 0 0, .slice none 0 0, .slice none 0 0, .slice none 0 0]⟩ := by rw [x1.row, if_neg (by omega), o1.keep _ (by omega)]; exact hY
  have hk2 : ∀ j, j < H.next → M1.row j = H.row j := fun j hj => by rw [x1.row, if_neg (by omega), o1.keep j (by omega), hk1 j hj]
  have hn2 : M1.next = K1.next := x1.next
  have hlen2 : len2 ≤ 900000000 := list_len r20 hc2 (by omega) (by omega) (by decide)
  refine KC.seq (KC.region ?_)
  refine KO.pv (PV.fieldAddr fo26_2_APrefix rfl) rfl rfl ?_
  refine KO.load1 ag23_APrefix rfl (hX) (rfl) rfl rfl ?_
  refine KO.call rfl rfl rfl rfl (own_146 w_ M1 a2 len2 cap2 n2 s2 D2 (r20.shift (fun j hj => hk2 j (hD j (by simp only [hj, true_or, or_true]))) (fun i hi => by simp only [Sh.cells, List.mem_singleton] at hi; subst hi; rfl)) (fun j hj => by have := hD j (by simp only [hj, true_or, or_true]); omega) (by omega) (by omega) (hlen2)) fun w2 K2 q2 => ?_
  obtain ⟨⟨a2p, l2p, c2p, hw2⟩, o2⟩ := q2
  dsimp only at o2 hw2
  subst hw2
  have hX2_2 : K2.row H.next = some ⟨26, true, true, [v0, (.slice a1p l1p c1p), (.slice a2 len2 cap2), (.slice a3 len3 cap3), (.slice a4 len4 cap4)]⟩ := by rw [o2.keep _ (by omega)]; exact hX
  refine KO.pv (PV.fieldAddr fo26_2_APrefix rfl) rfl rfl ?_
  refine KO.store1 sz23_APrefix rfl rfl rfl (hX2_2) (rfl) ((by simp)) rfl fun M2 x2 => ?_
  refine KO.nil ?_
  have on2 := o2.next
  replace hX : M2.row H.next = some ⟨26, true, true, [v0, (.slice a1p l1p c1p), (.slice a2p l2p c2p), (.slice a3 len3 cap3), (.slice a4 len4 cap4)]⟩ := by rw [x2.row, if_pos rfl]; rfl
  replace hY : M2.row (H.next + 1) = some ⟨26, true, true, [.int .i64 0, .slice none 0 0, .slice none 0 0, .slice none 0 0, .slice none 0 0]⟩ := by rw [x2.row, if_neg (by omega), o2.keep _ (by omega)]; exact hY
  have hk3 : ∀ j, j < H.next → M2.row j = H.row j := fun j hj => by rw [x2.row, if_neg (by omega), o2.keep j (by omega), hk2 j hj]
  have hn3 : M2.next = K2.next := x2.next
  have hlen3 : len3 ≤ 900000000 := list_len r30 hc3 (by omega) (by omega) (by decide)
  refine KC.seq (KC.region ?_)
  refine KO.pv (PV.fieldAddr fo26_3_APrefix rfl) rfl rfl ?_
  refine KO.load1 ag24_APrefix rfl (hX) (rfl) rfl rfl ?_
  refine KO.call rfl rfl rfl rfl (own_108 w_ M2 a3 len3 cap3 n3 s3 D3 (r30.shift (fun j hj => hk3 j (hD j (by simp only [hj, true_or, or_true]))) (fun i hi => by simp only [Sh.cells, List.mem_singleton] at hi; subst hi; rfl)) (fun j hj => by have := hD j (by simp only [hj, true_or, or_true]); omega) (by omega) (by omega) (hlen3)) fun w3 K3 q3 => ?_
  obtain ⟨⟨a3p, l3p, c3p, hw3⟩, o3⟩ := q3
  dsimp only at o3 hw3
  subst hw3
  have hX2_3 : K3.row H.next = some ⟨26, true, true, [v0, (.slice a1p l1p c1p), (.slice a2p l2p c2p), (.slice a3 len3 cap3), (.slice a4 len4 cap4)]⟩ := by rw [o3.keep _ (by omega)]; exact hX
  refine KO.pv (PV.fieldAddr fo26_3_APrefix rfl) rfl rfl ?_
  refine KO.store1 sz24_APrefix rfl rfl rfl (hX2_3) (rfl) ((by simp)) rfl fun M3 x3 => ?_
  refine KO.nil ?_
  have on3 := o3.next
  replace hX : M3.row H.next = some ⟨26, true, true, [v0, (.slice a1p l1p c1p), (.slice a2p l2p c2p), (.slice a3p l3p c3p), (.slice a4 len4 cap4)]⟩ := by rw [x3.row, if_pos rfl]; rfl
  replace hY : M3.row (H.next + 1) = some ⟨26, true, true, [.int .i64 0, .slice none 0 0, .slice none 0 0, .slice none 0 0, .slice none 0 0]⟩ := by rw [x3.row, if_neg (by omega), o3.keep _ (by omega)]; exact hY
  have hk4 : ∀ j, j < H.next → M3.row j = H.row j := fun j hj => by rw [x3.row, if_neg (by omega), o3.keep j (by omega), hk3 j hj]
  have hn4 : M3.next = K3.next := x3.next
  have hlen4 : len4 ≤ 900000000 := list_len r40 hc4 (by omega) (by omega) (by decide)
  refine KC.seq (KC.region ?_)
  refine KO.pv (PV.fieldAddr fo26_4_APrefix rfl) rfl rfl ?_
  refine KO.load1 ag24_APrefix rfl (hX) (rfl) rfl rfl ?_
  refine KO.call rfl rfl rfl rfl (own_108 w_ M3 a4 len4 cap4 n4 s4 D4 (r40.shift (fun j hj => hk4 j (hD j (by simp only [hj, true_or, or_true]))) (fun i hi => by simp only [Sh.cells, List.mem_singleton] at hi; subst hi; rfl)) (fun j hj => by have := hD j (by simp only [hj, true_or, or_true]); omega) (by omega) (by omega) (hlen4)) fun w4 K4 q4 => ?_
  obtain ⟨⟨a4p, l4p, c4p, hw4⟩, o4⟩ := q4
  dsimp only at o4 hw4
  subst hw4
  have hX2_4 : K4.row H.next = some ⟨26, true, true, [v0, (.slice a1p l1p c1p), (.slice a2p l2p c2p), (.slice a3p l3p c3p), (.slice a4 len4 cap4)]⟩ := by rw [o4.keep _ (by omega)]; exact hX
  refine KO.pv (PV.fieldAddr fo26_4_APrefix rfl) rfl rfl ?_
  refine KO.store1 sz24_APrefix rfl rfl rfl (hX2_4) (rfl) ((by simp)) rfl fun M4 x4 => ?_
  refine KO.nil ?_
  have on4 := o4.next
  replace hX : M4.row H.next = some ⟨26, true, true, [v0, (.slice a1p l1p c1p), (.slice a2p l2p c2p), (.slice a3p l3p c3p), (.slice a4p l4p c4p)]⟩ := by rw [x4.row, if_pos rfl]; rfl
  replace hY : M4.row (H.next + 1) = some ⟨26, true, true, [.int .i64 0, .slice none 0 0, .slice none 0 0, .slice none 0 0, .slice none 0 0]⟩ := by rw [x4.row, if_neg (by omega), o4.keep _ (by omega)]; exact hY
  have hk5 : ∀ j, j < H.next → M4.row j = H.row j := fun j hj => by rw [x4.row, if_neg (by omega), o4.keep j (by omega), hk4 j hj]
  have hn5 : M4.next = K4.next := x4.next
  refine KC.seq (KC.region ?_)
  refine KO.loadN ag26_APrefix sz26_APrefix rfl (hX) ((takeN_of (p := [v0, (.slice a1p l1p c1p), (.slice a2p l2p c2p), (.slice a3p l3p c3p), (.slice a4p l4p c4p)]) rfl rfl)) rfl rfl ?_
  refine KO.store rfl rfl sz26_APrefix ((goodAgg rfl (by simp only [List.all_cons, List.all_nil, honeA, oneC_slice, Bool.and_self]))) (hY) (rfl) ((by simp)) rfl fun Z z1 => ?_
  refine KO.nil ?_
  have hZ : Z.row (H.next + 1) = some ⟨26, true, true, [v0, (.slice a1p l1p c1p), (.slice a2p l2p c2p), (.slice a3p l3p c3p), (.slice a4p l4p c4p)]⟩ := by rw [z1.row, if_pos rfl]; rfl
  have hzn : Z.next = M4.next := z1.next
  have stay : ∀ j, j ≠ H.next + 1 → Z.row j = M4.row j := fun j hj => by rw [z1.row, if_neg hj]
  have fr1 : ∀ j, G1.next ≤ j → j < K1.next → Z.row j = K1.row j := by
    intro j j1 j2
    rw [stay j (by omega)]
    rw [x4.row, if_neg (by omega), o4.keep j (by omega)]
    rw [x3.row, if_neg (by omega), o3.keep j (by omega)]
    rw [x2.row, if_neg (by omega), o2.keep j (by omega)]
    rw [x1.row, if_neg (by omega)]
  have fr2 : ∀ j, M1.next ≤ j → j < K2.next → Z.row j = K2.row j := by
    intro j j1 j2
    rw [stay j (by omega)]
    rw [x4.row, if_neg (by omega), o4.keep j (by omega)]
    rw [x3.row, if_neg (by omega), o3.keep j (by omega)]
    rw [x2.row, if_neg (by omega)]
  have fr3 : ∀ j, M2.next ≤ j → j < K3.next → Z.row j = K3.row j := by
    intro j j1 j2
    rw [stay j (by omega)]
    rw [x4.row, if_neg (by omega), o4.keep j (by omega)]
    rw [x3.row, if_neg (by omega)]
  have fr4 : ∀ j, M3.next ≤ j → j < K4.next → Z.row j = K4.row j := by
    intro j j1 j2
    rw [stay j (by omega)]
    rw [x4.row, if_neg (by omega)]
  have P5 : OwnedP Z.next Z.next Z .nil [v0, (.slice a1p l1p c1p), (.slice a2p l2p c2p), (.slice a3p l3p c3p), (.slice a4p l4p c4p)] 0 0 0 := .nil
  have P4 := OwnedP.fld (off := 4) (OwnedP.of (cs' := [v0, (.slice a1p l1p c1p), (.slice a2p l2p c2p), (.slice a3p l3p c3p), (.slice a4p l4p c4p)]) (o := 0 + 4) o4 fr4 (by simp [Sh.cells])) (P5.wide (lo' := K4.next) (by omega) (Nat.le_refl _)) (by omega) (by omega)
  have P3 := OwnedP.fld (off := 3) (OwnedP.of (cs' := [v0, (.slice a1p l1p c1p), (.slice a2p l2p c2p), (.slice a3p l3p c3p), (.slice a4p l4p c4p)]) (o := 0 + 3) o3 fr3 (by simp [Sh.cells])) (P4.wide (lo' := K3.next) (by omega) (Nat.le_refl _)) (by omega) (by omega)
  have P2 := OwnedP.fld (off := 2) (OwnedP.of (cs' := [v0, (.slice a1p l1p c1p), (.slice a2p l2p c2p), (.slice a3p l3p c3p), (.slice a4p l4p c4p)]) (o := 0 + 2) o2 fr2 (by simp [Sh.cells])) (P3.wide (lo' := K2.next) (by omega) (Nat.le_refl _)) (by omega) (by omega)
  have P1 := OwnedP.fld (off := 1) (OwnedP.of (cs' := [v0, (.slice a1p l1p c1p), (.slice a2p l2p c2p), (.slice a3p l3p c3p), (.slice a4p l4p c4p)]) (o := 0 + 1) o1 fr1 (by simp [Sh.cells])) (P2.wide (lo' := K1.next) (by omega) (Nat.le_refl _)) (by omega) (by omega)
  have P0 := OwnedP.fld (off := 0) (OwnedP.flat (lo := G1.next) (hi := G1.next) (H := Z) (cs' := [v0, (.slice a1p l1p c1p), (.slice a2p l2p c2p), (.slice a3p l3p c3p), (.slice a4p l4p c4p)]) (o' := 0 + 0) rfl r0 (by simp [Sh.cells])) P1 (Nat.le_refl _) (by omega)
  refine KC.ret ⟨rfl, _, _, rfl, (by rw [load_row hZ]; exact readN ag26_APrefix sz26_APrefix (takeN_of rfl rfl)), [v0, (.slice a1p l1p c1p), (.slice a2p l2p c2p), (.slice a3p l3p c3p), (.slice a4p l4p c4p)], rfl, rfl, by simp only [List.all_cons, List.all_nil, honeA, oneC_slice, Bool.and_self], ?_⟩
  refine Owned.ofP (P0.wide (by omega) (Nat.le_refl _)) (by show H.next ≤ Z.next; omega) (fun j hj => by show Z.row j = _; rw [stay j (by omega)]; exact hk5 j hj) ?_ ?_
  · simp only [List.length_append, List.length_nil, Nat.add_zero]
  · simp only [List.length_append, List.length_nil, Nat.add_zero]
theorem own_10 : OwnA E0 10 (.fld 0 (.fld 0 (.num .i64) (.fld 1 (.list 2 (.fld 0 (.num .i64) (.fld 1 (.num .i64) .nil))) (.fld 2 (.list 2 (.fld 0 (.num .i64) (.fld 1 (.num .i64) .nil))) (.fld 3 (.list 1 (.num .i64)) (.fld 4 (.list 1 (.num .i64)) .nil))))) (.fld 5 (.num .i64) .nil)) 6 := by
  intro w_ H cs ns ss D hcl hone hR hD l1 l2
  obtain ⟨v0, v1, v2, v3, v4, v5, rfl⟩ : ∃ v0 v1 v2 v3 v4 v5, cs = [v0, v1, v2, v3, v4, v5] := by
    match cs, hcl with
    | [v0, v1, v2, v3, v4, v5], _ => exact ⟨v0, v1, v2, v3, v4, v5, rfl⟩
  obtain ⟨n0, s0, D0, m0, t0, B0, r0, R0, rfl, rfl, rfl⟩ := hR
  obtain ⟨n1, s1, D1, m1, t1, B1, r1, R1, rfl, rfl, rfl⟩ := R0
  obtain ⟨rfl, rfl, rfl⟩ := R1
  simp only [List.length_append, List.length_nil, List.mem_append, List.append_nil] at l1 l2 hD
  have honeA := hone
  simp only [List.all_cons, List.all_nil, Bool.and_true, Bool.and_eq_true] at honeA
  refine WF.kc Tryz.func10 rfl rfl rfl ?_
  refine KC.seq (KC.region ?_)
  refine KO.box (rfl) ((boxAgg hone)) rfl rfl fun G0 u0 => ?_
  refine KO.alloc zt28_APrefix rfl rfl fun G1 u1 => ?_
  refine KO.nil ?_
  have hX : G1.row H.next = some ⟨28, true, true, [v0, v1, v2, v3, v4, v5]⟩ := by rw [u1.row, if_neg (by rw [u0.next]; omega), u0.row, if_pos rfl]; rfl
  have hY : G1.row (H.next + 1) = some ⟨28, true, true, [.int .i64 0, .slice none 0 0, .slice none 0 0, .slice none 0 0, .slice none 0 0, .int .i64 0]⟩ := by rw [u1.row, if_pos u0.next.symm]
  have hk1 : ∀ j, j < H.next → G1.row j = H.row j := fun j hj => by rw [u1.row, if_neg (by rw [u0.next]; omega), u0.row, if_neg (by omega)]
  have hn1 : G1.next = H.next + 2 := by rw [u1.next, u0.next]
  rw [u0.next]
  refine KC.seq (KC.region ?_)
  refine KO.pv (PV.fieldAddr fo28_0_APrefix rfl) rfl rfl ?_
  refine KO.loadN ag26_APrefix sz26_APrefix rfl (hX) ((takeN_of (p := [v0, v1, v2, v3, v4]) rfl rfl)) rfl rfl ?_
  refine KO.call rfl rfl rfl rfl (own_86 w_ G1 [v0, v1, v2, v3, v4] n0 s0 D0 rfl (by simp only [List.all_cons, List.all_nil, honeA, oneC_slice, Bool.and_self]) (r0.shift (fun j hj => hk1 j (hD j (by simp only [hj, true_or, or_true]))) (fun i hi => by revert i; simp [Sh.cells])) (fun j hj => by have := hD j (by simp only [hj, true_or, or_true]); omega) (by omega) (by omega)) fun w1 K1 q1 => ?_
  obtain ⟨cs1, hw1, hcl1, hone1, o1⟩ := q1
  dsimp only at o1 hw1
  subst hw1
  obtain ⟨w1_0, w1_1, w1_2, w1_3, w1_4, rfl⟩ : ∃ w1_0 w1_1 w1_2 w1_3 w1_4, cs1 = [w1_0, w1_1, w1_2, w1_3, w1_4] := by
    match cs1, hcl1 with
    | [w1_0, w1_1, w1_2, w1_3, w1_4], _ => exact ⟨w1_0, w1_1, w1_2, w1_3, w1_4, rfl⟩
  simp only [List.all_cons, List.all_nil, Bool.and_true, Bool.and_eq_true] at hone1
  have hg1 : goodCells (.agg [w1_0, w1_1, w1_2, w1_3, w1_4].toArray) 5 = some [w1_0, w1_1, w1_2, w1_3, w1_4] := goodAgg rfl (by simp only [List.all_cons, List.all_nil, hone1, Bool.and_self])
  have hX2_1 : K1.row H.next = some ⟨28, true, true, [v0, v1, v2, v3, v4, v5]⟩ := by rw [o1.keep _ (by omega)]; exact hX
  refine KO.pv (PV.fieldAddr fo28_0_APrefix rfl) rfl rfl ?_
  refine KO.store rfl rfl sz26_APrefix (hg1) (hX2_1) (rfl) ((by simp)) rfl fun M1 x1 => ?_
  refine KO.nil ?_
  have on1 := o1.next
  replace hX : M1.row H.next = some ⟨28, true, true, [w1_0, w1_1, w1_2, w1_3, w1_4, v5]⟩ := by rw [x1.row, if_pos rfl]; rfl
  replace hY : M1.row (H.next + 1) = some ⟨28, true, true, [.int .i64 0, .slice none 0 0, .slice none 0 0, .slice none 0 0, .slice none 0 0, .int .i64 0]⟩ := by rw [x1.row, if_neg (by omega), o1.keep _ (by omega)]; exact hY
  have hk2 : ∀ j, j < H.next → M1.row j = H.row j := fun j hj => by rw [x1.row, if_neg (by omega), o1.keep j (by omega), hk1 j hj]
  have hn2 : M1.next = K1.next := x1.next
  refine KC.seq (KC.region ?_)
  refine KO.loadN ag28_APrefix sz28_APrefix rfl (hX) ((takeN_of (p := [w1_0, w1_1, w1_2, w1_3, w1_4, v5]) rfl rfl)) rfl rfl ?_
  refine KO.store rfl rfl sz28_APrefix ((goodAgg rfl (by simp only [List.all_cons, List.all_nil, honeA, oneC_slice, Bool.and_self, hone1]))) (hY) (rfl) ((by simp)) rfl fun Z z1 => ?_
  refine KO.nil ?_
  have hZ : Z.row (H.next + 1) = some ⟨28, true, true, [w1_0, w1_1, w1_2, w1_3, w1_4, v5]⟩ := by rw [z1.row, if_pos rfl]; rfl
  have hzn : Z.next = M1.next := z1.next
  have stay : ∀ j, j ≠ H.next + 1 → Z.row j = M1.row j := fun j hj => by rw [z1.row, if_neg hj]
  have fr1 : ∀ j, G1.next ≤ j → j < K1.next → Z.row j = K1.row j := by
    intro j j1 j2
    rw [stay j (by omega)]
    rw [x1.row, if_neg (by omega)]
  have P2 : OwnedP Z.next Z.next Z .nil [w1_0, w1_1, w1_2, w1_3, w1_4, v5] 0 0 0 := .nil
  have P1 := OwnedP.fld (off := 5) (OwnedP.flat (lo := Z.next) (hi := Z.next) (H := Z) (cs' := [w1_0, w1_1, w1_2, w1_3, w1_4, v5]) (o' := 0 + 5) rfl r1 (by simp [Sh.cells])) P2 (Nat.le_refl _) (by omega)
  have P0 := OwnedP.fld (off := 0) (OwnedP.of (cs' := [w1_0, w1_1, w1_2, w1_3, w1_4, v5]) (o := 0 + 0) o1 fr1 (by simp [Sh.cells])) (P1.wide (lo' := K1.next) (by omega) (Nat.le_refl _)) (by omega) (by omega)
  refine KC.ret ⟨rfl, _, _, rfl, (by rw [load_row hZ]; exact readN ag28_APrefix sz28_APrefix (takeN_of rfl rfl)), [w1_0, w1_1, w1_2, w1_3, w1_4, v5], rfl, rfl, by simp only [List.all_cons, List.all_nil, honeA, oneC_slice, Bool.and_self, hone1], ?_⟩
  refine Owned.ofP (P0.wide (by omega) (Nat.le_refl _)) (by show H.next ≤ Z.next; omega) (fun j hj => by show Z.row j = _; rw [stay j (by omega)]; exact hk2 j hj) ?_ ?_
  · simp only [List.length_append, List.length_nil, Nat.add_zero]
  · simp only [List.length_append, List.length_nil, Nat.add_zero]
theorem bld_room : buildA E0.P 136 [(4, .bool true)] = some (.agg #[.slice none 0 0, .slice none 0 0, .bool false, .int .i64 0, .bool true]) := by kernel_rfl
theorem bld_mark : buildA E0.P 136 [(2, .bool true), (4, .bool true)] = some (.agg #[.slice none 0 0, .slice none 0 0, .bool true, .int .i64 0, .bool true]) := by kernel_rfl
theorem bld_at (a : Int) : buildA E0.P 136 [(2, .bool true), (3, .int .i64 a)] = some (.agg #[.slice none 0 0, .slice none 0 0, .bool true, .int .i64 a, .bool false]) := by kernel_rfl
theorem apart_9 {own see : FuncId} {calls : List FuncId} (hown : OwnA E0 own (.fld 0 (.fld 0 (.num .i64) (.fld 1 (.list 2 (.fld 0 (.num .i64) (.fld 1 (.num .i64) .nil))) (.fld 2 (.list 2 (.fld 0 (.num .i64) (.fld 1 (.num .i64) .nil))) (.fld 3 (.list 1 (.num .i64)) (.fld 4 (.list 1 (.num .i64)) .nil))))) (.fld 5 (.num .i64) .nil)) 6) (hsee : SeeOK E0 3 9 see (.fld 0 (.fld 0 (.num .i64) (.fld 1 (.list 2 (.fld 0 (.num .i64) (.fld 1 (.num .i64) .nil))) (.fld 2 (.list 2 (.fld 0 (.num .i64) (.fld 1 (.num .i64) .nil))) (.fld 3 (.list 1 (.num .i64)) (.fld 4 (.list 1 (.num .i64)) .nil))))) (.fld 5 (.num .i64) .nil))) (hcalls : ∀ f ∈ calls, CallOK' E0 3 9 47 f (.fld 0 (.fld 0 (.num .i64) (.fld 1 (.list 2 (.fld 0 (.num .i64) (.fld 1 (.num .i64) .nil))) (.fld 2 (.list 2 (.fld 0 (.num .i64) (.fld 1 (.num .i64) .nil))) (.fld 3 (.list 1 (.num .i64)) (.fld 4 (.list 1 (.num .i64)) .nil))))) (.fld 5 (.num .i64) .nil)) ∧ E0.ext f = none) (ho : E0.ext own = none) (hs : E0.ext see = none) (few : calls.length ≤ 1000)
    (H : AHeap) (cs : List Value) (ns : List Int) (ss : List ByteArray) (D : List Nat) (hcl : cs.length = 6) (hone : cs.all oneC = true) (w : Bool × Bool) (hwS : Sh.bools (.fld 0 (.fld 0 (.num .i64) (.fld 1 (.list 2 (.fld 0 (.num .i64) (.fld 1 (.num .i64) .nil))) (.fld 2 (.list 2 (.fld 0 (.num .i64) (.fld 1 (.num .i64) .nil))) (.fld 3 (.list 1 (.num .i64)) (.fld 4 (.list 1 (.num .i64)) .nil))))) (.fld 5 (.num .i64) .nil)) = true → w.1 = true) (hR : Rd H ⟨false, w.1, w.2⟩ (.fld 0 (.fld 0 (.num .i64) (.fld 1 (.list 2 (.fld 0 (.num .i64) (.fld 1 (.num .i64) .nil))) (.fld 2 (.list 2 (.fld 0 (.num .i64) (.fld 1 (.num .i64) .nil))) (.fld 3 (.list 1 (.num .i64)) (.fld 4 (.list 1 (.num .i64)) .nil))))) (.fld 5 (.num .i64) .nil)) cs 0 ns ss D) (hD : ∀ j ∈ D, j < H.next) (l1 : ns.length ≤ 10000000) (l2 : ss.length ≤ 10000000) (bc : Nat) (hbc : H.row bc = some ⟨48, true, true, calls.map fun f => Value.func (.func f) #[] #[]⟩) (hbl : bc < H.next) :
    WF E0 9 [.agg cs.toArray, .func (.func own) #[] #[], .func (.func see) #[] #[], .slice (some ⟨bc, 0, none⟩) calls.length calls.length] H fun q => q.1 = .bool true := by
  refine WF.k Tryz.func9 rfl rfl ?_
  refine KC.seq (KC.region ?_)
  refine KO.box (rfl) ((boxAgg hone)) rfl rfl fun G0 u0 => ?_
  refine KO.pv (PV.assign rfl) rfl rfl ?_
  refine KO.nil ?_
  rw [show cellsV (.agg cs.toArray) = cs by simp [cellsV]] at u0
  have hX : G0.row H.next = some ⟨28, true, true, cs⟩ := by rw [u0.row, if_pos rfl]
  refine KC.seq (KC.region ?_)
  refine KO.alloc zt136_APrefix rfl rfl fun G1 u1 => ?_
  refine KO.nil ?_
  have hn0 := u0.next
  have hX1 : G1.row H.next = some ⟨28, true, true, cs⟩ := by rw [u1.row, if_neg (by omega)]; exact hX
  have he1 : G1.row (H.next + 1) = some ⟨136, true, true, [.slice none 0 0, .slice none 0 0, .bool false, .int .i64 0, .bool false]⟩ := by rw [u1.row, if_pos hn0.symm]
  have hn1 : G1.next = H.next + 2 := by rw [u1.next, hn0]
  have hk1 : ∀ j, j < H.next → G1.row j = H.row j := fun j hj => by rw [u1.row, if_neg (by omega), u0.row, if_neg (by omega)]
  rw [hn0]
  refine KC.seq (KC.region ?_)
  refine KO.pv (PV.move rfl) rfl rfl ?_
  refine KO.callV (rfl) (hs) rfl rfl rfl ((hsee.reads (room := ⟨false, w.1, w.2⟩) he1 (by omega) hX1 (fun _ => .inl rfl) hwS (hR.frame fun j hj => hk1 j (hD j hj)) (by omega) (fun j hj => by have := hD j hj; omega) (by omega) (fun hj => by have := hD _ hj; omega) (by omega) (by omega))) fun v2 G2 q2 => ?_
  refine KO.nil ?_
  obtain ⟨hE2, hn2, hk2⟩ := q2
  dsimp only at hE2 hn2 hk2
  obtain ⟨c2, nv, sv, mk2, a2, rm2, Fn2, Fs2, t1, t2, t3, t4, t5, t6⟩ := hE2.load
  refine KC.seq (KC.seq (KC.region ?_))
  refine KO.loadN ag136_APrefix sz136_APrefix rfl (t1) (t2) rfl rfl ?_
  refine KO.call rfl rfl rfl rfl ((eye_great 9 G2 ns ss nv sv mk2 rm2 a2 Fn2 Fs2 t3 t4 (fun j hj => (t6 j hj).2) (by omega))) fun v3 G3 q3 => ?_
  refine KO.nil ?_
  obtain ⟨⟨gb, hgb, hgr⟩, hn3, hk3⟩ := q3
  dsimp only at hgb hn3 hk3
  subst hgb
  refine KC.cond rfl (fun hb => ?_) (fun hb => KC.skip ?_)
  · refine KC.seq (KC.region ?_)
    refine KO.pv (PV.assign rfl) rfl rfl ?_
    refine KO.nil ?_
    exact KC.ret ⟨rfl, _, rfl, rfl⟩
  have l3 : ns.length ≤ 3000 := hgr hb
  have hkeep : ∀ j, j < H.next + 1 → G3.row j = G1.row j := fun j hj => (hk3 j (by omega)).trans (hk2 j (by omega) (by omega))
  refine KC.seq (KC.seq (KC.region ?_))
  refine KO.pv (PV.assign rfl) rfl rfl ?_
  refine KO.nil ?_
  refine KC.sub (l' := [(1, .func (.func own) #[] #[]), (2, .func (.func see) #[] #[]), (3, .slice (some ⟨bc, 0, none⟩) calls.length calls.length), (4, .pointer (some ⟨H.next, 0, none⟩)), (10, .int .i64 ((0 : Nat) : Int))]) (.cons rfl (.cons rfl (.cons rfl (.cons rfl (.cons rfl .nil))))) ?_
  refine KC.block (KC.loopN (fun k l A => ∃ i : Nat, i + k = calls.length ∧ l = [(1, .func (.func own) #[] #[]), (2, .func (.func see) #[] #[]), (3, .slice (some ⟨bc, 0, none⟩) calls.length calls.length), (4, .pointer (some ⟨H.next, 0, none⟩)), (10, .int .i64 (i : Int))] ∧ H.next + 2 ≤ A.next ∧ ∀ j, j < H.next + 1 → A.row j = G1.row j) ?_ calls.length ⟨0, by omega, rfl, by omega, hkeep⟩)
  rintro k l A ⟨i, hik, rfl, hnA, hkA⟩
  clear hkeep hk3 hk2 hE2 t1 t2 t3 t4 t5 t6
  refine KC.seq (KC.seq (KC.region ?_))
  refine KO.pv (PV.move rfl) rfl rfl ?_
  refine KO.pv (PV.move rfl) rfl rfl ?_
  refine KO.pv (PV.len un49_APrefix rfl) rfl rfl ?_
  refine KO.pv (PV.lss rfl rfl) rfl rfl ?_
  refine KO.nil ?_
  refine KC.cond rfl (fun hb => KC.skip ?_) (fun hb => KC.exit ?_)
  rotate_left
  · refine KC.seq (KC.region ?_)
    refine KO.pv (PV.assign rfl) rfl rfl ?_
    refine KO.nil ?_
    exact KC.ret ⟨rfl, _, rfl, rfl⟩
  have hi : i < calls.length := by simpa using hb
  have hXA : A.row H.next = some ⟨28, true, true, cs⟩ := (hkA _ (by omega)).trans hX1
  have hRA : Rd A ⟨false, w.1, w.2⟩ (.fld 0 (.fld 0 (.num .i64) (.fld 1 (.list 2 (.fld 0 (.num .i64) (.fld 1 (.num .i64) .nil))) (.fld 2 (.list 2 (.fld 0 (.num .i64) (.fld 1 (.num .i64) .nil))) (.fld 3 (.list 1 (.num .i64)) (.fld 4 (.list 1 (.num .i64)) .nil))))) (.fld 5 (.num .i64) .nil)) cs 0 ns ss D := hR.frame fun j hj => (hkA j (by have := hD j hj; omega)).trans (hk1 j (hD j hj))
  have hbA : A.row bc = some ⟨48, true, true, calls.map fun f => Value.func (.func f) #[] #[]⟩ := ((hkA bc (by omega)).trans (hk1 bc hbl)).trans hbc
  refine KC.seq (KC.block (KC.seq (KC.region ?_)))
  refine KO.pv (PV.move rfl) rfl rfl ?_
  refine KO.loadN ag28_APrefix sz28_APrefix rfl (hXA) ((takeN_of (p := cs) (by rw [List.drop_zero, ← hcl, List.take_length]) hcl)) rfl rfl ?_
  refine KO.callV (rfl) (ho) rfl rfl rfl ((hown w A cs ns ss D hcl hone hRA (fun j hj => by have := hD j hj; omega) l1 l2)) fun w1 A1 q1 => ?_
  obtain ⟨cs1, hw1, hcl1, hone1, o1⟩ := q1
  dsimp only at hw1 o1
  subst hw1
  refine KO.alloc zt28_APrefix rfl rfl fun A2 u2 => ?_
  have hY0 : A2.row A1.next = some ⟨28, true, true, [.int .i64 0, .slice none 0 0, .slice none 0 0, .slice none 0 0, .slice none 0 0, .int .i64 0]⟩ := by rw [u2.row, if_pos rfl]
  refine KO.store rfl rfl sz28_APrefix ((goodAgg hcl1 hone1)) (hY0) (rfl) ((by rw [hcl1]; exact Nat.le_refl _)) rfl fun B u3 => ?_
  refine KO.nil ?_
  obtain ⟨oA1, oA2, nsY, ssY, DY, hRY, hnd, hDY, hbY1, hbY2⟩ := o1
  have hnB : B.next = A1.next + 1 := by rw [u3.next, u2.next]
  have hkB : ∀ j, j < A1.next → B.row j = A1.row j := fun j hj => by rw [u3.row, if_neg (by omega), u2.row, if_neg (by omega)]
  have hput : putL [.int .i64 0, .slice none 0 0, .slice none 0 0, .slice none 0 0, .slice none 0 0, .int .i64 0] 0 cs1 = cs1 := by simp [putL, hcl1]
  have hyB : Own B ⟨true, true, false⟩ (.fld 0 (.fld 0 (.num .i64) (.fld 1 (.list 2 (.fld 0 (.num .i64) (.fld 1 (.num .i64) .nil))) (.fld 2 (.list 2 (.fld 0 (.num .i64) (.fld 1 (.num .i64) .nil))) (.fld 3 (.list 1 (.num .i64)) (.fld 4 (.list 1 (.num .i64)) .nil))))) (.fld 5 (.num .i64) .nil)) A1.next nsY ssY DY := ⟨⟨⟨28, true, true, cs1⟩, by rw [u3.row, if_pos rfl]; simp only [hput], rfl, hRY.frame fun j hj => hkB j (hDY j hj).2⟩, hnd, fun hj => by have := hDY _ hj; omega, by omega, fun j hj => by have := hDY j hj; omega⟩
  have hzB : ∀ j, j < A.next → B.row j = A.row j := fun j hj => (hkB j (by omega)).trans (oA2 j hj)
  clear u2 u3 hY0 hXA hRA hRY hput hkB hone1 hcl1
  generalize A1.next = y at *
  refine KC.seq (KC.region ?_)
  refine KO.pv (PV.build rfl (bld_room)) rfl rfl ?_
  refine KO.pv (PV.build rfl (bld_room)) rfl rfl ?_
  refine KO.pv (PV.build rfl (bld_room)) rfl rfl ?_
  refine KO.pv (PV.build rfl (bld_room)) rfl rfl ?_
  refine KO.alloc zt136_APrefix rfl rfl fun C1 c1 => ?_
  refine KO.alloc zt136_APrefix rfl rfl fun C2 c2 => ?_
  refine KO.alloc zt136_APrefix rfl rfl fun C3 c3 => ?_
  refine KO.alloc zt136_APrefix rfl rfl fun C4 c4 => ?_
  have d1 := c1.next
  have d2 : C2.next = B.next + 2 := by rw [c2.next, d1]
  have d3 : C3.next = B.next + 3 := by rw [c3.next, d2]
  have d4 : C4.next = B.next + 4 := by rw [c4.next, d3]
  rw [d1, d2, d3]
  have hr1 : C4.row B.next = some ⟨136, true, true, [.slice none 0 0, .slice none 0 0, .bool false, .int .i64 0, .bool false]⟩ := by rw [c4.row, if_neg (by omega), c3.row, if_neg (by omega), c2.row, if_neg (by omega), c1.row, if_pos rfl]
  refine KO.store rfl rfl sz136_APrefix (rfl) (hr1) (rfl) ((Nat.le_refl _)) rfl fun S1 s1 => ?_
  have hr2 : S1.row (B.next + 1) = some ⟨136, true, true, [.slice none 0 0, .slice none 0 0, .bool false, .int .i64 0, .bool false]⟩ := by rw [s1.row, if_neg (by omega), c4.row, if_neg (by omega), c3.row, if_neg (by omega), c2.row, if_pos d1.symm]
  refine KO.store rfl rfl sz136_APrefix (rfl) (hr2) (rfl) ((Nat.le_refl _)) rfl fun S2 s2 => ?_
  have hr3 : S2.row (B.next + 2) = some ⟨136, true, true, [.slice none 0 0, .slice none 0 0, .bool false, .int .i64 0, .bool false]⟩ := by rw [s2.row, if_neg (by omega), s1.row, if_neg (by omega), c4.row, if_neg (by omega), c3.row, if_pos d2.symm]
  refine KO.store rfl rfl sz136_APrefix (rfl) (hr3) (rfl) ((Nat.le_refl _)) rfl fun S3 s3 => ?_
  have hr4 : S3.row (B.next + 3) = some ⟨136, true, true, [.slice none 0 0, .slice none 0 0, .bool false, .int .i64 0, .bool false]⟩ := by rw [s3.row, if_neg (by omega), s2.row, if_neg (by omega), s1.row, if_neg (by omega), c4.row, if_pos d3.symm]
  refine KO.store rfl rfl sz136_APrefix (rfl) (hr4) (rfl) ((Nat.le_refl _)) rfl fun C s4 => ?_
  refine KO.nil ?_
  have hnC : C.next = B.next + 4 := by rw [s4.next, s3.next, s2.next, s1.next, d4]
  have hkC : ∀ j, j < B.next → C.row j = B.row j := fun j hj => by rw [s4.row, if_neg (by omega), s3.row, if_neg (by omega), s2.row, if_neg (by omega), s1.row, if_neg (by omega), c4.row, if_neg (by omega), c3.row, if_neg (by omega), c2.row, if_neg (by omega), c1.row, if_neg (by omega)]
  have hE0 : C.row B.next = some ⟨136, true, true, [.slice none 0 0, .slice none 0 0, .bool false, .int .i64 0, .bool true]⟩ := by rw [s4.row, if_neg (by omega), s3.row, if_neg (by omega), s2.row, if_neg (by omega), s1.row, if_pos rfl]; rfl
  have hE1 : C.row (B.next + 1) = some ⟨136, true, true, [.slice none 0 0, .slice none 0 0, .bool false, .int .i64 0, .bool true]⟩ := by rw [s4.row, if_neg (by omega), s3.row, if_neg (by omega), s2.row, if_pos rfl]; rfl
  have hE2 : C.row (B.next + 2) = some ⟨136, true, true, [.slice none 0 0, .slice none 0 0, .bool false, .int .i64 0, .bool true]⟩ := by rw [s4.row, if_neg (by omega), s3.row, if_pos rfl]; rfl
  have hE3 : C.row (B.next + 3) = some ⟨136, true, true, [.slice none 0 0, .slice none 0 0, .bool false, .int .i64 0, .bool true]⟩ := by rw [s4.row, if_pos rfl]; rfl
  have hyC : Own C ⟨true, true, false⟩ (.fld 0 (.fld 0 (.num .i64) (.fld 1 (.list 2 (.fld 0 (.num .i64) (.fld 1 (.num .i64) .nil))) (.fld 2 (.list 2 (.fld 0 (.num .i64) (.fld 1 (.num .i64) .nil))) (.fld 3 (.list 1 (.num .i64)) (.fld 4 (.list 1 (.num .i64)) .nil))))) (.fld 5 (.num .i64) .nil)) y nsY ssY DY := hyB.frame (by omega) (fun j hj => hkC j (by rcases hj with rfl | hj; exact hyB.lb; exact hyB.lD j hj))
  have hzC : ∀ j, j < A.next → C.row j = A.row j := fun j hj => (hkC j (by omega)).trans (hzB j hj)
  clear c1 c2 c3 c4 s1 s2 s3 s4 hr1 hr2 hr3 hr4 d1 d2 d3 d4 hkC hyB hzB
  have hyb : y < B.next := by omega
  generalize B.next = e at *
  refine KC.seq (KC.region ?_)
  refine KO.pv (PV.move rfl) rfl rfl ?_
  refine KO.callV (rfl) (hs) rfl rfl rfl ((hsee.readsO hE0 (by omega) rfl hyC (by omega) (fun hj => by have := hDY _ hj; omega) (by omega) (by omega))) fun v10 D1 q10 => ?_
  refine KO.nil ?_
  obtain ⟨hW0, hn10, hk10⟩ := q10
  dsimp only at hW0 hn10 hk10
  have hy1 : Own D1 ⟨true, true, false⟩ (.fld 0 (.fld 0 (.num .i64) (.fld 1 (.list 2 (.fld 0 (.num .i64) (.fld 1 (.num .i64) .nil))) (.fld 2 (.list 2 (.fld 0 (.num .i64) (.fld 1 (.num .i64) .nil))) (.fld 3 (.list 1 (.num .i64)) (.fld 4 (.list 1 (.num .i64)) .nil))))) (.fld 5 (.num .i64) .nil)) y nsY ssY DY := hyC.frame hn10 (fun j hj => hk10 j (by rcases hj with rfl | hj; exact hyC.lb; exact hyC.lD j hj) (by rcases hj with rfl | hj; omega; have := hDY j hj; omega))
  have hz1 : ∀ j, j < A.next → D1.row j = A.row j := fun j hj => (hk10 j (by omega) (by omega)).trans (hzC j hj)
  obtain ⟨hcall, hcx⟩ := hcalls _ (List.getElem_mem hi)
  have hfi : (calls.map fun f => Value.func (.func f) #[] #[])[0 + i * 1]? = some (.func (.func calls[i]) #[] #[]) := by rw [Nat.mul_one, Nat.zero_add, List.getElem?_map, List.getElem?_eq_getElem hi]; rfl
  refine KC.seq (KC.region ?_)
  refine KO.pv (PV.move rfl) rfl rfl ?_
  refine KO.pv (PV.move rfl) rfl rfl ?_
  refine KO.pv (PV.indexAddr un49_APrefix sz48_APrefix rfl rfl (hi)) rfl rfl ?_
  refine KO.load1 ag48_APrefix rfl (((hz1 bc (by omega)).trans hbA)) (hfi) rfl rfl ?_
  refine KO.callV (rfl) (hcx) rfl rfl rfl ((hcall D1 y nsY ssY DY hy1 (by omega) (by omega))) fun v11 D2 q11 => ?_
  refine KO.pv (PV.assign rfl) rfl rfl ?_
  refine KO.nil ?_
  obtain ⟨L, hV, hA, hn11, hk11⟩ := q11
  dsimp only at hV hA hn11 hk11
  have hlv : ∃ a, v11 = .slice a L.length L.length ∧ (0 < L.length → ∃ b, a = some ⟨b, 0, none⟩) := by
    rcases hV with ⟨rfl, rfl⟩ | ⟨b, rfl, -⟩
    · exact ⟨none, rfl, fun h => absurd h (Nat.lt_irrefl _)⟩
    · exact ⟨_, rfl, fun _ => ⟨b, rfl⟩⟩
  obtain ⟨aL, rfl, haL⟩ := hlv
  have fewL := hA.few
  have hy2 : Own D2 ⟨true, true, false⟩ (.fld 0 (.fld 0 (.num .i64) (.fld 1 (.list 2 (.fld 0 (.num .i64) (.fld 1 (.num .i64) .nil))) (.fld 2 (.list 2 (.fld 0 (.num .i64) (.fld 1 (.num .i64) .nil))) (.fld 3 (.list 1 (.num .i64)) (.fld 4 (.list 1 (.num .i64)) .nil))))) (.fld 5 (.num .i64) .nil)) y nsY ssY DY := hy1.frame hn11 (fun j hj => hk11 j (by rcases hj with rfl | hj; exact hy1.lb; exact hy1.lD j hj))
  have hz2 : ∀ j, j < A.next → D2.row j = A.row j := fun j hj => (hk11 j (by omega)).trans (hz1 j hj)
  have hW0' : EyeAt 3 9 136 D2 e C.next D1.next nsY ssY := hW0.frame (hk11 e (by omega)) (fun j _ j2 => hk11 j j2)
  refine KC.seq (KC.region ?_)
  refine KO.pv (PV.move rfl) rfl rfl ?_
  refine KO.callV (rfl) (hs) rfl rfl rfl ((hsee.readsO (((hk11 _ (by omega)).trans (hk10 _ (by omega) (by omega))).trans hE1) (by omega) rfl hy2 (by omega) (fun hj => by have := hDY _ hj; omega) (by omega) (by omega))) fun v12 D3 q12 => ?_
  refine KO.nil ?_
  obtain ⟨hW1, hn12, hk12⟩ := q12
  dsimp only at hW1 hn12 hk12
  have hy3 : Own D3 ⟨true, true, false⟩ (.fld 0 (.fld 0 (.num .i64) (.fld 1 (.list 2 (.fld 0 (.num .i64) (.fld 1 (.num .i64) .nil))) (.fld 2 (.list 2 (.fld 0 (.num .i64) (.fld 1 (.num .i64) .nil))) (.fld 3 (.list 1 (.num .i64)) (.fld 4 (.list 1 (.num .i64)) .nil))))) (.fld 5 (.num .i64) .nil)) y nsY ssY DY := hy2.frame hn12 (fun j hj => hk12 j (by rcases hj with rfl | hj; exact hy2.lb; exact hy2.lD j hj) (by rcases hj with rfl | hj; omega; have := hDY j hj; omega))
  have hz3 : ∀ j, j < A.next → D3.row j = A.row j := fun j hj => (hk12 j (by omega) (by omega)).trans (hz2 j hj)
  have hV3 := hV.frame (H' := D3) (fun j j1 j2 _ => hk12 j (by omega) (by omega))
  have hA3 := hA.frame (H' := D3) hn12 (fun j j1 j2 => hk12 j (by omega) (by omega))
  refine KC.seq (KC.region ?_)
  refine KO.pv (PV.move rfl) rfl rfl ?_
  refine KO.call rfl rfl rfl rfl ((look_ok 9 D3 _ L D1.next D2.next hV3 hA3 (by omega))) fun v13 D4 q13 => ?_
  refine KO.pv (PV.assign rfl) rfl rfl ?_
  refine KO.nil ?_
  obtain ⟨b1, hT1, hn13, hk13⟩ := q13
  dsimp only at hT1 hn13 hk13
  have hy4 : Own D4 ⟨true, true, false⟩ (.fld 0 (.fld 0 (.num .i64) (.fld 1 (.list 2 (.fld 0 (.num .i64) (.fld 1 (.num .i64) .nil))) (.fld 2 (.list 2 (.fld 0 (.num .i64) (.fld 1 (.num .i64) .nil))) (.fld 3 (.list 1 (.num .i64)) (.fld 4 (.list 1 (.num .i64)) .nil))))) (.fld 5 (.num .i64) .nil)) y nsY ssY DY := hy3.frame hn13 (fun j hj => hk13 j (by rcases hj with rfl | hj; exact hy3.lb; exact hy3.lD j hj))
  refine KC.seq (KC.region ?_)
  refine KO.pv (PV.move rfl) rfl rfl ?_
  refine KO.pv (PV.build rfl (bld_mark)) rfl rfl ?_
  refine KO.box (rfl) ((by rfl)) rfl rfl fun D5 u14 => ?_
  have hB5 : D5.row D4.next = some ⟨136, true, true, [.slice none 0 0, .slice none 0 0, .bool true, .int .i64 0, .bool true]⟩ := by rw [u14.row, if_pos rfl]; rfl
  have hy5 : Own D5 ⟨true, true, false⟩ (.fld 0 (.fld 0 (.num .i64) (.fld 1 (.list 2 (.fld 0 (.num .i64) (.fld 1 (.num .i64) .nil))) (.fld 2 (.list 2 (.fld 0 (.num .i64) (.fld 1 (.num .i64) .nil))) (.fld 3 (.list 1 (.num .i64)) (.fld 4 (.list 1 (.num .i64)) .nil))))) (.fld 5 (.num .i64) .nil)) y nsY ssY DY := hy4.frame (by rw [u14.next]; omega) (fun j hj => by rw [u14.row, if_neg]; rcases hj with rfl | hj; have := hy4.lb; omega; have := hy4.lD j hj; omega)
  refine KO.callV (rfl) (hs) rfl rfl rfl ((hsee.marksO hB5 (by rw [u14.next]; omega) rfl rfl hy5 (by have := hy4.lb; omega) (fun hj => by have := hy4.lD _ hj; omega) (by omega) (by omega))) fun v14 D6 q14 => ?_
  refine KO.nil ?_
  obtain ⟨nsM, ssM, hy6, hlM1, hlM2, hn14, hk14⟩ := q14
  dsimp only at hy6 hn14 hk14
  rw [u14.next] at hn14
  have hk6 : ∀ j, j < D4.next → j ≠ y → j ∉ DY → D6.row j = D4.row j := fun j j1 j2 j3 => (hk14 j (by rw [u14.next]; omega) (by omega) j2 j3).trans (by rw [u14.row, if_neg (by omega)])
  have hk36 : ∀ j, j < D3.next → j ≠ y → j ∉ DY → D6.row j = D3.row j := fun j j1 j2 j3 => (hk6 j (by omega) j2 j3).trans (hk13 j j1)
  have hnotY : ∀ j, e ≤ j → j ≠ y ∧ j ∉ DY := fun j hj => ⟨by omega, fun h => by have := hDY j h; omega⟩
  have hz6 : ∀ j, j < A.next → D6.row j = A.row j := fun j hj => (hk36 j (by omega) (by omega) (fun h => by have := hDY j h; omega)).trans (hz3 j hj)
  have hW06 : EyeAt 3 9 136 D6 e C.next D1.next nsY ssY := hW0'.frame ((hk36 e (by omega) (hnotY e (by omega)).1 (hnotY e (by omega)).2).trans (hk12 e (by omega) (by omega))) (fun j j1 j2 => (hk36 j (by omega) (hnotY j (by omega)).1 (hnotY j (by omega)).2).trans (hk12 j (by omega) (by omega)))
  have hW16 : EyeAt 3 9 136 D6 (e + 1) D2.next D3.next nsY ssY := hW1.frame (hk36 _ (by omega) (hnotY _ (by omega)).1 (hnotY _ (by omega)).2) (fun j j1 j2 => hk36 j (by omega) (hnotY j (by omega)).1 (hnotY j (by omega)).2)
  have hV6 := hV3.frame (H' := D6) (fun j j1 j2 _ => hk36 j (by omega) (hnotY j (by omega)).1 (hnotY j (by omega)).2)
  have hA6 := hA3.frame (H' := D6) (by omega) (fun j j1 j2 => hk36 j (by omega) (hnotY j (by omega)).1 (hnotY j (by omega)).2)
  have hT16 := hT1.frame (H' := D6) (by omega) (fun j j1 j2 => hk6 j j2 (hnotY j (by omega)).1 (hnotY j (by omega)).2)
  have hE26 : D6.row (e + 2) = some ⟨136, true, true, [.slice none 0 0, .slice none 0 0, .bool false, .int .i64 0, .bool true]⟩ := ((((hk36 _ (by omega) (hnotY _ (by omega)).1 (hnotY _ (by omega)).2).trans (hk12 _ (by omega) (by omega))).trans (hk11 _ (by omega))).trans (hk10 _ (by omega) (by omega))).trans hE2
  have hE36 : D6.row (e + 3) = some ⟨136, true, true, [.slice none 0 0, .slice none 0 0, .bool false, .int .i64 0, .bool true]⟩ := ((((hk36 _ (by omega) (hnotY _ (by omega)).1 (hnotY _ (by omega)).2).trans (hk12 _ (by omega) (by omega))).trans (hk11 _ (by omega))).trans (hk10 _ (by omega) (by omega))).trans hE3
  obtain ⟨cw, nv0, sv0, mk0, a0, rm0, Fn0, Fs0, x1, x2, x3, x4, x5, x6⟩ := hW06.load
  obtain ⟨cw', nv1, sv1, mk1, a1, rm1, Fn1, Fs1, y1, y2, y3, y4, y5, y6⟩ := hW16.load
  clear hW0 hW0' hW1 hV hV3 hA hA3 hT1 hy1 hy2 hy3 hy4 hk6 hk10 hk11 hk12 hk13 hk14 hk36 hz1 hz2 hz3 hzC hyC hE0 hE1 hE2 hE3 hy5 hB5
  refine KC.seq (KC.seq (KC.region ?_))
  refine KO.loadN ag136_APrefix sz136_APrefix rfl (x1) (x2) rfl rfl ?_
  refine KO.loadN ag136_APrefix sz136_APrefix rfl (y1) (y2) rfl rfl ?_
  refine KO.call rfl rfl rfl rfl ((eye_same 9 D6 nsY ssY nv0 sv0 nv1 sv1 mk0 mk1 rm0 rm1 a0 a1 Fn0 Fs0 Fn1 Fs1 x3 x4 y3 y4 (fun j hj => by have := x5 j hj; omega) (fun j hj => by have := x6 j hj; omega) (fun j hj => by have := y5 j hj; omega) (fun j hj => by have := y6 j hj; omega) (by omega) (by omega))) fun v15 D7 q15 => ?_
  obtain ⟨hv15, hn15, hk15⟩ := q15
  dsimp only at hv15 hn15 hk15
  subst hv15
  refine KO.pv (PV.not rfl) rfl rfl ?_
  simp only [Bool.not_true]
  refine KO.pv (PV.move rfl) rfl rfl ?_
  refine KO.pv (PV.move rfl) rfl rfl ?_
  refine KO.pv (PV.move rfl) rfl rfl ?_
  refine KO.call rfl rfl rfl rfl ((look_ok 9 D7 _ L D1.next D2.next (hV6.frame fun j j1 j2 _ => hk15 j (by omega)) (hA6.frame hn15 fun j j1 j2 => hk15 j (by omega)) (by omega))) fun v16 D8 q16 => ?_
  obtain ⟨b2, hT2, hn16, hk16⟩ := q16
  dsimp only at hT2 hn16 hk16
  refine KO.call rfl rfl rfl rfl ((alike_ok 9 D8 L L v13 v16 b1 b2 _ _ (-1) (hT16.frame (by omega) fun j j1 j2 => (hk16 j (by omega)).trans (hk15 j j2)) hT2 rfl fewL (fun _ r q _ h1 h2 => by rw [h1] at h2; cases h2; exact ⟨rfl, rfl⟩) (fun r hr => ⟨(hA6.one r hr).l1, (hA6.one r hr).l2⟩))) fun v17 D9 q17 => ?_
  obtain ⟨hv17, hn17, hk17⟩ := q17
  dsimp only at hv17 hn17 hk17
  subst hv17
  refine KO.pv (PV.not rfl) rfl rfl ?_
  simp only [Bool.not_true]
  refine KO.pv (PV.pickF rfl rfl rfl) rfl rfl ?_
  refine KO.nil ?_
  refine KC.cond rfl (fun hb => by cases hb) (fun _ => KC.skip ?_)
  have hk9 : ∀ j, j < D6.next → D9.row j = D6.row j := fun j hj => ((hk17 j (by omega)).trans (hk16 j (by omega))).trans (hk15 j hj)
  have hy9 : Own D9 ⟨true, true, false⟩ (.fld 0 (.fld 0 (.num .i64) (.fld 1 (.list 2 (.fld 0 (.num .i64) (.fld 1 (.num .i64) .nil))) (.fld 2 (.list 2 (.fld 0 (.num .i64) (.fld 1 (.num .i64) .nil))) (.fld 3 (.list 1 (.num .i64)) (.fld 4 (.list 1 (.num .i64)) .nil))))) (.fld 5 (.num .i64) .nil)) y nsM ssM DY := hy6.frame (by omega) (fun j hj => hk9 j (by rcases hj with rfl | hj; exact hy6.lb; exact hy6.lD j hj))
  have hz9 : ∀ j, j < A.next → D9.row j = A.row j := fun j hj => (hk9 j (by omega)).trans (hz6 j hj)
  have hV9 := hV6.frame (H' := D9) (fun j j1 j2 _ => hk9 j (by omega))
  have hA9 := hA6.frame (H' := D9) (by omega) (fun j j1 j2 => hk9 j (by omega))
  refine KC.seq (KC.region ?_)
  refine KO.pv (PV.move rfl) rfl rfl ?_
  refine KO.callV (rfl) (hs) rfl rfl rfl ((hsee.readsO ((hk9 _ (by omega)).trans hE26) (by omega) rfl hy9 (by omega) (fun hj => by have := hDY _ hj; omega) (by omega) (by omega))) fun v18 D10 q18 => ?_
  refine KO.nil ?_
  obtain ⟨hW2, hn18, hk18⟩ := q18
  dsimp only at hW2 hn18 hk18
  have hyA : Own D10 ⟨true, true, false⟩ (.fld 0 (.fld 0 (.num .i64) (.fld 1 (.list 2 (.fld 0 (.num .i64) (.fld 1 (.num .i64) .nil))) (.fld 2 (.list 2 (.fld 0 (.num .i64) (.fld 1 (.num .i64) .nil))) (.fld 3 (.list 1 (.num .i64)) (.fld 4 (.list 1 (.num .i64)) .nil))))) (.fld 5 (.num .i64) .nil)) y nsM ssM DY := hy9.frame hn18 (fun j hj => hk18 j (by rcases hj with rfl | hj; exact hy9.lb; exact hy9.lD j hj) (by rcases hj with rfl | hj; omega; have := hDY j hj; omega))
  have hzA : ∀ j, j < A.next → D10.row j = A.row j := fun j hj => (hk18 j (by omega) (by omega)).trans (hz9 j hj)
  have hVA := hV9.frame (H' := D10) (fun j j1 j2 _ => hk18 j (by omega) (by omega))
  have hAA := hA9.frame (H' := D10) hn18 (fun j j1 j2 => hk18 j (by omega) (by omega))
  have hE3A : D10.row (e + 3) = some ⟨136, true, true, [.slice none 0 0, .slice none 0 0, .bool false, .int .i64 0, .bool true]⟩ := ((hk18 _ (by omega) (by omega)).trans (hk9 _ (by omega))).trans hE36
  have hD10 : D2.next ≤ D9.next := by omega
  clear hk9 hy9 hz9 hV9 hA9 hk18 hE26 hE36 hk15 hk16 hk17 hy6 hz6 hV6 hA6 hT16 hT2 hW06 hW16 x1 x2 x3 x4 x5 x6 y1 y2 y3 y4 y5 y6
  refine KC.seq (KC.seq (KC.region ?_))
  refine KO.pv (PV.assign rfl) rfl rfl ?_
  refine KO.nil ?_
  refine KC.sub (l' := [(1, .func (.func own) #[] #[]), (2, .func (.func see) #[] #[]), (3, .slice (some ⟨bc, 0, none⟩) calls.length calls.length), (4, .pointer (some ⟨H.next, 0, none⟩)), (10, .int .i64 (i : Int)), (11, .pointer (some ⟨y, 0, none⟩)), (14, .pointer (some ⟨e + 2, 0, none⟩)), (15, .pointer (some ⟨e + 3, 0, none⟩)), (16, .slice aL L.length L.length), (18, .int .i64 ((0 : Nat) : Int))]) (.cons rfl (.cons rfl (.cons rfl (.cons rfl (.cons rfl (.cons rfl (.cons rfl (.cons rfl (.cons rfl (.cons rfl .nil)))))))))) ?_
  refine KC.block (KC.loopN (fun m l Z => ∃ n : Nat, n + m = L.length ∧ l = [(1, .func (.func own) #[] #[]), (2, .func (.func see) #[] #[]), (3, .slice (some ⟨bc, 0, none⟩) calls.length calls.length), (4, .pointer (some ⟨H.next, 0, none⟩)), (10, .int .i64 (i : Int)), (11, .pointer (some ⟨y, 0, none⟩)), (14, .pointer (some ⟨e + 2, 0, none⟩)), (15, .pointer (some ⟨e + 3, 0, none⟩)), (16, .slice aL L.length L.length), (18, .int .i64 (n : Int))] ∧
    ∃ M : List R1, M.length = L.length ∧ ResV Z 47 (.slice aL L.length L.length) M D1.next D2.next ∧ ResAll E0 3 9 Z D1.next D2.next M ∧ D10.next ≤ Z.next ∧ ∀ j, j < D10.next → ¬ (D1.next ≤ j ∧ j < D2.next) → Z.row j = D10.row j) ?_ L.length ⟨0, by omega, rfl, L, rfl, hVA, hAA, Nat.le_refl _, fun _ _ _ => rfl⟩)
  rintro m l Z ⟨n, hnm, rfl, M, hML, hVZ, hAZ, hnZ, hkZ⟩
  refine KC.seq (KC.seq (KC.region ?_))
  refine KO.pv (PV.move rfl) rfl rfl ?_
  refine KO.pv (PV.move rfl) rfl rfl ?_
  refine KO.pv (PV.len un33_APrefix rfl) rfl rfl ?_
  refine KO.pv (PV.lss rfl rfl) rfl rfl ?_
  refine KO.nil ?_
  refine KC.cond rfl (fun hb => KC.skip ?_) (fun hb => KC.exit ?_)
  · have hn : n < L.length := by simpa using hb
    obtain ⟨bL, rfl⟩ := haL (by omega)
    have hnM : n < M.length := by omega
    have hMn : M[n]? = some M[n] := List.getElem?_eq_getElem hnM
    refine KC.seq (KC.block (KC.seq (KC.region ?_)))
    refine KO.pv (PV.move rfl) rfl rfl ?_
    refine KO.call rfl rfl rfl rfl ((look_ok 9 Z _ M D1.next D2.next hVZ hAZ (by omega))) fun v21 Z1 q21 => ?_
    refine KO.pv (PV.assign rfl) rfl rfl ?_
    refine KO.nil ?_
    obtain ⟨b3, hT3, hn21, hk21⟩ := q21
    dsimp only at hT3 hn21 hk21
    obtain ⟨f, s, ba, D', hfv, hfx, hfs, hown', hDe⟩ := (hAZ.one _ (List.mem_of_getElem? hMn)).ex
    have hrl1 := (hAZ.one _ (List.mem_of_getElem? hMn)).l1
    have hrl2 := (hAZ.one _ (List.mem_of_getElem? hMn)).l2
    have hbD : ∀ j, j = ba ∨ j ∈ D' → D1.next ≤ j ∧ j < D2.next := fun j hj => hAZ.rng _ (List.mem_of_getElem? hMn) j (by rw [hDe]; rcases hj with rfl | hj; exact List.mem_cons_self; exact List.mem_cons_of_mem _ hj)
    have hrL : ∃ b, bL = b ∧ Z.row bL = some ⟨47, true, true, M.map (·.v)⟩ ∧ bL < D2.next := by
      rcases hVZ with ⟨h, -⟩ | ⟨b, h1, h2, h3, h4, h5⟩
      · cases h
      · obtain ⟨h1, -, -⟩ := Value.slice.inj h1
        cases h1
        exact ⟨_, rfl, h2, h4⟩
    obtain ⟨-, -, hrL1, hrL2⟩ := hrL
    have hcM : (M.map (·.v))[0 + n * 1]? = some (.func (.func f) #[] #[.pointer (some ⟨ba, 0, none⟩)]) := by rw [Nat.mul_one, Nat.zero_add, List.getElem?_map, hMn]; exact congrArg some hfv
    refine KC.seq (KC.region ?_)
    refine KO.pv (PV.move rfl) rfl rfl ?_
    refine KO.pv (PV.move rfl) rfl rfl ?_
    refine KO.pv (PV.indexAddr un33_APrefix sz47_APrefix rfl rfl (hn)) rfl rfl ?_
    refine KO.load1 ag47_APrefix rfl (((hk21 bL (by omega)).trans hrL1)) (hcM) rfl rfl ?_
    refine KO.pv (PV.move rfl) rfl rfl ?_
    refine KO.pv (PV.add rfl rfl (rfl)) rfl rfl ?_
    refine KO.pv (PV.mul rfl rfl (rfl)) rfl rfl ?_
    refine KO.pv (PV.build rfl ((bld_at _))) rfl rfl ?_
    refine KO.box (rfl) ((by rfl)) rfl rfl fun Z2 u22 => ?_
    have hB2 : Z2.row Z1.next = some ⟨136, true, true, [.slice none 0 0, .slice none 0 0, .bool true, .int .i64 (IntKind.i64.wrap (1000000 * IntKind.i64.wrap ((n : Int) + 1))), .bool false]⟩ := by rw [u22.row, if_pos rfl]; rfl
    have ho2 : Own Z2 ⟨false, true, false⟩ s ba M[n].ns M[n].ss D' := hown'.frame (by rw [u22.next]; omega) (fun j hj => by have := hbD j hj; rw [u22.row, if_neg (by omega)]; exact hk21 j (by omega))
    have hmk := hfs.marksO hB2 (by rw [u22.next]; omega) rfl rfl ho2 (by have := hbD ba (.inl rfl); omega) (fun hj => by have := hbD _ (.inr hj); omega) hrl1 hrl2
    refine KO.callV (rfl) (hfx) rfl rfl rfl (hmk) fun v22 Z3 q22 => ?_
    refine KO.nil ?_
    obtain ⟨nsR, ssR, ho3, hl3, hl4, hn22, hk22⟩ := q22
    dsimp only at ho3 hn22 hk22
    rw [u22.next] at hn22
    have hkZ3 : ∀ j, j < Z.next → j ∉ M[n].D → Z3.row j = Z.row j := fun j j1 j2 => by
      rw [hDe] at j2
      rw [hk22 j (by rw [u22.next]; omega) (by omega) (fun h => j2 (h ▸ List.mem_cons_self)) (fun h => j2 (List.mem_cons_of_mem _ h)), u22.row, if_neg (by omega), hk21 j j1]
    have hA3 := hAZ.mark (H' := Z3) (ns' := nsR) (ss' := ssR) hMn ⟨⟨f, s, ba, D', hfv, hfx, hfs, ho3, hDe⟩, by omega, by omega⟩ (by omega) (fun j j1 j2 j3 => hkZ3 j (by omega) j3)
    have hV3 := hVZ.mark (H' := Z3) (ns' := nsR) (ss' := ssR) hMn (fun j j1 j2 j3 => hkZ3 j (by omega) j3)
    have hT3' := hT3.frame (H' := Z3) (by omega) (fun j j1 j2 => by
      rw [hk22 j (by rw [u22.next]; omega) (by omega) (fun h => by have := hbD j (.inl h); omega) (fun h => by have := hbD j (.inr h); omega), u22.row, if_neg (by omega)])
    refine KC.seq (KC.region ?_)
    refine KO.pv (PV.move rfl) rfl rfl ?_
    refine KO.pv (PV.move rfl) rfl rfl ?_
    refine KO.call rfl rfl rfl rfl ((look_ok 9 Z3 _ _ D1.next D2.next hV3 hA3 (by omega))) fun v23 Z4 q23 => ?_
    obtain ⟨b4, hT4, hn23, hk23⟩ := q23
    dsimp only at hT4 hn23 hk23
    refine KO.pv (PV.move rfl) rfl rfl ?_
    refine KO.call rfl rfl rfl rfl ((alike_ok 9 Z4 M _ v21 v23 b3 b4 _ _ (n : Int) (hT3'.frame hn23 fun j j1 j2 => hk23 j j2) hT4 (by rw [List.length_set]) (by omega) (fun p r q hp h1 h2 => by rw [List.getElem?_set_ne (fun e => hp (by omega))] at h2; rw [h1] at h2; cases h2; exact ⟨rfl, rfl⟩) (fun r hr => ⟨(hAZ.one r hr).l1, (hAZ.one r hr).l2⟩))) fun v24 Z5 q24 => ?_
    obtain ⟨hv24, hn24, hk24⟩ := q24
    dsimp only at hv24 hn24 hk24
    subst hv24
    refine KO.pv (PV.not rfl) rfl rfl ?_
    simp only [Bool.not_true]
    refine KO.nil ?_
    refine KC.cond rfl (fun hb => by cases hb) (fun _ => KC.skip ?_)
    have hk5 : ∀ j, j < Z3.next → Z5.row j = Z3.row j := fun j hj => (hk24 j (by omega)).trans (hk23 j hj)
    refine KC.region ?_
    refine KO.pv (PV.move rfl) rfl rfl ?_
    refine KO.pv (PV.add rfl rfl ((show _ = ((n + 1 : Nat) : Int) from wrap64 (by omega) (by omega)))) rfl rfl ?_
    refine KO.pv (PV.assign rfl) rfl rfl ?_
    refine KO.nil ?_
    refine ⟨m - 1, _, by omega, .cons rfl (.cons rfl (.cons rfl (.cons rfl (.cons rfl (.cons rfl (.cons rfl (.cons rfl (.cons rfl (.cons rfl .nil))))))))), n + 1, by omega, rfl, _, by rw [List.length_set]; exact hML, hV3.frame fun j j1 j2 _ => hk5 j (by omega), hA3.frame (by omega) fun j j1 j2 => hk5 j (by omega), by omega, fun j j1 j2 => ?_⟩
    rw [hk5 j (by omega), hkZ3 j (by omega) (fun h => by have := hAZ.rng _ (List.mem_of_getElem? hMn) j h; exact j2 this), hkZ j j1 j2]
  have hyZ : Own Z ⟨true, true, false⟩ (.fld 0 (.fld 0 (.num .i64) (.fld 1 (.list 2 (.fld 0 (.num .i64) (.fld 1 (.num .i64) .nil))) (.fld 2 (.list 2 (.fld 0 (.num .i64) (.fld 1 (.num .i64) .nil))) (.fld 3 (.list 1 (.num .i64)) (.fld 4 (.list 1 (.num .i64)) .nil))))) (.fld 5 (.num .i64) .nil)) y nsM ssM DY := hyA.frame hnZ (fun j hj => hkZ j (by rcases hj with rfl | hj; exact hyA.lb; exact hyA.lD j hj) (by rcases hj with rfl | hj; omega; have := hDY j hj; omega))
  have hW2Z : EyeAt 3 9 136 Z (e + 2) D9.next D10.next nsM ssM := hW2.frame (hkZ _ (by omega) (by omega)) (fun j j1 j2 => hkZ j (by omega) (by omega))
  refine KC.seq (KC.region ?_)
  refine KO.pv (PV.move rfl) rfl rfl ?_
  refine KO.callV (rfl) (hs) rfl rfl rfl ((hsee.readsO ((hkZ _ (by omega) (by omega)).trans hE3A) (by omega) rfl hyZ (by omega) (fun hj => by have := hDY _ hj; omega) (by omega) (by omega))) fun v25 Y1 q25 => ?_
  refine KO.nil ?_
  obtain ⟨hW3, hn25, hk25⟩ := q25
  dsimp only at hW3 hn25 hk25
  have hW2Y : EyeAt 3 9 136 Y1 (e + 2) D9.next D10.next nsM ssM := hW2Z.frame (hk25 _ (by omega) (by omega)) (fun j j1 j2 => hk25 j (by omega) (by omega))
  obtain ⟨cw, nv0, sv0, mk0, a0, rm0, Fn0, Fs0, x1, x2, x3, x4, x5, x6⟩ := hW2Y.load
  obtain ⟨cw', nv1, sv1, mk1, a1, rm1, Fn1, Fs1, y1, y2, y3, y4, y5, y6⟩ := hW3.load
  refine KC.seq (KC.region ?_)
  refine KO.loadN ag136_APrefix sz136_APrefix rfl (x1) (x2) rfl rfl ?_
  refine KO.loadN ag136_APrefix sz136_APrefix rfl (y1) (y2) rfl rfl ?_
  refine KO.call rfl rfl rfl rfl ((eye_same 9 Y1 nsM ssM nv0 sv0 nv1 sv1 mk0 mk1 rm0 rm1 a0 a1 Fn0 Fs0 Fn1 Fs1 x3 x4 y3 y4 (fun j hj => by have := x5 j hj; omega) (fun j hj => by have := x6 j hj; omega) (fun j hj => by have := y5 j hj; omega) (fun j hj => by have := y6 j hj; omega) (by omega) (by omega))) fun v26 Y2 q26 => ?_
  obtain ⟨hv26, hn26, hk26⟩ := q26
  dsimp only at hv26 hn26 hk26
  subst hv26
  refine KO.pv (PV.not rfl) rfl rfl ?_
  simp only [Bool.not_true]
  refine KO.nil ?_
  refine KC.cond rfl (fun hb => by cases hb) (fun _ => KC.skip ?_)
  refine KC.region ?_
  refine KO.pv (PV.move rfl) rfl rfl ?_
  refine KO.pv (PV.add rfl rfl ((show _ = ((i + 1 : Nat) : Int) from wrap64 (by omega) (by omega)))) rfl rfl ?_
  refine KO.pv (PV.assign rfl) rfl rfl ?_
  refine KO.nil ?_
  refine ⟨k - 1, _, by omega, .cons rfl (.cons rfl (.cons rfl (.cons rfl (.cons rfl .nil)))), i + 1, by omega, rfl, by omega, fun j hj => ?_⟩
  rw [hk26 j (by omega), hk25 j (by omega) (by omega), hkZ j (by omega) (by omega), hzA j (by omega), hkA j hj]
end Go.Eng
