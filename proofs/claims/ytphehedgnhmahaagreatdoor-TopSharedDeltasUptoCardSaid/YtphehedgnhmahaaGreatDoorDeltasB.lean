/- TopSharedDeltas answers true on the interpreter. Conditions: none beyond each theorem's own. -/
import Derived.Test.YtphehedgnhmahaaGreatDoorDeltasA
import Derived.KernelRfl
namespace Go.Eng
open Go Go.Proofs
theorem bld_room : buildA E0.P 137 [(4, .bool true)] = some (.agg #[.slice none 0 0, .slice none 0 0, .bool false, .int .i64 0, .bool true]) := by kernel_rfl
theorem bld_mark : buildA E0.P 137 [(2, .bool true), (4, .bool true)] = some (.agg #[.slice none 0 0, .slice none 0 0, .bool true, .int .i64 0, .bool true]) := by kernel_rfl
theorem bld_at (a : Int) : buildA E0.P 137 [(2, .bool true), (3, .int .i64 a)] = some (.agg #[.slice none 0 0, .slice none 0 0, .bool true, .int .i64 a, .bool false]) := by kernel_rfl
theorem apart_85 {own see : FuncId} {calls : List FuncId} (hown : OwnA E0 own (.fld 0 (.num .i64) (.fld 1 (.list 1 (.num .u8)) (.fld 2 (.num .i64) (.fld 3 (.list 2 (.fld 0 (.num .i64) (.fld 1 (.num .i64) .nil))) .nil)))) 4) (hsee : SeeOK E0 3 9 see (.fld 0 (.num .i64) (.fld 1 (.list 1 (.num .u8)) (.fld 2 (.num .i64) (.fld 3 (.list 2 (.fld 0 (.num .i64) (.fld 1 (.num .i64) .nil))) .nil))))) (hcalls : ∀ f ∈ calls, CallOK' E0 3 9 42 f (.fld 0 (.num .i64) (.fld 1 (.list 1 (.num .u8)) (.fld 2 (.num .i64) (.fld 3 (.list 2 (.fld 0 (.num .i64) (.fld 1 (.num .i64) .nil))) .nil)))) ∧ E0.ext f = none) (ho : E0.ext own = none) (hs : E0.ext see = none) (few : calls.length ≤ 1000)
    (H : AHeap) (cs : List Value) (ns : List Int) (ss : List ByteArray) (D : List Nat) (hcl : cs.length = 4) (hone : cs.all oneC = true) (w : Bool) (hwS : Sh.bools (.fld 0 (.num .i64) (.fld 1 (.list 1 (.num .u8)) (.fld 2 (.num .i64) (.fld 3 (.list 2 (.fld 0 (.num .i64) (.fld 1 (.num .i64) .nil))) .nil)))) = true → w = true) (hR : Rd H ⟨false, w⟩ (.fld 0 (.num .i64) (.fld 1 (.list 1 (.num .u8)) (.fld 2 (.num .i64) (.fld 3 (.list 2 (.fld 0 (.num .i64) (.fld 1 (.num .i64) .nil))) .nil)))) cs 0 ns ss D) (hD : ∀ j ∈ D, j < H.next) (l1 : ns.length ≤ 10000000) (l2 : ss.length ≤ 10000000) (bc : Nat) (hbc : H.row bc = some ⟨125, true, true, calls.map fun f => Value.func (.func f) #[] #[]⟩) (hbl : bc < H.next) :
    WF E0 85 [.agg cs.toArray, .func (.func own) #[] #[], .func (.func see) #[] #[], .slice (some ⟨bc, 0, none⟩) calls.length calls.length] H fun q => q.1 = .bool true := by
  refine WF.k Tryz.func85 rfl rfl ?_
  refine KC.seq (KC.region ?_)
  refine KO.box (rfl) ((boxAgg hone)) rfl rfl fun G0 u0 => ?_
  refine KO.pv (PV.assign rfl) rfl rfl ?_
  refine KO.nil ?_
  rw [show cellsV (.agg cs.toArray) = cs by simp [cellsV]] at u0
  have hX : G0.row H.next = some ⟨119, true, true, cs⟩ := by rw [u0.row, if_pos rfl]
  refine KC.seq (KC.region ?_)
  refine KO.alloc zt137 rfl rfl fun G1 u1 => ?_
  refine KO.nil ?_
  have hn0 := u0.next
  have hX1 : G1.row H.next = some ⟨119, true, true, cs⟩ := by rw [u1.row, if_neg (by omega)]; exact hX
  have he1 : G1.row (H.next + 1) = some ⟨137, true, true, [.slice none 0 0, .slice none 0 0, .bool false, .int .i64 0, .bool false]⟩ := by rw [u1.row, if_pos hn0.symm]
  have hn1 : G1.next = H.next + 2 := by rw [u1.next, hn0]
  have hk1 : ∀ j, j < H.next → G1.row j = H.row j := fun j hj => by rw [u1.row, if_neg (by omega), u0.row, if_neg (by omega)]
  rw [hn0]
  refine KC.seq (KC.region ?_)
  refine KO.pv (PV.move rfl) rfl rfl ?_
  refine KO.callV (rfl) (hs) rfl rfl rfl ((hsee.reads (room := ⟨false, w⟩) he1 (by omega) hX1 (fun _ => rfl) hwS (hR.frame fun j hj => hk1 j (hD j hj)) (by omega) (fun j hj => by have := hD j hj; omega) (by omega) (fun hj => by have := hD _ hj; omega) (by omega) (by omega))) fun v2 G2 q2 => ?_
  refine KO.nil ?_
  obtain ⟨hE2, hn2, hk2⟩ := q2
  dsimp only at hE2 hn2 hk2
  obtain ⟨c2, nv, sv, mk2, a2, rm2, Fn2, Fs2, t1, t2, t3, t4, t5, t6⟩ := hE2.load
  refine KC.seq (KC.seq (KC.region ?_))
  refine KO.loadN ag137 sz137 rfl (t1) (t2) rfl rfl ?_
  refine KO.call rfl rfl rfl rfl ((eye_great 9 G2 ns ss nv sv mk2 rm2 a2 Fn2 Fs2 t3 t4 (fun j hj => (t6 j hj).2) (by omega))) fun v3 G3 q3 => ?_
  refine KO.nil ?_
  obtain ⟨⟨gb, hgb⟩, hn3, hk3⟩ := q3
  dsimp only at hgb hn3 hk3
  subst hgb
  refine KC.cond rfl (fun hb => ?_) (fun hb => KC.skip ?_)
  · refine KC.seq (KC.region ?_)
    refine KO.pv (PV.assign rfl) rfl rfl ?_
    refine KO.nil ?_
    exact KC.ret ⟨rfl, _, rfl, rfl⟩
  have hkeep : ∀ j, j < H.next + 1 → G3.row j = G1.row j := fun j hj => (hk3 j (by omega)).trans (hk2 j (by omega) (by omega))
  refine KC.seq (KC.seq (KC.region ?_))
  refine KO.pv (PV.assign rfl) rfl rfl ?_
  refine KO.nil ?_
  refine KC.sub (l' := [(1, .func (.func own) #[] #[]), (2, .func (.func see) #[] #[]), (3, .slice (some ⟨bc, 0, none⟩) calls.length calls.length), (4, .pointer (some ⟨H.next, 0, none⟩)), (10, .int .i64 ((0 : Nat) : Int))]) (.cons rfl (.cons rfl (.cons rfl (.cons rfl (.cons rfl .nil))))) ?_
  refine KC.block (KC.loopN (fun k l A => ∃ i : Nat, i + k = calls.length ∧ l = [(1, .func (.func own) #[] #[]), (2, .func (.func see) #[] #[]), (3, .slice (some ⟨bc, 0, none⟩) calls.length calls.length), (4, .pointer (some ⟨H.next, 0, none⟩)), (10, .int .i64 (i : Int))] ∧ H.next + 2 ≤ A.next ∧ ∀ j, j < H.next + 1 → A.row j = G1.row j) ?_ calls.length ⟨0, by omega, rfl, by omega, hkeep⟩)
  rintro k l A ⟨i, hik, rfl, hnA, hkA⟩
  clear hkeep hk3 hk2 hE2 t1 t2 t3 t4 t5 t6
  refine KC.seq (KC.seq (KC.region ?_))
  refine KO.pv (PV.move rfl) rfl rfl ?_
  refine KO.pv (PV.move rfl) rfl rfl ?_
  refine KO.pv (PV.len un133 rfl) rfl rfl ?_
  refine KO.pv (PV.lss rfl rfl) rfl rfl ?_
  refine KO.nil ?_
  refine KC.cond rfl (fun hb => KC.skip ?_) (fun hb => KC.exit ?_)
  rotate_left
  · refine KC.seq (KC.region ?_)
    refine KO.pv (PV.assign rfl) rfl rfl ?_
    refine KO.nil ?_
    exact KC.ret ⟨rfl, _, rfl, rfl⟩
  have hi : i < calls.length := by simpa using hb
  have hXA : A.row H.next = some ⟨119, true, true, cs⟩ := (hkA _ (by omega)).trans hX1
  have hRA : Rd A ⟨false, w⟩ (.fld 0 (.num .i64) (.fld 1 (.list 1 (.num .u8)) (.fld 2 (.num .i64) (.fld 3 (.list 2 (.fld 0 (.num .i64) (.fld 1 (.num .i64) .nil))) .nil)))) cs 0 ns ss D := hR.frame fun j hj => (hkA j (by have := hD j hj; omega)).trans (hk1 j (hD j hj))
  have hbA : A.row bc = some ⟨125, true, true, calls.map fun f => Value.func (.func f) #[] #[]⟩ := ((hkA bc (by omega)).trans (hk1 bc hbl)).trans hbc
  -- a copy of its own
  refine KC.seq (KC.block (KC.seq (KC.region ?_)))
  refine KO.pv (PV.move rfl) rfl rfl ?_
  refine KO.loadN ag119 sz119 rfl (hXA) ((takeN_of (p := cs) (by rw [List.drop_zero, ← hcl, List.take_length]) hcl)) rfl rfl ?_
  refine KO.callV (rfl) (ho) rfl rfl rfl ((hown w A cs ns ss D hcl hone hRA (fun j hj => by have := hD j hj; omega) l1 l2)) fun w1 A1 q1 => ?_
  obtain ⟨cs1, hw1, hcl1, hone1, o1⟩ := q1
  dsimp only at hw1 o1
  subst hw1
  refine KO.alloc zt119 rfl rfl fun A2 u2 => ?_
  have hY0 : A2.row A1.next = some ⟨119, true, true, [.int .i64 0, .slice none 0 0, .int .i64 0, .slice none 0 0]⟩ := by rw [u2.row, if_pos rfl]
  refine KO.store rfl rfl sz119 ((goodAgg hcl1 hone1)) (hY0) (rfl) ((by rw [hcl1]; exact Nat.le_refl _)) rfl fun B u3 => ?_
  refine KO.nil ?_
  obtain ⟨oA1, oA2, nsY, ssY, DY, hRY, hnd, hDY, hbY1, hbY2⟩ := o1
  have hnB : B.next = A1.next + 1 := by rw [u3.next, u2.next]
  have hkB : ∀ j, j < A1.next → B.row j = A1.row j := fun j hj => by rw [u3.row, if_neg (by omega), u2.row, if_neg (by omega)]
  have hput : putL [.int .i64 0, .slice none 0 0, .int .i64 0, .slice none 0 0] 0 cs1 = cs1 := by simp [putL, hcl1]
  have hyB : Own B ⟨true, true⟩ (.fld 0 (.num .i64) (.fld 1 (.list 1 (.num .u8)) (.fld 2 (.num .i64) (.fld 3 (.list 2 (.fld 0 (.num .i64) (.fld 1 (.num .i64) .nil))) .nil)))) A1.next nsY ssY DY := ⟨⟨⟨119, true, true, cs1⟩, by rw [u3.row, if_pos rfl]; simp only [hput], rfl, hRY.frame fun j hj => hkB j (hDY j hj).2⟩, hnd, fun hj => by have := hDY _ hj; omega, by omega, fun j hj => by have := hDY j hj; omega⟩
  have hzB : ∀ j, j < A.next → B.row j = A.row j := fun j hj => (hkB j (by omega)).trans (oA2 j hj)
  clear u2 u3 hY0 hXA hRA hRY hput hkB hone1 hcl1
  generalize A1.next = y at *
  -- four eyes
  refine KC.seq (KC.region ?_)
  refine KO.pv (PV.build rfl (bld_room)) rfl rfl ?_
  refine KO.pv (PV.build rfl (bld_room)) rfl rfl ?_
  refine KO.pv (PV.build rfl (bld_room)) rfl rfl ?_
  refine KO.pv (PV.build rfl (bld_room)) rfl rfl ?_
  refine KO.alloc zt137 rfl rfl fun C1 c1 => ?_
  refine KO.alloc zt137 rfl rfl fun C2 c2 => ?_
  refine KO.alloc zt137 rfl rfl fun C3 c3 => ?_
  refine KO.alloc zt137 rfl rfl fun C4 c4 => ?_
  have d1 := c1.next
  have d2 : C2.next = B.next + 2 := by rw [c2.next, d1]
  have d3 : C3.next = B.next + 3 := by rw [c3.next, d2]
  have d4 : C4.next = B.next + 4 := by rw [c4.next, d3]
  rw [d1, d2, d3]
  have hr1 : C4.row B.next = some ⟨137, true, true, [.slice none 0 0, .slice none 0 0, .bool false, .int .i64 0, .bool false]⟩ := by rw [c4.row, if_neg (by omega), c3.row, if_neg (by omega), c2.row, if_neg (by omega), c1.row, if_pos rfl]
  refine KO.store rfl rfl sz137 (rfl) (hr1) (rfl) ((Nat.le_refl _)) rfl fun S1 s1 => ?_
  have hr2 : S1.row (B.next + 1) = some ⟨137, true, true, [.slice none 0 0, .slice none 0 0, .bool false, .int .i64 0, .bool false]⟩ := by rw [s1.row, if_neg (by omega), c4.row, if_neg (by omega), c3.row, if_neg (by omega), c2.row, if_pos d1.symm]
  refine KO.store rfl rfl sz137 (rfl) (hr2) (rfl) ((Nat.le_refl _)) rfl fun S2 s2 => ?_
  have hr3 : S2.row (B.next + 2) = some ⟨137, true, true, [.slice none 0 0, .slice none 0 0, .bool false, .int .i64 0, .bool false]⟩ := by rw [s2.row, if_neg (by omega), s1.row, if_neg (by omega), c4.row, if_neg (by omega), c3.row, if_pos d2.symm]
  refine KO.store rfl rfl sz137 (rfl) (hr3) (rfl) ((Nat.le_refl _)) rfl fun S3 s3 => ?_
  have hr4 : S3.row (B.next + 3) = some ⟨137, true, true, [.slice none 0 0, .slice none 0 0, .bool false, .int .i64 0, .bool false]⟩ := by rw [s3.row, if_neg (by omega), s2.row, if_neg (by omega), s1.row, if_neg (by omega), c4.row, if_pos d3.symm]
  refine KO.store rfl rfl sz137 (rfl) (hr4) (rfl) ((Nat.le_refl _)) rfl fun C s4 => ?_
  refine KO.nil ?_
  have hnC : C.next = B.next + 4 := by rw [s4.next, s3.next, s2.next, s1.next, d4]
  have hkC : ∀ j, j < B.next → C.row j = B.row j := fun j hj => by rw [s4.row, if_neg (by omega), s3.row, if_neg (by omega), s2.row, if_neg (by omega), s1.row, if_neg (by omega), c4.row, if_neg (by omega), c3.row, if_neg (by omega), c2.row, if_neg (by omega), c1.row, if_neg (by omega)]
  have hE0 : C.row B.next = some ⟨137, true, true, [.slice none 0 0, .slice none 0 0, .bool false, .int .i64 0, .bool true]⟩ := by rw [s4.row, if_neg (by omega), s3.row, if_neg (by omega), s2.row, if_neg (by omega), s1.row, if_pos rfl]; rfl
  have hE1 : C.row (B.next + 1) = some ⟨137, true, true, [.slice none 0 0, .slice none 0 0, .bool false, .int .i64 0, .bool true]⟩ := by rw [s4.row, if_neg (by omega), s3.row, if_neg (by omega), s2.row, if_pos rfl]; rfl
  have hE2 : C.row (B.next + 2) = some ⟨137, true, true, [.slice none 0 0, .slice none 0 0, .bool false, .int .i64 0, .bool true]⟩ := by rw [s4.row, if_neg (by omega), s3.row, if_pos rfl]; rfl
  have hE3 : C.row (B.next + 3) = some ⟨137, true, true, [.slice none 0 0, .slice none 0 0, .bool false, .int .i64 0, .bool true]⟩ := by rw [s4.row, if_pos rfl]; rfl
  have hyC : Own C ⟨true, true⟩ (.fld 0 (.num .i64) (.fld 1 (.list 1 (.num .u8)) (.fld 2 (.num .i64) (.fld 3 (.list 2 (.fld 0 (.num .i64) (.fld 1 (.num .i64) .nil))) .nil)))) y nsY ssY DY := hyB.frame (by omega) (fun j hj => hkC j (by rcases hj with rfl | hj; exact hyB.lb; exact hyB.lD j hj))
  have hzC : ∀ j, j < A.next → C.row j = A.row j := fun j hj => (hkC j (by omega)).trans (hzB j hj)
  clear c1 c2 c3 c4 s1 s2 s3 s4 hr1 hr2 hr3 hr4 d1 d2 d3 d4 hkC hyB hzB
  have hyb : y < B.next := by omega
  generalize B.next = e at *
  -- seen before
  refine KC.seq (KC.region ?_)
  refine KO.pv (PV.move rfl) rfl rfl ?_
  refine KO.callV (rfl) (hs) rfl rfl rfl ((hsee.readsO hE0 (by omega) rfl hyC (by omega) (fun hj => by have := hDY _ hj; omega) (by omega) (by omega))) fun v10 D1 q10 => ?_
  refine KO.nil ?_
  obtain ⟨hW0, hn10, hk10⟩ := q10
  dsimp only at hW0 hn10 hk10
  have hy1 : Own D1 ⟨true, true⟩ (.fld 0 (.num .i64) (.fld 1 (.list 1 (.num .u8)) (.fld 2 (.num .i64) (.fld 3 (.list 2 (.fld 0 (.num .i64) (.fld 1 (.num .i64) .nil))) .nil)))) y nsY ssY DY := hyC.frame hn10 (fun j hj => hk10 j (by rcases hj with rfl | hj; exact hyC.lb; exact hyC.lD j hj) (by rcases hj with rfl | hj; omega; have := hDY j hj; omega))
  have hz1 : ∀ j, j < A.next → D1.row j = A.row j := fun j hj => (hk10 j (by omega) (by omega)).trans (hzC j hj)
  -- the call
  obtain ⟨hcall, hcx⟩ := hcalls _ (List.getElem_mem hi)
  have hfi : (calls.map fun f => Value.func (.func f) #[] #[])[0 + i * 1]? = some (.func (.func calls[i]) #[] #[]) := by rw [Nat.mul_one, Nat.zero_add, List.getElem?_map, List.getElem?_eq_getElem hi]; rfl
  refine KC.seq (KC.region ?_)
  refine KO.pv (PV.move rfl) rfl rfl ?_
  refine KO.pv (PV.move rfl) rfl rfl ?_
  refine KO.pv (PV.indexAddr un133 sz125 rfl rfl (hi)) rfl rfl ?_
  refine KO.load1 ag125 rfl (((hz1 bc (by omega)).trans hbA)) (hfi) rfl rfl ?_
  refine KO.callV (rfl) (hcx) rfl rfl rfl ((hcall D1 y nsY ssY DY hy1 (by omega) (by omega))) fun v11 D2 q11 => ?_
  refine KO.pv (PV.assign rfl) rfl rfl ?_
  refine KO.nil ?_
  obtain ⟨L, hV, hA, hn11, hk11⟩ := q11
  dsimp only at hV hA hn11 hk11
  have hlv : ∃ a, v11 = .slice a L.length L.length ∧ (0 < L.length → ∃ b, a = some ⟨b, 0, none⟩) := by
    rcases hV with ⟨rfl, rfl⟩ | ⟨b, rfl, -⟩
    · exact ⟨none, rfl, fun h => absurd h (Nat.lt_irrefl _)⟩
    · exact ⟨_, rfl, fun _ => ⟨b, rfl⟩⟩
  obtain ⟨aL, rfl, haL⟩ := hlv
  have fewL := hA.few
  have hy2 : Own D2 ⟨true, true⟩ (.fld 0 (.num .i64) (.fld 1 (.list 1 (.num .u8)) (.fld 2 (.num .i64) (.fld 3 (.list 2 (.fld 0 (.num .i64) (.fld 1 (.num .i64) .nil))) .nil)))) y nsY ssY DY := hy1.frame hn11 (fun j hj => hk11 j (by rcases hj with rfl | hj; exact hy1.lb; exact hy1.lD j hj))
  have hz2 : ∀ j, j < A.next → D2.row j = A.row j := fun j hj => (hk11 j (by omega)).trans (hz1 j hj)
  have hW0' : EyeAt 3 9 137 D2 e C.next D1.next nsY ssY := hW0.frame (hk11 e (by omega)) (fun j _ j2 => hk11 j j2)
  -- seen behind it
  refine KC.seq (KC.region ?_)
  refine KO.pv (PV.move rfl) rfl rfl ?_
  refine KO.callV (rfl) (hs) rfl rfl rfl ((hsee.readsO (((hk11 _ (by omega)).trans (hk10 _ (by omega) (by omega))).trans hE1) (by omega) rfl hy2 (by omega) (fun hj => by have := hDY _ hj; omega) (by omega) (by omega))) fun v12 D3 q12 => ?_
  refine KO.nil ?_
  obtain ⟨hW1, hn12, hk12⟩ := q12
  dsimp only at hW1 hn12 hk12
  have hy3 : Own D3 ⟨true, true⟩ (.fld 0 (.num .i64) (.fld 1 (.list 1 (.num .u8)) (.fld 2 (.num .i64) (.fld 3 (.list 2 (.fld 0 (.num .i64) (.fld 1 (.num .i64) .nil))) .nil)))) y nsY ssY DY := hy2.frame hn12 (fun j hj => hk12 j (by rcases hj with rfl | hj; exact hy2.lb; exact hy2.lD j hj) (by rcases hj with rfl | hj; omega; have := hDY j hj; omega))
  have hz3 : ∀ j, j < A.next → D3.row j = A.row j := fun j hj => (hk12 j (by omega) (by omega)).trans (hz2 j hj)
  have hV3 := hV.frame (H' := D3) (fun j j1 j2 _ => hk12 j (by omega) (by omega))
  have hA3 := hA.frame (H' := D3) hn12 (fun j j1 j2 => hk12 j (by omega) (by omega))
  -- what is told
  refine KC.seq (KC.region ?_)
  refine KO.pv (PV.move rfl) rfl rfl ?_
  refine KO.call rfl rfl rfl rfl ((look_ok 9 D3 _ L D1.next D2.next hV3 hA3 (by omega))) fun v13 D4 q13 => ?_
  refine KO.pv (PV.assign rfl) rfl rfl ?_
  refine KO.nil ?_
  obtain ⟨b1, hT1, hn13, hk13⟩ := q13
  dsimp only at hT1 hn13 hk13
  have hy4 : Own D4 ⟨true, true⟩ (.fld 0 (.num .i64) (.fld 1 (.list 1 (.num .u8)) (.fld 2 (.num .i64) (.fld 3 (.list 2 (.fld 0 (.num .i64) (.fld 1 (.num .i64) .nil))) .nil)))) y nsY ssY DY := hy3.frame hn13 (fun j hj => hk13 j (by rcases hj with rfl | hj; exact hy3.lb; exact hy3.lD j hj))
  -- the argument is written over
  refine KC.seq (KC.region ?_)
  refine KO.pv (PV.move rfl) rfl rfl ?_
  refine KO.pv (PV.build rfl (bld_mark)) rfl rfl ?_
  refine KO.box (rfl) ((by rfl)) rfl rfl fun D5 u14 => ?_
  have hB5 : D5.row D4.next = some ⟨137, true, true, [.slice none 0 0, .slice none 0 0, .bool true, .int .i64 0, .bool true]⟩ := by rw [u14.row, if_pos rfl]; rfl
  have hy5 : Own D5 ⟨true, true⟩ (.fld 0 (.num .i64) (.fld 1 (.list 1 (.num .u8)) (.fld 2 (.num .i64) (.fld 3 (.list 2 (.fld 0 (.num .i64) (.fld 1 (.num .i64) .nil))) .nil)))) y nsY ssY DY := hy4.frame (by rw [u14.next]; omega) (fun j hj => by rw [u14.row, if_neg]; rcases hj with rfl | hj; have := hy4.lb; omega; have := hy4.lD j hj; omega)
  refine KO.callV (rfl) (hs) rfl rfl rfl ((hsee.marksO hB5 (by rw [u14.next]; omega) rfl hy5 (by have := hy4.lb; omega) (fun hj => by have := hy4.lD _ hj; omega) (by omega) (by omega))) fun v14 D6 q14 => ?_
  refine KO.nil ?_
  obtain ⟨nsM, ssM, hy6, hlM1, hlM2, hn14, hk14⟩ := q14
  dsimp only at hy6 hn14 hk14
  rw [u14.next] at hn14
  have hk6 : ∀ j, j < D4.next → j ≠ y → j ∉ DY → D6.row j = D4.row j := fun j j1 j2 j3 => (hk14 j (by rw [u14.next]; omega) (by omega) j2 j3).trans (by rw [u14.row, if_neg (by omega)])
  have hk36 : ∀ j, j < D3.next → j ≠ y → j ∉ DY → D6.row j = D3.row j := fun j j1 j2 j3 => (hk6 j (by omega) j2 j3).trans (hk13 j j1)
  have hnotY : ∀ j, e ≤ j → j ≠ y ∧ j ∉ DY := fun j hj => ⟨by omega, fun h => by have := hDY j h; omega⟩
  have hz6 : ∀ j, j < A.next → D6.row j = A.row j := fun j hj => (hk36 j (by omega) (by omega) (fun h => by have := hDY j h; omega)).trans (hz3 j hj)
  have hW06 : EyeAt 3 9 137 D6 e C.next D1.next nsY ssY := hW0'.frame ((hk36 e (by omega) (hnotY e (by omega)).1 (hnotY e (by omega)).2).trans (hk12 e (by omega) (by omega))) (fun j j1 j2 => (hk36 j (by omega) (hnotY j (by omega)).1 (hnotY j (by omega)).2).trans (hk12 j (by omega) (by omega)))
  have hW16 : EyeAt 3 9 137 D6 (e + 1) D2.next D3.next nsY ssY := hW1.frame (hk36 _ (by omega) (hnotY _ (by omega)).1 (hnotY _ (by omega)).2) (fun j j1 j2 => hk36 j (by omega) (hnotY j (by omega)).1 (hnotY j (by omega)).2)
  have hV6 := hV3.frame (H' := D6) (fun j j1 j2 _ => hk36 j (by omega) (hnotY j (by omega)).1 (hnotY j (by omega)).2)
  have hA6 := hA3.frame (H' := D6) (by omega) (fun j j1 j2 => hk36 j (by omega) (hnotY j (by omega)).1 (hnotY j (by omega)).2)
  have hT16 := hT1.frame (H' := D6) (by omega) (fun j j1 j2 => hk6 j j2 (hnotY j (by omega)).1 (hnotY j (by omega)).2)
  have hE26 : D6.row (e + 2) = some ⟨137, true, true, [.slice none 0 0, .slice none 0 0, .bool false, .int .i64 0, .bool true]⟩ := ((((hk36 _ (by omega) (hnotY _ (by omega)).1 (hnotY _ (by omega)).2).trans (hk12 _ (by omega) (by omega))).trans (hk11 _ (by omega))).trans (hk10 _ (by omega) (by omega))).trans hE2
  have hE36 : D6.row (e + 3) = some ⟨137, true, true, [.slice none 0 0, .slice none 0 0, .bool false, .int .i64 0, .bool true]⟩ := ((((hk36 _ (by omega) (hnotY _ (by omega)).1 (hnotY _ (by omega)).2).trans (hk12 _ (by omega) (by omega))).trans (hk11 _ (by omega))).trans (hk10 _ (by omega) (by omega))).trans hE3
  obtain ⟨cw, nv0, sv0, mk0, a0, rm0, Fn0, Fs0, x1, x2, x3, x4, x5, x6⟩ := hW06.load
  obtain ⟨cw', nv1, sv1, mk1, a1, rm1, Fn1, Fs1, y1, y2, y3, y4, y5, y6⟩ := hW16.load
  clear hW0 hW0' hW1 hV hV3 hA hA3 hT1 hy1 hy2 hy3 hy4 hk6 hk10 hk11 hk12 hk13 hk14 hk36 hz1 hz2 hz3 hzC hyC hE0 hE1 hE2 hE3 hy5 hB5
  -- the argument stayed, and the results when it was written over
  refine KC.seq (KC.seq (KC.region ?_))
  refine KO.loadN ag137 sz137 rfl (x1) (x2) rfl rfl ?_
  refine KO.loadN ag137 sz137 rfl (y1) (y2) rfl rfl ?_
  refine KO.call rfl rfl rfl rfl ((eye_same 9 D6 nsY ssY nv0 sv0 nv1 sv1 mk0 mk1 rm0 rm1 a0 a1 Fn0 Fs0 Fn1 Fs1 x3 x4 y3 y4 (fun j hj => by have := x5 j hj; omega) (fun j hj => by have := x6 j hj; omega) (fun j hj => by have := y5 j hj; omega) (fun j hj => by have := y6 j hj; omega) (by omega) (by omega))) fun v15 D7 q15 => ?_
  obtain ⟨hv15, hn15, hk15⟩ := q15
  dsimp only at hv15 hn15 hk15
  subst hv15
  refine KO.pv (PV.not rfl) rfl rfl ?_
  simp only [Bool.not_true]
  refine KO.pv (PV.move rfl) rfl rfl ?_
  refine KO.pv (PV.move rfl) rfl rfl ?_
  refine KO.pv (PV.move rfl) rfl rfl ?_
  refine KO.call rfl rfl rfl rfl ((look_ok 9 D7 _ L D1.next D2.next (hV6.frame fun j j1 j2 _ => hk15 j (by omega)) (hA6.frame hn15 fun j j1 j2 => hk15 j (by omega)) (by omega))) fun v16 D8 q16 => ?_
  obtain ⟨b2, hT2, hn16, hk16⟩ := q16
  dsimp only at hT2 hn16 hk16
  refine KO.call rfl rfl rfl rfl ((alike_ok 9 D8 L L v13 v16 b1 b2 _ _ (-1) (hT16.frame (by omega) fun j j1 j2 => (hk16 j (by omega)).trans (hk15 j j2)) hT2 rfl fewL (fun _ r q _ h1 h2 => by rw [h1] at h2; cases h2; exact ⟨rfl, rfl⟩) (fun r hr => ⟨(hA6.one r hr).l1, (hA6.one r hr).l2⟩))) fun v17 D9 q17 => ?_
  obtain ⟨hv17, hn17, hk17⟩ := q17
  dsimp only at hv17 hn17 hk17
  subst hv17
  refine KO.pv (PV.not rfl) rfl rfl ?_
  simp only [Bool.not_true]
  refine KO.pv (PV.pickF rfl rfl rfl) rfl rfl ?_
  refine KO.nil ?_
  refine KC.cond rfl (fun hb => by cases hb) (fun _ => KC.skip ?_)
  have hk9 : ∀ j, j < D6.next → D9.row j = D6.row j := fun j hj => ((hk17 j (by omega)).trans (hk16 j (by omega))).trans (hk15 j hj)
  have hy9 : Own D9 ⟨true, true⟩ (.fld 0 (.num .i64) (.fld 1 (.list 1 (.num .u8)) (.fld 2 (.num .i64) (.fld 3 (.list 2 (.fld 0 (.num .i64) (.fld 1 (.num .i64) .nil))) .nil)))) y nsM ssM DY := hy6.frame (by omega) (fun j hj => hk9 j (by rcases hj with rfl | hj; exact hy6.lb; exact hy6.lD j hj))
  have hz9 : ∀ j, j < A.next → D9.row j = A.row j := fun j hj => (hk9 j (by omega)).trans (hz6 j hj)
  have hV9 := hV6.frame (H' := D9) (fun j j1 j2 _ => hk9 j (by omega))
  have hA9 := hA6.frame (H' := D9) (by omega) (fun j j1 j2 => hk9 j (by omega))
  -- seen behind the writing
  refine KC.seq (KC.region ?_)
  refine KO.pv (PV.move rfl) rfl rfl ?_
  refine KO.callV (rfl) (hs) rfl rfl rfl ((hsee.readsO ((hk9 _ (by omega)).trans hE26) (by omega) rfl hy9 (by omega) (fun hj => by have := hDY _ hj; omega) (by omega) (by omega))) fun v18 D10 q18 => ?_
  refine KO.nil ?_
  obtain ⟨hW2, hn18, hk18⟩ := q18
  dsimp only at hW2 hn18 hk18
  have hyA : Own D10 ⟨true, true⟩ (.fld 0 (.num .i64) (.fld 1 (.list 1 (.num .u8)) (.fld 2 (.num .i64) (.fld 3 (.list 2 (.fld 0 (.num .i64) (.fld 1 (.num .i64) .nil))) .nil)))) y nsM ssM DY := hy9.frame hn18 (fun j hj => hk18 j (by rcases hj with rfl | hj; exact hy9.lb; exact hy9.lD j hj) (by rcases hj with rfl | hj; omega; have := hDY j hj; omega))
  have hzA : ∀ j, j < A.next → D10.row j = A.row j := fun j hj => (hk18 j (by omega) (by omega)).trans (hz9 j hj)
  have hVA := hV9.frame (H' := D10) (fun j j1 j2 _ => hk18 j (by omega) (by omega))
  have hAA := hA9.frame (H' := D10) hn18 (fun j j1 j2 => hk18 j (by omega) (by omega))
  have hE3A : D10.row (e + 3) = some ⟨137, true, true, [.slice none 0 0, .slice none 0 0, .bool false, .int .i64 0, .bool true]⟩ := ((hk18 _ (by omega) (by omega)).trans (hk9 _ (by omega))).trans hE36
  have hD10 : D2.next ≤ D9.next := by omega
  clear hk9 hy9 hz9 hV9 hA9 hk18 hE26 hE36 hk15 hk16 hk17 hy6 hz6 hV6 hA6 hT16 hT2 hW06 hW16 x1 x2 x3 x4 x5 x6 y1 y2 y3 y4 y5 y6
  refine KC.seq (KC.seq (KC.region ?_))
  refine KO.pv (PV.assign rfl) rfl rfl ?_
  refine KO.nil ?_
  refine KC.sub (l' := [(1, .func (.func own) #[] #[]), (2, .func (.func see) #[] #[]), (3, .slice (some ⟨bc, 0, none⟩) calls.length calls.length), (4, .pointer (some ⟨H.next, 0, none⟩)), (10, .int .i64 (i : Int)), (11, .pointer (some ⟨y, 0, none⟩)), (14, .pointer (some ⟨e + 2, 0, none⟩)), (15, .pointer (some ⟨e + 3, 0, none⟩)), (16, .slice aL L.length L.length), (18, .int .i64 ((0 : Nat) : Int))]) (.cons rfl (.cons rfl (.cons rfl (.cons rfl (.cons rfl (.cons rfl (.cons rfl (.cons rfl (.cons rfl (.cons rfl .nil)))))))))) ?_
  refine KC.block (KC.loopN (fun m l Z => ∃ n : Nat, n + m = L.length ∧ l = [(1, .func (.func own) #[] #[]), (2, .func (.func see) #[] #[]), (3, .slice (some ⟨bc, 0, none⟩) calls.length calls.length), (4, .pointer (some ⟨H.next, 0, none⟩)), (10, .int .i64 (i : Int)), (11, .pointer (some ⟨y, 0, none⟩)), (14, .pointer (some ⟨e + 2, 0, none⟩)), (15, .pointer (some ⟨e + 3, 0, none⟩)), (16, .slice aL L.length L.length), (18, .int .i64 (n : Int))] ∧
    ∃ M : List R1, M.length = L.length ∧ ResV Z 42 (.slice aL L.length L.length) M D1.next D2.next ∧ ResAll E0 3 9 Z D1.next D2.next M ∧ D10.next ≤ Z.next ∧ ∀ j, j < D10.next → ¬ (D1.next ≤ j ∧ j < D2.next) → Z.row j = D10.row j) ?_ L.length ⟨0, by omega, rfl, L, rfl, hVA, hAA, Nat.le_refl _, fun _ _ _ => rfl⟩)
  rintro m l Z ⟨n, hnm, rfl, M, hML, hVZ, hAZ, hnZ, hkZ⟩
  refine KC.seq (KC.seq (KC.region ?_))
  refine KO.pv (PV.move rfl) rfl rfl ?_
  refine KO.pv (PV.move rfl) rfl rfl ?_
  refine KO.pv (PV.len un32 rfl) rfl rfl ?_
  refine KO.pv (PV.lss rfl rfl) rfl rfl ?_
  refine KO.nil ?_
  refine KC.cond rfl (fun hb => KC.skip ?_) (fun hb => KC.exit ?_)
  · have hn : n < L.length := by simpa using hb
    obtain ⟨bL, rfl⟩ := haL (by omega)
    have hnM : n < M.length := by omega
    have hMn : M[n]? = some M[n] := List.getElem?_eq_getElem hnM
    refine KC.seq (KC.block (KC.seq (KC.region ?_)))
    refine KO.pv (PV.move rfl) rfl rfl ?_
    refine KO.call rfl rfl rfl rfl ((look_ok 9 Z _ M D1.next D2.next hVZ hAZ (by omega))) fun v21 Z1 q21 => ?_
    refine KO.pv (PV.assign rfl) rfl rfl ?_
    refine KO.nil ?_
    obtain ⟨b3, hT3, hn21, hk21⟩ := q21
    dsimp only at hT3 hn21 hk21
    obtain ⟨f, s, ba, D', hfv, hfx, hfs, hown', hDe⟩ := (hAZ.one _ (List.mem_of_getElem? hMn)).ex
    have hrl1 := (hAZ.one _ (List.mem_of_getElem? hMn)).l1
    have hrl2 := (hAZ.one _ (List.mem_of_getElem? hMn)).l2
    have hbD : ∀ j, j = ba ∨ j ∈ D' → D1.next ≤ j ∧ j < D2.next := fun j hj => hAZ.rng _ (List.mem_of_getElem? hMn) j (by rw [hDe]; rcases hj with rfl | hj; exact List.mem_cons_self; exact List.mem_cons_of_mem _ hj)
    have hrL : ∃ b, bL = b ∧ Z.row bL = some ⟨42, true, true, M.map (·.v)⟩ ∧ bL < D2.next := by
      rcases hVZ with ⟨h, -⟩ | ⟨b, h1, h2, h3, h4, h5⟩
      · cases h
      · obtain ⟨h1, -, -⟩ := Value.slice.inj h1
        cases h1
        exact ⟨_, rfl, h2, h4⟩
    obtain ⟨-, -, hrL1, hrL2⟩ := hrL
    have hcM : (M.map (·.v))[0 + n * 1]? = some (.func (.func f) #[] #[.pointer (some ⟨ba, 0, none⟩)]) := by rw [Nat.mul_one, Nat.zero_add, List.getElem?_map, hMn]; exact congrArg some hfv
    refine KC.seq (KC.region ?_)
    refine KO.pv (PV.move rfl) rfl rfl ?_
    refine KO.pv (PV.move rfl) rfl rfl ?_
    refine KO.pv (PV.indexAddr un32 sz42 rfl rfl (hn)) rfl rfl ?_
    refine KO.load1 ag42 rfl (((hk21 bL (by omega)).trans hrL1)) (hcM) rfl rfl ?_
    refine KO.pv (PV.move rfl) rfl rfl ?_
    refine KO.pv (PV.add rfl rfl (rfl)) rfl rfl ?_
    refine KO.pv (PV.mul rfl rfl (rfl)) rfl rfl ?_
    refine KO.pv (PV.build rfl ((bld_at _))) rfl rfl ?_
    refine KO.box (rfl) ((by rfl)) rfl rfl fun Z2 u22 => ?_
    have hB2 : Z2.row Z1.next = some ⟨137, true, true, [.slice none 0 0, .slice none 0 0, .bool true, .int .i64 (IntKind.i64.wrap (1000000 * IntKind.i64.wrap ((n : Int) + 1))), .bool false]⟩ := by rw [u22.row, if_pos rfl]; rfl
    have ho2 : Own Z2 ⟨false, true⟩ s ba M[n].ns M[n].ss D' := hown'.frame (by rw [u22.next]; omega) (fun j hj => by have := hbD j hj; rw [u22.row, if_neg (by omega)]; exact hk21 j (by omega))
    have hmk := hfs.marksO hB2 (by rw [u22.next]; omega) rfl ho2 (by have := hbD ba (.inl rfl); omega) (fun hj => by have := hbD _ (.inr hj); omega) hrl1 hrl2
    refine KO.callV (rfl) (hfx) rfl rfl rfl (hmk) fun v22 Z3 q22 => ?_
    refine KO.nil ?_
    obtain ⟨nsR, ssR, ho3, hl3, hl4, hn22, hk22⟩ := q22
    dsimp only at ho3 hn22 hk22
    rw [u22.next] at hn22
    have hkZ3 : ∀ j, j < Z.next → j ∉ M[n].D → Z3.row j = Z.row j := fun j j1 j2 => by
      rw [hDe] at j2
      rw [hk22 j (by rw [u22.next]; omega) (by omega) (fun h => j2 (h ▸ List.mem_cons_self)) (fun h => j2 (List.mem_cons_of_mem _ h)), u22.row, if_neg (by omega), hk21 j j1]
    have hA3 := hAZ.mark (H' := Z3) (ns' := nsR) (ss' := ssR) hMn ⟨⟨f, s, ba, D', hfv, hfx, hfs, ho3, hDe⟩, by omega, by omega⟩ (by omega) (fun j j1 j2 j3 => hkZ3 j (by omega) j3)
    have hV3 := hVZ.mark (H' := Z3) (ns' := nsR) (ss' := ssR) hMn (fun j j1 j2 j3 => hkZ3 j (by omega) j3)
    have hT3' := hT3.frame (H' := Z3) (by omega) (fun j j1 j2 => by
      rw [hk22 j (by rw [u22.next]; omega) (by omega) (fun h => by have := hbD j (.inl h); omega) (fun h => by have := hbD j (.inr h); omega), u22.row, if_neg (by omega)])
    refine KC.seq (KC.region ?_)
    refine KO.pv (PV.move rfl) rfl rfl ?_
    refine KO.pv (PV.move rfl) rfl rfl ?_
    refine KO.call rfl rfl rfl rfl ((look_ok 9 Z3 _ _ D1.next D2.next hV3 hA3 (by omega))) fun v23 Z4 q23 => ?_
    obtain ⟨b4, hT4, hn23, hk23⟩ := q23
    dsimp only at hT4 hn23 hk23
    refine KO.pv (PV.move rfl) rfl rfl ?_
    refine KO.call rfl rfl rfl rfl ((alike_ok 9 Z4 M _ v21 v23 b3 b4 _ _ (n : Int) (hT3'.frame hn23 fun j j1 j2 => hk23 j j2) hT4 (by rw [List.length_set]) (by omega) (fun p r q hp h1 h2 => by rw [List.getElem?_set_ne (fun e => hp (by omega))] at h2; rw [h1] at h2; cases h2; exact ⟨rfl, rfl⟩) (fun r hr => ⟨(hAZ.one r hr).l1, (hAZ.one r hr).l2⟩))) fun v24 Z5 q24 => ?_
    obtain ⟨hv24, hn24, hk24⟩ := q24
    dsimp only at hv24 hn24 hk24
    subst hv24
    refine KO.pv (PV.not rfl) rfl rfl ?_
    simp only [Bool.not_true]
    refine KO.nil ?_
    refine KC.cond rfl (fun hb => by cases hb) (fun _ => KC.skip ?_)
    have hk5 : ∀ j, j < Z3.next → Z5.row j = Z3.row j := fun j hj => (hk24 j (by omega)).trans (hk23 j hj)
    refine KC.region ?_
    refine KO.pv (PV.move rfl) rfl rfl ?_
    refine KO.pv (PV.add rfl rfl ((show _ = ((n + 1 : Nat) : Int) from wrap64 (by omega) (by omega)))) rfl rfl ?_
    refine KO.pv (PV.assign rfl) rfl rfl ?_
    refine KO.nil ?_
    refine ⟨m - 1, _, by omega, .cons rfl (.cons rfl (.cons rfl (.cons rfl (.cons rfl (.cons rfl (.cons rfl (.cons rfl (.cons rfl (.cons rfl .nil))))))))), n + 1, by omega, rfl, _, by rw [List.length_set]; exact hML, hV3.frame fun j j1 j2 _ => hk5 j (by omega), hA3.frame (by omega) fun j j1 j2 => hk5 j (by omega), by omega, fun j j1 j2 => ?_⟩
    rw [hk5 j (by omega), hkZ3 j (by omega) (fun h => by have := hAZ.rng _ (List.mem_of_getElem? hMn) j h; exact j2 this), hkZ j j1 j2]
  -- the argument stayed when the results were written over
  have hyZ : Own Z ⟨true, true⟩ (.fld 0 (.num .i64) (.fld 1 (.list 1 (.num .u8)) (.fld 2 (.num .i64) (.fld 3 (.list 2 (.fld 0 (.num .i64) (.fld 1 (.num .i64) .nil))) .nil)))) y nsM ssM DY := hyA.frame hnZ (fun j hj => hkZ j (by rcases hj with rfl | hj; exact hyA.lb; exact hyA.lD j hj) (by rcases hj with rfl | hj; omega; have := hDY j hj; omega))
  have hW2Z : EyeAt 3 9 137 Z (e + 2) D9.next D10.next nsM ssM := hW2.frame (hkZ _ (by omega) (by omega)) (fun j j1 j2 => hkZ j (by omega) (by omega))
  refine KC.seq (KC.region ?_)
  refine KO.pv (PV.move rfl) rfl rfl ?_
  refine KO.callV (rfl) (hs) rfl rfl rfl ((hsee.readsO ((hkZ _ (by omega) (by omega)).trans hE3A) (by omega) rfl hyZ (by omega) (fun hj => by have := hDY _ hj; omega) (by omega) (by omega))) fun v25 Y1 q25 => ?_
  refine KO.nil ?_
  obtain ⟨hW3, hn25, hk25⟩ := q25
  dsimp only at hW3 hn25 hk25
  have hW2Y : EyeAt 3 9 137 Y1 (e + 2) D9.next D10.next nsM ssM := hW2Z.frame (hk25 _ (by omega) (by omega)) (fun j j1 j2 => hk25 j (by omega) (by omega))
  obtain ⟨cw, nv0, sv0, mk0, a0, rm0, Fn0, Fs0, x1, x2, x3, x4, x5, x6⟩ := hW2Y.load
  obtain ⟨cw', nv1, sv1, mk1, a1, rm1, Fn1, Fs1, y1, y2, y3, y4, y5, y6⟩ := hW3.load
  refine KC.seq (KC.region ?_)
  refine KO.loadN ag137 sz137 rfl (x1) (x2) rfl rfl ?_
  refine KO.loadN ag137 sz137 rfl (y1) (y2) rfl rfl ?_
  refine KO.call rfl rfl rfl rfl ((eye_same 9 Y1 nsM ssM nv0 sv0 nv1 sv1 mk0 mk1 rm0 rm1 a0 a1 Fn0 Fs0 Fn1 Fs1 x3 x4 y3 y4 (fun j hj => by have := x5 j hj; omega) (fun j hj => by have := x6 j hj; omega) (fun j hj => by have := y5 j hj; omega) (fun j hj => by have := y6 j hj; omega) (by omega) (by omega))) fun v26 Y2 q26 => ?_
  obtain ⟨hv26, hn26, hk26⟩ := q26
  dsimp only at hv26 hn26 hk26
  subst hv26
  refine KO.pv (PV.not rfl) rfl rfl ?_
  simp only [Bool.not_true]
  refine KO.nil ?_
  refine KC.cond rfl (fun hb => by cases hb) (fun _ => KC.skip ?_)
  refine KC.region ?_
  refine KO.pv (PV.move rfl) rfl rfl ?_
  refine KO.pv (PV.add rfl rfl ((show _ = ((i + 1 : Nat) : Int) from wrap64 (by omega) (by omega)))) rfl rfl ?_
  refine KO.pv (PV.assign rfl) rfl rfl ?_
  refine KO.nil ?_
  refine ⟨k - 1, _, by omega, .cons rfl (.cons rfl (.cons rfl (.cons rfl (.cons rfl .nil)))), i + 1, by omega, rfl, by omega, fun j hj => ?_⟩
  rw [hk26 j (by omega), hk25 j (by omega) (by omega), hkZ j (by omega) (by omega), hzA j (by omega), hkA j hj]

end Go.Eng

namespace Go.Eng
open Go Go.Proofs
theorem deltas_check (H : AHeap) (first n : Int) : WF E0 145 [.int .i64 first, .int .i64 n] H fun q => ∃ e, q.1 = .int .i64 e ∧ q.2 = H ∧ (e = 0 → 1 ≤ first ∧ first ≤ 1000 ∧ 0 ≤ n ∧ n ≤ 1001 - first) := by
  refine WF.k Tryz.func145 rfl rfl ?_
  refine KC.seq (KC.region ?_)
  refine KO.pv (PV.assign rfl) rfl rfl ?_
  refine KO.nil ?_
  refine KC.seq (KC.block (KC.seq (KC.region ?_)))
  by_cases a1 : first < 1
  · refine KO.pv (PV.move rfl) rfl rfl ?_
    refine KO.pv (PV.lss rfl rfl) rfl rfl ?_
    rw [decide_eq_true a1]
    refine KO.pv (PV.move rfl) rfl rfl ?_
    refine KO.no rfl rfl rfl ?_
    refine KO.no rfl rfl rfl ?_
    refine KO.pv (PV.pickT rfl rfl rfl) rfl rfl ?_
    refine KO.pv (PV.move rfl) rfl rfl ?_
    refine KO.no rfl rfl rfl ?_
    refine KO.no rfl rfl rfl ?_
    refine KO.pv (PV.pickT rfl rfl rfl) rfl rfl ?_
    refine KO.pv (PV.assign rfl) rfl rfl ?_
    refine KO.nil ?_
    refine KC.cond rfl (fun _ => ?_) (fun hb => by cases hb)
    refine KC.seq (KC.region ?_)
    refine KO.pv (PV.assign rfl) rfl rfl ?_
    refine KO.nil ?_
    exact KC.ret ⟨rfl, _, rfl, _, rfl, rfl, fun h => by cases h⟩
  by_cases a2 : 1000 < first
  · refine KO.pv (PV.move rfl) rfl rfl ?_
    refine KO.pv (PV.lss rfl rfl) rfl rfl ?_
    rw [decide_eq_false a1]
    refine KO.pv (PV.move rfl) rfl rfl ?_
    refine KO.pv (PV.move rfl) rfl rfl ?_
    refine KO.pv (PV.gtr rfl rfl) rfl rfl ?_
    rw [decide_eq_true a2]
    refine KO.pv (PV.pickF rfl rfl rfl) rfl rfl ?_
    refine KO.pv (PV.move rfl) rfl rfl ?_
    refine KO.no rfl rfl rfl ?_
    refine KO.no rfl rfl rfl ?_
    refine KO.pv (PV.pickT rfl rfl rfl) rfl rfl ?_
    refine KO.pv (PV.assign rfl) rfl rfl ?_
    refine KO.nil ?_
    refine KC.cond rfl (fun _ => ?_) (fun hb => by cases hb)
    refine KC.seq (KC.region ?_)
    refine KO.pv (PV.assign rfl) rfl rfl ?_
    refine KO.nil ?_
    exact KC.ret ⟨rfl, _, rfl, _, rfl, rfl, fun h => by cases h⟩
  by_cases a3 : n < 0
  · refine KO.pv (PV.move rfl) rfl rfl ?_
    refine KO.pv (PV.lss rfl rfl) rfl rfl ?_
    rw [decide_eq_false a1]
    refine KO.pv (PV.move rfl) rfl rfl ?_
    refine KO.pv (PV.move rfl) rfl rfl ?_
    refine KO.pv (PV.gtr rfl rfl) rfl rfl ?_
    rw [decide_eq_false a2]
    refine KO.pv (PV.pickF rfl rfl rfl) rfl rfl ?_
    refine KO.pv (PV.move rfl) rfl rfl ?_
    refine KO.pv (PV.move rfl) rfl rfl ?_
    refine KO.pv (PV.lss rfl rfl) rfl rfl ?_
    rw [decide_eq_true a3]
    refine KO.pv (PV.pickF rfl rfl rfl) rfl rfl ?_
    refine KO.pv (PV.assign rfl) rfl rfl ?_
    refine KO.nil ?_
    refine KC.cond rfl (fun _ => ?_) (fun hb => by cases hb)
    refine KC.seq (KC.region ?_)
    refine KO.pv (PV.assign rfl) rfl rfl ?_
    refine KO.nil ?_
    exact KC.ret ⟨rfl, _, rfl, _, rfl, rfl, fun h => by cases h⟩
  refine KO.pv (PV.move rfl) rfl rfl ?_
  refine KO.pv (PV.lss rfl rfl) rfl rfl ?_
  rw [decide_eq_false a1]
  refine KO.pv (PV.move rfl) rfl rfl ?_
  refine KO.pv (PV.move rfl) rfl rfl ?_
  refine KO.pv (PV.gtr rfl rfl) rfl rfl ?_
  rw [decide_eq_false a2]
  refine KO.pv (PV.pickF rfl rfl rfl) rfl rfl ?_
  refine KO.pv (PV.move rfl) rfl rfl ?_
  refine KO.pv (PV.move rfl) rfl rfl ?_
  refine KO.pv (PV.lss rfl rfl) rfl rfl ?_
  rw [decide_eq_false a3]
  refine KO.pv (PV.pickF rfl rfl rfl) rfl rfl ?_
  refine KO.pv (PV.assign rfl) rfl rfl ?_
  refine KO.nil ?_
  refine KC.cond rfl (fun hb => by cases hb) (fun _ => ?_)
  refine KC.seq (KC.region ?_)
  refine KO.pv (PV.move rfl) rfl rfl ?_
  refine KO.pv (PV.move rfl) rfl rfl ?_
  refine KO.pv (PV.sub rfl rfl ((show _ = 1000 - first from wrap64 (by omega) (by omega)))) rfl rfl ?_
  refine KO.pv (PV.add rfl rfl ((show _ = 1001 - first from (wrap64 (by omega) (by omega)).trans (by omega)))) rfl rfl ?_
  refine KO.pv (PV.gtr rfl rfl) rfl rfl ?_
  refine KO.pv (PV.assign rfl) rfl rfl ?_
  refine KO.nil ?_
  refine KC.cond rfl (fun hb => ?_) (fun hb => ?_)
  · refine KC.seq (KC.region ?_)
    refine KO.pv (PV.assign rfl) rfl rfl ?_
    refine KO.nil ?_
    exact KC.ret ⟨rfl, _, rfl, _, rfl, rfl, fun h => by cases h⟩
  · have hb' : ¬ (1001 - first < n) := by simpa using hb
    refine KC.skip ?_
    refine KC.seq (KC.region ?_)
    refine KO.pv (PV.assign rfl) rfl rfl ?_
    refine KO.nil ?_
    exact KC.ret ⟨rfl, _, rfl, _, rfl, rfl, fun _ => ⟨by omega, by omega, by omega, by omega⟩⟩

theorem deltas_Write (H : AHeap) (n : Int) : WF E0 89 [.int .i64 n] H fun q => ∃ (v : Value) (e : Int) (us : List Int) (D : List Nat), q.1 = .tuple #[v, .int .i64 e] ∧ Lst q.2 5 1 v (us.map (Value.int .u8)) D ∧ (∀ u ∈ us, IntKind.u8.wrap u = u) ∧ us.length ≤ 5 ∧ Frh H q.2 ∧ ∀ j ∈ D, H.next ≤ j ∧ j < q.2.next := by
  have bad : ∀ e : Int, ∃ (v : Value) (e' : Int) (us : List Int) (D : List Nat), Value.tuple #[.slice none 0 0, .int .i64 e] = .tuple #[v, .int .i64 e'] ∧ Lst H 5 1 v (us.map (Value.int .u8)) D ∧ (∀ u ∈ us, IntKind.u8.wrap u = u) ∧ us.length ≤ 5 ∧ Frh H H ∧ ∀ j ∈ D, H.next ≤ j ∧ j < H.next :=
    fun e => ⟨_, _, [], [], rfl, .nil, fun _ h => absurd h List.not_mem_nil, by simp, .refl, fun _ h => absurd h List.not_mem_nil⟩
  refine WF.k Tryz.func89 rfl rfl ?_
  refine KC.seq (KC.region ?_)
  refine KO.pv (PV.assign rfl) rfl rfl ?_
  refine KO.pv (PV.assign rfl) rfl rfl ?_
  refine KO.nil ?_
  refine KC.seq (KC.seq (KC.region ?_))
  by_cases a1 : n < 0
  · refine KO.pv (PV.move rfl) rfl rfl ?_
    refine KO.pv (PV.lss rfl rfl) rfl rfl ?_
    rw [decide_eq_true a1]
    refine KO.pv (PV.move rfl) rfl rfl ?_
    refine KO.no rfl rfl rfl ?_
    refine KO.no rfl rfl rfl ?_
    refine KO.pv (PV.pickT rfl rfl rfl) rfl rfl ?_
    refine KO.nil ?_
    refine KC.cond rfl (fun _ => ?_) (fun hb => by cases hb)
    refine KC.seq (KC.region ?_)
    refine KO.pv (PV.assign rfl) rfl rfl ?_
    refine KO.pv (PV.assign rfl) rfl rfl ?_
    refine KO.nil ?_
    exact KC.ret ⟨rfl, _, rfl, bad _⟩
  by_cases a2 : 2147483647 < n
  · refine KO.pv (PV.move rfl) rfl rfl ?_
    refine KO.pv (PV.lss rfl rfl) rfl rfl ?_
    rw [decide_eq_false a1]
    refine KO.pv (PV.move rfl) rfl rfl ?_
    refine KO.pv (PV.move rfl) rfl rfl ?_
    refine KO.pv (PV.gtr rfl rfl) rfl rfl ?_
    rw [decide_eq_true a2]
    refine KO.pv (PV.pickF rfl rfl rfl) rfl rfl ?_
    refine KO.nil ?_
    refine KC.cond rfl (fun _ => ?_) (fun hb => by cases hb)
    refine KC.seq (KC.region ?_)
    refine KO.pv (PV.assign rfl) rfl rfl ?_
    refine KO.pv (PV.assign rfl) rfl rfl ?_
    refine KO.nil ?_
    exact KC.ret ⟨rfl, _, rfl, bad _⟩
  refine KO.pv (PV.move rfl) rfl rfl ?_
  refine KO.pv (PV.lss rfl rfl) rfl rfl ?_
  rw [decide_eq_false a1]
  refine KO.pv (PV.move rfl) rfl rfl ?_
  refine KO.pv (PV.move rfl) rfl rfl ?_
  refine KO.pv (PV.gtr rfl rfl) rfl rfl ?_
  rw [decide_eq_false a2]
  refine KO.pv (PV.pickF rfl rfl rfl) rfl rfl ?_
  refine KO.nil ?_
  refine KC.cond rfl (fun hb => by cases hb) (fun _ => KC.skip ?_)
  clear bad
  obtain ⟨m, rfl⟩ : ∃ m : Nat, n = m := ⟨n.toNat, by omega⟩
  refine KC.seq (KC.region ?_)
  refine KO.pv (PV.assign rfl) rfl rfl ?_
  refine KO.nil ?_
  refine KC.sub (l' := [(0, .int .i64 (m : Int)), (4, .slice none 0 0)]) (.cons rfl (.cons rfl .nil)) (KC.seq ?_)
  refine KC.block (KC.loopN (fun k l A => ∃ (z : Nat) (v : Value) (us : List Int) (D : List Nat), k = z ∧ l = [(0, .int .i64 (z : Int)), (4, v)] ∧ Lst A 5 1 v (us.map (Value.int .u8)) D ∧ (∀ u ∈ us, IntKind.u8.wrap u = u) ∧ Frh H A ∧ (∀ j ∈ D, H.next ≤ j ∧ j < A.next) ∧
    ((us.length = 0 ∧ z ≤ 2147483647) ∨ (us.length = 1 ∧ z ≤ 16777215) ∨ (us.length = 2 ∧ z ≤ 131071) ∨ (us.length = 3 ∧ z ≤ 1023) ∨ (us.length = 4 ∧ z ≤ 7))) ?_ m ⟨m, _, [], [], rfl, rfl, .nil, fun _ h => absurd h List.not_mem_nil, .refl, fun _ h => absurd h List.not_mem_nil, .inl ⟨rfl, by omega⟩⟩)
  rintro k l A ⟨z, v, us, D, rfl, rfl, hL, hus, hF, hD, hz⟩
  refine KC.seq (KC.seq (KC.region ?_))
  refine KO.pv (PV.move rfl) rfl rfl ?_
  refine KO.pv (PV.geq rfl rfl) rfl rfl ?_
  refine KO.nil ?_
  refine KC.cond rfl (fun hb => KC.skip ?_) (fun hb => KC.exit ?_)
  · have hz1 : 128 ≤ k := by simp at hb; omega
    refine KC.seq (KC.block (KC.region ?_))
    refine KO.pv (PV.move rfl) rfl rfl ?_
    refine KO.pv (PV.move rfl) rfl rfl ?_
    refine KO.pv (PV.convert un3 un5 rfl) rfl rfl ?_
    refine KO.bits (.inr (.inl rfl)) rfl rfl rfl rfl fun nb hnb => ?_
    refine KO.buildSlice el68 ez5 rfl rfl (rfl) rfl rfl fun B n1 => ?_
    have hall : (us.map (Value.int .u8)).all oneC = true := by simp [List.all_map, oneC]
    refine KO.append el68 ez5 sb5 un68 rfl rfl ((hL.frame fun j hj => by rw [n1.row, if_neg (by have := hD j hj; omega)])) ((newElems_one (n1.row _ ▸ if_pos rfl) rfl rfl)) (rfl) (hall) ((by simp only [List.length_map, List.length_cons, List.length_nil]; omega)) rfl rfl fun v2 C D2 k1 k2 k3 k4 => ?_
    refine KO.pv (PV.assign rfl) rfl rfl ?_
    refine KO.nil ?_
    refine KC.region ?_
    refine KO.pv (PV.move rfl) rfl rfl ?_
    refine KO.pv (PV.shr rfl rfl ((by decide))) rfl rfl ?_
    rw [show Int.fdiv (k : Int) (2 ^ (min (7 : Int).toNat IntKind.i64.bits)) = ((k / 128 : Nat) : Int) from fdiv_nat k 128]
    refine KO.pv (PV.assign rfl) rfl rfl ?_
    refine KO.nil ?_
    have hn1 := n1.next
    refine ⟨k / 128, _, by omega, .cons rfl (.cons rfl .nil), k / 128, v2, us ++ [nb], D2, rfl, rfl, by rw [List.map_append]; exact k1, ?_, (hF.trans (.new n1)).app k2 k3 (fun j hj => (hD j hj).1), fun j hj => ?_, ?_⟩
    · intro u hu
      rcases List.mem_append.1 hu with h | h
      · exact hus u h
      · simp only [List.mem_singleton] at h; rw [h]; exact hnb
    · rcases k4 j hj with h | h
      · have := hD j h; omega
      · have := hF.1; omega
    · simp only [List.length_append, List.length_singleton]; omega
  refine KC.seq (KC.region ?_)
  refine KO.pv (PV.move rfl) rfl rfl ?_
  refine KO.pv (PV.move rfl) rfl rfl ?_
  refine KO.pv (PV.convert un3 un5 rfl) rfl rfl ?_
  refine KO.buildSlice el68 ez5 rfl rfl (rfl) rfl rfl fun B n1 => ?_
  have hall : (us.map (Value.int .u8)).all oneC = true := by simp [List.all_map, oneC]
  refine KO.append el68 ez5 sb5 un68 rfl rfl ((hL.frame fun j hj => by rw [n1.row, if_neg (by have := hD j hj; omega)])) ((newElems_one (n1.row _ ▸ if_pos rfl) rfl rfl)) (rfl) (hall) ((by simp only [List.length_map, List.length_cons, List.length_nil]; omega)) rfl rfl fun v2 C D2 k1 k2 k3 k4 => ?_
  refine KO.pv (PV.assign rfl) rfl rfl ?_
  refine KO.pv (PV.assign rfl) rfl rfl ?_
  refine KO.nil ?_
  have hn1 := n1.next
  refine KC.ret ⟨rfl, _, rfl, v2, 0, us ++ [IntKind.u8.wrap (k : Int)], D2, rfl, by rw [List.map_append]; exact k1, ?_, by simp only [List.length_append, List.length_singleton]; omega, (hF.trans (.new n1)).app k2 k3 (fun j hj => (hD j hj).1), fun j hj => ?_⟩
  · intro u hu
    rcases List.mem_append.1 hu with h | h
    · exact hus u h
    · simp only [List.mem_singleton] at h; rw [h]; exact wrap_wrap _ _
  · rcases k4 j hj with h | h
    · have := hD j h; show H.next ≤ j ∧ j < C.next; omega
    · have := hF.1; show H.next ≤ j ∧ j < C.next; omega

/-- So many bytes can be read. -/
def U8s (H : AHeap) (a : Option Addr) (len : Nat) : Prop := len = 0 ∨ ∃ b off sp r, a = some ⟨b, off, sp⟩ ∧ H.row b = some r ∧ ∀ i, i < len → ∃ u : Int, r.cs[off + i]? = some (.int .u8 u)
theorem deltas_Read (H : AHeap) (a : Option Addr) (len cap : Nat) (hU : U8s H a len) (hlen : len ≤ 1000000000) : WF E0 92 [.slice a len cap] H fun q => ∃ (n z e : Int), q.1 = .tuple #[.int .i64 n, .int .i64 z, .int .i64 e] ∧ q.2 = H ∧ (e = 0 → 1 ≤ z ∧ z ≤ len) := by
  refine WF.k Tryz.func92 rfl rfl ?_
  refine KC.seq (KC.region ?_)
  refine KO.pv (PV.assign rfl) rfl rfl ?_
  refine KO.pv (PV.assign rfl) rfl rfl ?_
  refine KO.pv (PV.assign rfl) rfl rfl ?_
  refine KO.nil ?_
  refine KC.seq (KC.seq (KC.region ?_))
  refine KO.pv (PV.move rfl) rfl rfl ?_
  refine KO.pv (PV.len un68 rfl) rfl rfl ?_
  refine KO.pv (PV.move rfl) rfl rfl ?_
  refine KO.nil ?_
  refine KC.sub (l' := [(0, .slice a len cap), (2, .int .i64 0), (7, .slice a len cap), (8, .int .i64 (len : Int)), (9, .int .i64 ((0 : Nat) : Int))]) (.cons rfl (.cons rfl (.cons rfl (.cons rfl (.cons rfl .nil))))) ?_
  refine KC.block (KC.mono (Q := fun e l' H' => match e with
    | .exit 0 => Sub [(0, .slice a len cap)] l' ∧ H' = H
    | .ret => ∃ (n z e : Int), Sub [(2, .int .i64 n), (3, .int .i64 z), (4, .int .i64 e)] l' ∧ H' = H ∧ (e = 0 → 1 ≤ z ∧ z ≤ len)
    | _ => False) ?_ ?_)
  · refine KC.loopN (fun k l A => ∃ (i : Nat) (x : Int), i + k = len ∧ l = [(0, .slice a len cap), (2, .int .i64 x), (7, .slice a len cap), (8, .int .i64 (len : Int)), (9, .int .i64 (i : Int))] ∧ A = H) ?_ len ⟨0, 0, by omega, rfl, rfl⟩
    rintro k l A ⟨i, x, hik, rfl, rfl⟩
    refine KC.seq (KC.region ?_)
    refine KO.pv (PV.lss rfl rfl) rfl rfl ?_
    refine KO.nil ?_
    refine KC.seq (KC.cond rfl (fun hb => KC.skip ?_) (fun hb => KC.exit ?_))
    rotate_left
    · exact ⟨.cons rfl .nil, rfl⟩
    have hi : i < len := by simpa using hb
    rcases hU with hU | ⟨b, off, sp, r, rfl, hr, hcs⟩
    · omega
    obtain ⟨u, hu⟩ := hcs i hi
    refine KC.seq (KC.block (KC.seq (KC.region ?_)))
    refine KO.pv (PV.move rfl) rfl rfl ?_
    refine KO.pv (PV.indexAddr un68 sz5 rfl rfl (hi)) rfl rfl ?_
    refine KO.load1 ag5 rfl (hr) ((by rw [Nat.mul_one]; exact hu)) rfl rfl ?_
    refine KO.pv (PV.assign rfl) rfl rfl ?_
    refine KO.pv (PV.assign rfl) rfl rfl ?_
    refine KO.nil ?_
    refine KC.seq (KC.seq (KC.region ?_))
    refine KO.pv (PV.move rfl) rfl rfl ?_
    refine KO.pv (PV.eql rfl rfl) rfl rfl ?_
    refine KO.nil ?_
    refine KC.cond rfl (fun hb => KC.exit ?_) (fun hb => KC.skip ?_)
    · exact ⟨.cons rfl .nil, rfl⟩
    refine KC.seq (KC.region ?_)
    refine KO.pv (PV.move rfl) rfl rfl ?_
    refine KO.pv (PV.move rfl) rfl rfl ?_
    refine KO.bits (.inl rfl) rfl rfl rfl rfl fun n1 hn1 => ?_
    refine KO.pv (PV.convert un5 un3 rfl) rfl rfl ?_
    refine KO.pv (PV.move rfl) rfl rfl ?_
    refine KO.pv (PV.mul rfl rfl ((show _ = ((7 * i : Nat) : Int) from (wrap64 (by omega) (by omega)).trans (by omega)))) rfl rfl ?_
    refine KO.pv (PV.shl rfl rfl ((by omega))) rfl rfl ?_
    refine KO.bits (.inr (.inl rfl)) rfl rfl rfl rfl fun n2 hn2 => ?_
    refine KO.pv (PV.assign rfl) rfl rfl ?_
    refine KO.nil ?_
    refine KC.seq (KC.seq (KC.region ?_))
    refine KO.pv (PV.move rfl) rfl rfl ?_
    refine KO.pv (PV.geq rfl rfl) rfl rfl ?_
    refine KO.nil ?_
    refine KC.cond rfl (fun hb => KC.exit ?_) (fun hb => KC.skip ?_)
    · refine KC.region ?_
      refine KO.pv (PV.add rfl rfl ((show _ = ((i + 1 : Nat) : Int) from wrap64 (by omega) (by omega)))) rfl rfl ?_
      refine KO.pv (PV.move rfl) rfl rfl ?_
      refine KO.nil ?_
      exact ⟨k - 1, _, by omega, .cons rfl (.cons rfl (.cons rfl (.cons rfl (.cons rfl .nil)))), i + 1, n2, by omega, rfl, rfl⟩
    refine KC.seq (KC.block (KC.seq (KC.region ?_)))
    refine KO.pv (PV.move rfl) rfl rfl ?_
    refine KO.pv (PV.gtr rfl rfl) rfl rfl ?_
    refine KO.pv (PV.assign rfl) rfl rfl ?_
    refine KO.nil ?_
    refine KC.cond rfl (fun hb => ?_) (fun hb => ?_)
    · refine KC.seq (KC.region ?_)
      refine KO.pv (PV.assign rfl) rfl rfl ?_
      refine KO.pv (PV.assign rfl) rfl rfl ?_
      refine KO.pv (PV.assign rfl) rfl rfl ?_
      refine KO.nil ?_
      exact KC.ret ⟨_, _, _, .cons rfl (.cons rfl (.cons rfl .nil)), rfl, fun h => by cases h⟩
    refine KC.seq (KC.region ?_)
    by_cases h1 : u = 0
    · have e1 : (u == 0) = true := by simp [h1]
      by_cases h2 : (0 : Int) < (i : Int)
      · refine KO.pv (PV.move rfl) rfl rfl ?_
        refine KO.pv (PV.eql rfl rfl) rfl rfl ?_
        rw [e1]
        refine KO.pv (PV.move rfl) rfl rfl ?_
        refine KO.pv (PV.move rfl) rfl rfl ?_
        refine KO.pv (PV.gtr rfl rfl) rfl rfl ?_
        rw [decide_eq_true h2]
        refine KO.pv (PV.pickT rfl rfl rfl) rfl rfl ?_
        refine KO.pv (PV.assign rfl) rfl rfl ?_
        refine KO.nil ?_
        refine KC.cond rfl (fun _ => ?_) (fun hb => by cases hb)
        refine KC.seq (KC.region ?_)
        refine KO.pv (PV.assign rfl) rfl rfl ?_
        refine KO.pv (PV.assign rfl) rfl rfl ?_
        refine KO.pv (PV.assign rfl) rfl rfl ?_
        refine KO.nil ?_
        exact KC.ret ⟨_, _, _, .cons rfl (.cons rfl (.cons rfl .nil)), rfl, fun h => by cases h⟩
      · refine KO.pv (PV.move rfl) rfl rfl ?_
        refine KO.pv (PV.eql rfl rfl) rfl rfl ?_
        rw [e1]
        refine KO.pv (PV.move rfl) rfl rfl ?_
        refine KO.pv (PV.move rfl) rfl rfl ?_
        refine KO.pv (PV.gtr rfl rfl) rfl rfl ?_
        rw [decide_eq_false h2]
        refine KO.pv (PV.pickT rfl rfl rfl) rfl rfl ?_
        refine KO.pv (PV.assign rfl) rfl rfl ?_
        refine KO.nil ?_
        refine KC.cond rfl (fun hb => by cases hb) (fun _ => KC.skip ?_)
        refine KC.seq (KC.region ?_)
        refine KO.pv (PV.move rfl) rfl rfl ?_
        refine KO.pv (PV.move rfl) rfl rfl ?_
        refine KO.pv (PV.add rfl rfl ((show _ = (i : Int) + 1 from wrap64 (by omega) (by omega)))) rfl rfl ?_
        refine KO.pv (PV.assign rfl) rfl rfl ?_
        refine KO.pv (PV.assign rfl) rfl rfl ?_
        refine KO.pv (PV.assign rfl) rfl rfl ?_
        refine KO.nil ?_
        exact KC.ret ⟨_, _, _, .cons rfl (.cons rfl (.cons rfl .nil)), rfl, fun _ => ⟨by omega, by omega⟩⟩
    · have e1 : (u == 0) = false := by simp [h1]
      refine KO.pv (PV.move rfl) rfl rfl ?_
      refine KO.pv (PV.eql rfl rfl) rfl rfl ?_
      rw [e1]
      refine KO.pv (PV.move rfl) rfl rfl ?_
      refine KO.no rfl rfl rfl ?_
      refine KO.no rfl rfl rfl ?_
      refine KO.pv (PV.pickF rfl rfl rfl) rfl rfl ?_
      refine KO.pv (PV.assign rfl) rfl rfl ?_
      refine KO.nil ?_
      refine KC.cond rfl (fun hb => by cases hb) (fun _ => KC.skip ?_)
      refine KC.seq (KC.region ?_)
      refine KO.pv (PV.move rfl) rfl rfl ?_
      refine KO.pv (PV.move rfl) rfl rfl ?_
      refine KO.pv (PV.add rfl rfl ((show _ = (i : Int) + 1 from wrap64 (by omega) (by omega)))) rfl rfl ?_
      refine KO.pv (PV.assign rfl) rfl rfl ?_
      refine KO.pv (PV.assign rfl) rfl rfl ?_
      refine KO.pv (PV.assign rfl) rfl rfl ?_
      refine KO.nil ?_
      exact KC.ret ⟨_, _, _, .cons rfl (.cons rfl (.cons rfl .nil)), rfl, fun _ => ⟨by omega, by omega⟩⟩
  · intro e l' H' he
    match e, he with
    | .exit 0, he =>
      obtain ⟨hs, rfl⟩ := he
      refine KC.sub hs (KC.seq (KC.seq (KC.region ?_)))
      refine KO.pv (PV.move rfl) rfl rfl ?_
      refine KO.pv (PV.len un68 rfl) rfl rfl ?_
      refine KO.pv (PV.lss rfl rfl) rfl rfl ?_
      refine KO.nil ?_
      refine KC.cond rfl (fun _ => ?_) (fun _ => KC.skip ?_)
      · refine KC.seq (KC.region ?_)
        refine KO.pv (PV.assign rfl) rfl rfl ?_
        refine KO.pv (PV.assign rfl) rfl rfl ?_
        refine KO.pv (PV.assign rfl) rfl rfl ?_
        refine KO.nil ?_
        exact KC.ret ⟨rfl, _, rfl, _, _, _, rfl, rfl, fun h => by cases h⟩
      · refine KC.seq (KC.region ?_)
        refine KO.pv (PV.assign rfl) rfl rfl ?_
        refine KO.pv (PV.assign rfl) rfl rfl ?_
        refine KO.pv (PV.assign rfl) rfl rfl ?_
        refine KO.nil ?_
        exact KC.ret ⟨rfl, _, rfl, _, _, _, rfl, rfl, fun h => by cases h⟩
    | .ret, he =>
      obtain ⟨n, z, e, hs, rfl, hz⟩ := he
      exact ⟨rfl, [.int .i64 n, .int .i64 z, .int .i64 e], by
        have k1 : lk l' 2 = some (.int .i64 n) := hs (2, _) (by simp)
        have k2 : lk l' 3 = some (.int .i64 z) := hs (3, _) (by simp)
        have k3 : lk l' 4 = some (.int .i64 e) := hs (4, _) (by simp)
        show kres l' [.tmp 2, .tmp 3, .tmp 4] = _
        simp only [kres, k1, k2, k3, Option.bind_some, Option.map_some], n, z, e, rfl, rfl, hz⟩

end Go.Eng

namespace Go.Eng
open Go Go.Proofs
theorem bld195 (a b : Int) : buildA E0.P 195 [(0, .int .i64 a), (1, .int .i64 b)] = some (.agg #[.int .i64 a, .int .i64 b]) := by kernel_rfl
/-- Bytes that grew in new memory. -/
structure U8L (H0 A : AHeap) (v : Value) (us : List Int) (D : List Nat) : Prop where
  l : Lst A 5 1 v (us.map (Value.int .u8)) D
  w : ∀ u ∈ us, IntKind.u8.wrap u = u
  f : Frh H0 A
  d : ∀ j ∈ D, H0.next ≤ j ∧ j < A.next
theorem U8L.frame {H0 A B : AHeap} {v : Value} {us : List Int} {D : List Nat} (h : U8L H0 A v us D) (k : Frh A B) : U8L H0 B v us D :=
  ⟨h.l.frame fun j hj => k.2 j (h.d j hj).2, h.w, h.f.trans k, fun j hj => ⟨(h.d j hj).1, Nat.lt_of_lt_of_le (h.d j hj).2 k.1⟩⟩
theorem u8_one (us : List Int) : (us.map (Value.int .u8)).all oneC = true := by simp [List.all_map, oneC]
/-- So many gates can be read. -/
def Ands (H : AHeap) (a : Option Addr) (len : Nat) : Prop := len = 0 ∨ ∃ b off sp r, a = some ⟨b, off, sp⟩ ∧ b < H.next ∧ H.row b = some r ∧ ∀ i, i < len → ∃ x y : Int, r.cs[off + i * 2]? = some (.int .i64 x) ∧ r.cs[off + i * 2 + 1]? = some (.int .i64 y)

theorem deltas_Pack (H : AHeap) (first : Int) (a : Option Addr) (len cap : Nat) (hU : Ands H a len) (hlen : len ≤ 1000000000) : WF E0 94 [.int .i64 first, .slice a len cap] H fun q => ∃ (v : Value) (e : Int) (us : List Int) (D : List Nat), q.1 = .tuple #[v, .int .i64 e] ∧ U8L H q.2 v us D ∧ us.length ≤ 100000 := by
  have bad : ∀ (B : AHeap) (e : Int), Frh H B → ∃ (v : Value) (e' : Int) (us : List Int) (D : List Nat), Value.tuple #[.slice none 0 0, .int .i64 e] = .tuple #[v, .int .i64 e'] ∧ U8L H B v us D ∧ us.length ≤ 100000 :=
    fun B e hB => ⟨_, _, [], [], rfl, ⟨.nil, fun _ h => absurd h List.not_mem_nil, hB, fun _ h => absurd h List.not_mem_nil⟩, by simp⟩
  refine WF.k Tryz.func94 rfl rfl ?_
  refine KC.seq (KC.region ?_)
  refine KO.pv (PV.assign rfl) rfl rfl ?_
  refine KO.pv (PV.assign rfl) rfl rfl ?_
  refine KO.nil ?_
  refine KC.seq (KC.seq (KC.region ?_))
  refine KO.pv (PV.move rfl) rfl rfl ?_
  refine KO.pv (PV.move rfl) rfl rfl ?_
  refine KO.pv (PV.len un47 rfl) rfl rfl ?_
  refine KO.call rfl rfl rfl rfl ((deltas_check H first len)) fun v0 H0 q0 => ?_
  obtain ⟨e0, hv0, hH0, hok⟩ := q0
  dsimp only at hv0 hH0
  subst hv0
  subst hH0
  refine KO.pv (PV.assign rfl) rfl rfl ?_
  refine KO.nil ?_
  refine KC.seq (KC.region ?_)
  refine KO.pv (PV.move rfl) rfl rfl ?_
  refine KO.pv (PV.neq rfl rfl) rfl rfl ?_
  refine KO.nil ?_
  refine KC.cond rfl (fun _ => ?_) (fun hb => KC.skip ?_)
  · refine KC.seq (KC.region ?_)
    refine KO.pv (PV.move rfl) rfl rfl ?_
    refine KO.pv (PV.assign rfl) rfl rfl ?_
    refine KO.pv (PV.assign rfl) rfl rfl ?_
    refine KO.nil ?_
    exact KC.ret ⟨rfl, _, rfl, bad _ _ .refl⟩
  have he0 : e0 = 0 := by simpa using hb
  obtain ⟨hf1, hf2, hf3, hf4⟩ := hok he0
  clear hok hf3
  refine KC.seq (KC.region ?_)
  refine KO.pv (PV.assign rfl) rfl rfl ?_
  refine KO.nil ?_
  refine KC.seq (KC.seq (KC.region ?_))
  refine KO.pv (PV.move rfl) rfl rfl ?_
  refine KO.pv (PV.len un47 rfl) rfl rfl ?_
  refine KO.pv (PV.move rfl) rfl rfl ?_
  refine KO.nil ?_
  refine KC.sub (l' := [(0, .int .i64 first), (7, .slice none 0 0), (22, .slice a len cap), (23, .int .i64 (len : Int)), (24, .int .i64 ((0 : Nat) : Int))]) (.cons rfl (.cons rfl (.cons rfl (.cons rfl (.cons rfl .nil))))) ?_
  refine KC.block (KC.loopN (fun k l A => ∃ (i : Nat) (v : Value) (us : List Int) (D : List Nat), i + k = len ∧ l = [(0, .int .i64 first), (7, v), (22, .slice a len cap), (23, .int .i64 (len : Int)), (24, .int .i64 (i : Int))] ∧ U8L H0 A v us D ∧ us.length ≤ 10 * i) ?_ len ⟨0, _, [], [], by omega, rfl, ⟨.nil, fun _ h => absurd h List.not_mem_nil, .refl, fun _ h => absurd h List.not_mem_nil⟩, by simp⟩)
  rintro k l A ⟨i, v, us, D, hik, rfl, hL, hul⟩
  refine KC.seq (KC.region ?_)
  refine KO.pv (PV.lss rfl rfl) rfl rfl ?_
  refine KO.nil ?_
  refine KC.seq (KC.cond rfl (fun hb => KC.skip ?_) (fun hb => KC.exit ?_))
  rotate_left
  · refine KC.seq (KC.region ?_)
    refine KO.pv (PV.move rfl) rfl rfl ?_
    refine KO.pv (PV.assign rfl) rfl rfl ?_
    refine KO.pv (PV.assign rfl) rfl rfl ?_
    refine KO.nil ?_
    exact KC.ret ⟨rfl, _, rfl, _, _, _, _, rfl, hL, by omega⟩
  have hi : i < len := by simpa using hb
  rcases hU with hU | ⟨b, off, sp, r, rfl, hbH, hr, hcs⟩
  · omega
  obtain ⟨x, y, hx, hy⟩ := hcs i hi
  refine KC.seq (KC.block (KC.seq (KC.region ?_)))
  refine KO.pv (PV.move rfl) rfl rfl ?_
  refine KO.pv (PV.indexAddr un47 sz164 rfl rfl (hi)) rfl rfl ?_
  refine KO.loadN ag164 sz164 rfl (((hL.f.2 b hbH).trans hr)) ((take2 hx hy)) rfl rfl ?_
  refine KO.alloc zt164 rfl rfl fun B1 n1 => ?_
  have hr1 : B1.row A.next = some ⟨164, true, true, [.int .i64 0, .int .i64 0]⟩ := by rw [n1.row, if_pos rfl]
  refine KO.pv (PV.assign rfl) rfl rfl ?_
  refine KO.store rfl rfl sz164 (rfl) (hr1) (rfl) ((Nat.le_refl _)) rfl fun B u1 => ?_
  refine KO.nil ?_
  have hc : B.row A.next = some ⟨164, true, true, [.int .i64 x, .int .i64 y]⟩ := by rw [u1.row, if_pos rfl]; rfl
  have hAB : Frh A B := Frh.upd (.new n1) u1 (Nat.le_refl _)
  have hLB := hL.frame hAB
  refine KC.seq (KC.region ?_)
  refine KO.pv (PV.move rfl) rfl rfl ?_
  refine KO.pv (PV.move rfl) rfl rfl ?_
  refine KO.pv (PV.add rfl rfl ((show _ = first + i from wrap64 (by omega) (by omega)))) rfl rfl ?_
  refine KO.pv (PV.mul rfl rfl ((show _ = 2 * (first + i) from wrap64 (by omega) (by omega)))) rfl rfl ?_
  refine KO.pv (PV.assign rfl) rfl rfl ?_
  refine KO.nil ?_
  refine KC.seq (KC.seq (KC.region ?_))
  by_cases c1 : y < 0
  · refine KO.pv (PV.fieldAddr fo164_1 rfl) rfl rfl ?_
    refine KO.load1 ag3 rfl (hc) (rfl) rfl rfl ?_
    refine KO.pv (PV.lss rfl rfl) rfl rfl ?_
    rw [decide_eq_true c1]
    refine KO.pv (PV.move rfl) rfl rfl ?_
    refine KO.no rfl rfl rfl ?_
    refine KO.no rfl rfl rfl ?_
    refine KO.no rfl rfl rfl ?_
    refine KO.no rfl rfl rfl ?_
    refine KO.no rfl rfl rfl ?_
    refine KO.pv (PV.pickT rfl rfl rfl) rfl rfl ?_
    refine KO.pv (PV.move rfl) rfl rfl ?_
    refine KO.no rfl rfl rfl ?_
    refine KO.no rfl rfl rfl ?_
    refine KO.no rfl rfl rfl ?_
    refine KO.no rfl rfl rfl ?_
    refine KO.pv (PV.pickT rfl rfl rfl) rfl rfl ?_
    refine KO.nil ?_
    refine KC.cond rfl (fun _ => ?_) (fun hb => by cases hb)
    refine KC.seq (KC.region ?_)
    refine KO.pv (PV.assign rfl) rfl rfl ?_
    refine KO.pv (PV.assign rfl) rfl rfl ?_
    refine KO.nil ?_
    exact KC.ret ⟨rfl, _, rfl, bad _ _ hLB.f⟩
  by_cases c2 : x < y
  · refine KO.pv (PV.fieldAddr fo164_1 rfl) rfl rfl ?_
    refine KO.load1 ag3 rfl (hc) (rfl) rfl rfl ?_
    refine KO.pv (PV.lss rfl rfl) rfl rfl ?_
    rw [decide_eq_false c1]
    refine KO.pv (PV.move rfl) rfl rfl ?_
    refine KO.pv (PV.fieldAddr fo164_0 rfl) rfl rfl ?_
    refine KO.load1 ag3 rfl (hc) (rfl) rfl rfl ?_
    refine KO.pv (PV.fieldAddr fo164_1 rfl) rfl rfl ?_
    refine KO.load1 ag3 rfl (hc) (rfl) rfl rfl ?_
    refine KO.pv (PV.lss rfl rfl) rfl rfl ?_
    rw [decide_eq_true c2]
    refine KO.pv (PV.pickF rfl rfl rfl) rfl rfl ?_
    refine KO.pv (PV.move rfl) rfl rfl ?_
    refine KO.no rfl rfl rfl ?_
    refine KO.no rfl rfl rfl ?_
    refine KO.no rfl rfl rfl ?_
    refine KO.no rfl rfl rfl ?_
    refine KO.pv (PV.pickT rfl rfl rfl) rfl rfl ?_
    refine KO.nil ?_
    refine KC.cond rfl (fun _ => ?_) (fun hb => by cases hb)
    refine KC.seq (KC.region ?_)
    refine KO.pv (PV.assign rfl) rfl rfl ?_
    refine KO.pv (PV.assign rfl) rfl rfl ?_
    refine KO.nil ?_
    exact KC.ret ⟨rfl, _, rfl, bad _ _ hLB.f⟩
  by_cases c3 : x < 2 * (first + i)
  rotate_left
  · refine KO.pv (PV.fieldAddr fo164_1 rfl) rfl rfl ?_
    refine KO.load1 ag3 rfl (hc) (rfl) rfl rfl ?_
    refine KO.pv (PV.lss rfl rfl) rfl rfl ?_
    rw [decide_eq_false c1]
    refine KO.pv (PV.move rfl) rfl rfl ?_
    refine KO.pv (PV.fieldAddr fo164_0 rfl) rfl rfl ?_
    refine KO.load1 ag3 rfl (hc) (rfl) rfl rfl ?_
    refine KO.pv (PV.fieldAddr fo164_1 rfl) rfl rfl ?_
    refine KO.load1 ag3 rfl (hc) (rfl) rfl rfl ?_
    refine KO.pv (PV.lss rfl rfl) rfl rfl ?_
    rw [decide_eq_false c2]
    refine KO.pv (PV.pickF rfl rfl rfl) rfl rfl ?_
    refine KO.pv (PV.move rfl) rfl rfl ?_
    refine KO.pv (PV.fieldAddr fo164_0 rfl) rfl rfl ?_
    refine KO.load1 ag3 rfl (hc) (rfl) rfl rfl ?_
    refine KO.pv (PV.move rfl) rfl rfl ?_
    refine KO.pv (PV.geq rfl rfl) rfl rfl ?_
    rw [decide_eq_false c3]
    refine KO.pv (PV.pickF rfl rfl rfl) rfl rfl ?_
    refine KO.nil ?_
    refine KC.cond rfl (fun _ => ?_) (fun hb => by cases hb)
    refine KC.seq (KC.region ?_)
    refine KO.pv (PV.assign rfl) rfl rfl ?_
    refine KO.pv (PV.assign rfl) rfl rfl ?_
    refine KO.nil ?_
    exact KC.ret ⟨rfl, _, rfl, bad _ _ hLB.f⟩
  refine KO.pv (PV.fieldAddr fo164_1 rfl) rfl rfl ?_
  refine KO.load1 ag3 rfl (hc) (rfl) rfl rfl ?_
  refine KO.pv (PV.lss rfl rfl) rfl rfl ?_
  rw [decide_eq_false c1]
  refine KO.pv (PV.move rfl) rfl rfl ?_
  refine KO.pv (PV.fieldAddr fo164_0 rfl) rfl rfl ?_
  refine KO.load1 ag3 rfl (hc) (rfl) rfl rfl ?_
  refine KO.pv (PV.fieldAddr fo164_1 rfl) rfl rfl ?_
  refine KO.load1 ag3 rfl (hc) (rfl) rfl rfl ?_
  refine KO.pv (PV.lss rfl rfl) rfl rfl ?_
  rw [decide_eq_false c2]
  refine KO.pv (PV.pickF rfl rfl rfl) rfl rfl ?_
  refine KO.pv (PV.move rfl) rfl rfl ?_
  refine KO.pv (PV.fieldAddr fo164_0 rfl) rfl rfl ?_
  refine KO.load1 ag3 rfl (hc) (rfl) rfl rfl ?_
  refine KO.pv (PV.move rfl) rfl rfl ?_
  refine KO.pv (PV.geq rfl rfl) rfl rfl ?_
  rw [decide_eq_true c3]
  refine KO.pv (PV.pickF rfl rfl rfl) rfl rfl ?_
  refine KO.nil ?_
  refine KC.cond rfl (fun hb => by cases hb) (fun _ => KC.skip ?_)
  refine KC.seq (KC.region ?_)
  refine KO.pv (PV.move rfl) rfl rfl ?_
  refine KO.pv (PV.fieldAddr fo164_0 rfl) rfl rfl ?_
  refine KO.load1 ag3 rfl (hc) (rfl) rfl rfl ?_
  refine KO.pv (PV.sub rfl rfl ((show _ = 2 * (first + i) - x from wrap64 (by omega) (by omega)))) rfl rfl ?_
  refine KO.pv (PV.fieldAddr fo164_0 rfl) rfl rfl ?_
  refine KO.load1 ag3 rfl (hc) (rfl) rfl rfl ?_
  refine KO.pv (PV.fieldAddr fo164_1 rfl) rfl rfl ?_
  refine KO.load1 ag3 rfl (hc) (rfl) rfl rfl ?_
  refine KO.pv (PV.sub rfl rfl ((show _ = x - y from wrap64 (by omega) (by omega)))) rfl rfl ?_
  refine KO.pv (PV.build (rfl) ((bld195 _ _))) rfl rfl ?_
  refine KO.pv (PV.move rfl) rfl rfl ?_
  refine KO.nil ?_
  generalize 2 * (first + i) - x = p1 at *
  generalize x - y = p2 at *
  refine KC.sub (l' := [(0, .int .i64 first), (7, v), (22, .slice (some ⟨b, off, sp⟩) len cap), (23, .int .i64 (len : Int)), (24, .int .i64 (i : Int)), (58, .agg #[.int .i64 p1, .int .i64 p2]), (59, .int .i64 ((0 : Nat) : Int))]) (.cons rfl (.cons rfl (.cons rfl (.cons rfl (.cons rfl (.cons rfl (.cons rfl .nil))))))) ?_
  refine KC.block (KC.loopN (fun k2 l C => ∃ (j : Nat) (v : Value) (us : List Int) (D : List Nat), j + k2 = 2 ∧ l = [(0, .int .i64 first), (7, v), (22, .slice (some ⟨b, off, sp⟩) len cap), (23, .int .i64 (len : Int)), (24, .int .i64 (i : Int)), (58, .agg #[.int .i64 p1, .int .i64 p2]), (59, .int .i64 (j : Int))] ∧ U8L H0 C v us D ∧ us.length ≤ 10 * i + 5 * j) ?_ 2 ⟨0, v, us, D, by omega, rfl, hLB, by omega⟩)
  rintro kk l C ⟨j, v, us, D, hjk, rfl, hLC, hul⟩
  refine KC.seq (KC.region ?_)
  refine KO.pv (PV.lss rfl rfl) rfl rfl ?_
  refine KO.nil ?_
  refine KC.seq (KC.cond rfl (fun hb => KC.skip ?_) (fun hb => KC.exit ?_))
  rotate_left
  · have hj2 : ¬ (j : Int) < 2 := by simpa using hb
    refine KC.region ?_
    refine KO.pv (PV.add rfl rfl ((show _ = ((i + 1 : Nat) : Int) from wrap64 (by omega) (by omega)))) rfl rfl ?_
    refine KO.pv (PV.move rfl) rfl rfl ?_
    refine KO.nil ?_
    exact ⟨k - 1, _, by omega, .cons rfl (.cons rfl (.cons rfl (.cons rfl (.cons rfl .nil)))), i + 1, v, us, D, by omega, rfl, hLC, by omega⟩
  have hj : j < 2 := by have : (j : Int) < 2 := by simpa using hb
                        omega
  obtain ⟨p, hp⟩ : ∃ p : Int, [Value.int .i64 p1, .int .i64 p2][j * 1]? = some (.int .i64 p) := by
    match j, hj with
    | 0, _ => exact ⟨p1, rfl⟩
    | 1, _ => exact ⟨p2, rfl⟩
  refine KC.seq (KC.block (KC.seq (KC.region ?_)))
  refine KO.pv (PV.index un195 sz3 rfl (rfl) (hj) ((by rw [read1 ag3]; exact hp))) rfl rfl ?_
  refine KO.pv (PV.assign rfl) rfl rfl ?_
  refine KO.nil ?_
  refine KC.seq (KC.region ?_)
  refine KO.pv (PV.move rfl) rfl rfl ?_
  refine KO.call rfl rfl rfl rfl ((deltas_Write C p)) fun v1 C1 q1 => ?_
  obtain ⟨w, e1, us1, D1, hv1, hw1, hw2, hw3, hw4, hw5⟩ := q1
  dsimp only at hv1 hw1 hw4 hw5
  subst hv1
  refine KO.pv (PV.move rfl) rfl rfl ?_
  refine KO.pv (PV.extract rfl rfl) rfl rfl ?_
  refine KO.pv (PV.extract rfl rfl) rfl rfl ?_
  refine KO.pv (PV.assign rfl) rfl rfl ?_
  refine KO.pv (PV.assign rfl) rfl rfl ?_
  refine KO.nil ?_
  refine KC.seq (KC.seq (KC.region ?_))
  refine KO.pv (PV.move rfl) rfl rfl ?_
  refine KO.pv (PV.neq rfl rfl) rfl rfl ?_
  refine KO.nil ?_
  refine KC.cond rfl (fun _ => ?_) (fun hb => KC.skip ?_)
  · refine KC.seq (KC.region ?_)
    refine KO.pv (PV.move rfl) rfl rfl ?_
    refine KO.pv (PV.assign rfl) rfl rfl ?_
    refine KO.pv (PV.assign rfl) rfl rfl ?_
    refine KO.nil ?_
    exact KC.ret ⟨rfl, _, rfl, bad _ _ (hLC.f.trans hw4)⟩
  refine KC.region ?_
  have hLC1 := hLC.frame hw4
  refine KO.pv (PV.move rfl) rfl rfl ?_
  refine KO.pv (PV.move rfl) rfl rfl ?_
  refine KO.append el68 ez5 sb5 un68 rfl rfl (hLC1.l) ((hw1.new (u8_one us1) us1.length (by simp) (by decide))) ((by simp)) ((u8_one us)) ((by simp only [List.length_map]; omega)) rfl rfl fun v2 C2 D2 k1 k2 k3 k4 => ?_
  refine KO.pv (PV.assign rfl) rfl rfl ?_
  refine KO.nil ?_
  refine KC.region ?_
  refine KO.pv (PV.add rfl rfl ((show _ = ((j + 1 : Nat) : Int) from wrap64 (by omega) (by omega)))) rfl rfl ?_
  refine KO.pv (PV.move rfl) rfl rfl ?_
  refine KO.nil ?_
  refine ⟨kk - 1, _, by omega, .cons rfl (.cons rfl (.cons rfl (.cons rfl (.cons rfl (.cons rfl (.cons rfl .nil)))))), j + 1, v2, us ++ us1, D2, by omega, rfl, ⟨by rw [List.map_append]; exact k1, ?_, hLC1.f.app k2 k3 fun j hj => (hLC1.d j hj).1, fun j hj => ?_⟩, by rw [List.length_append]; omega⟩
  · intro u hu
    rcases List.mem_append.1 hu with h | h
    · exact hLC.w u h
    · exact hw2 u h
  · rcases k4 j hj with h | h
    · have := hLC1.d j h; omega
    · have := hLC1.f.1; omega

end Go.Eng

namespace Go.Eng
open Go Go.Proofs
theorem bld196 (a : Int) : buildA E0.P 196 [(0, .int .i64 a)] = some (.agg #[.int .i64 a, .int .i64 0, .int .i64 0]) := by kernel_rfl
theorem bld164 (a b : Int) : buildA E0.P 164 [(0, .int .i64 a), (1, .int .i64 b)] = some (.agg #[.int .i64 a, .int .i64 b]) := by kernel_rfl
theorem deltas_Unpack (H : AHeap) (first n : Int) (a : Option Addr) (len cap : Nat) (hU : U8s H a len) (hUb : ∀ x, a = some x → len = 0 ∨ x.block < H.next) (hex : exactBase a = true) (hlc : len ≤ cap) (hlen : len ≤ 1000000000) : WF E0 97 [.int .i64 first, .int .i64 n, .slice a len cap] H fun q => ∃ (v : Value) (z e : Int) (us : List Int) (D : List Nat), q.1 = .tuple #[v, .int .i64 z, .int .i64 e] ∧ NL H q.2 164 2 .i64 v us D ∧ ∃ m, us.length = m * 2 ∧ m ≤ 100000 := by
  have bad : ∀ (B : AHeap) (z e : Int), Frh H B → ∃ (v : Value) (z' e' : Int) (us : List Int) (D : List Nat), Value.tuple #[.slice none 0 0, .int .i64 z, .int .i64 e] = .tuple #[v, .int .i64 z', .int .i64 e'] ∧ NL H B 164 2 .i64 v us D ∧ ∃ m, us.length = m * 2 ∧ m ≤ 100000 :=
    fun B z e hB => ⟨_, _, _, [], [], rfl, .nil hB, 0, by simp, by omega⟩
  refine WF.k Tryz.func97 rfl rfl ?_
  refine KC.seq (KC.region ?_)
  refine KO.pv (PV.assign rfl) rfl rfl ?_
  refine KO.pv (PV.assign rfl) rfl rfl ?_
  refine KO.pv (PV.assign rfl) rfl rfl ?_
  refine KO.nil ?_
  refine KC.seq (KC.seq (KC.region ?_))
  refine KO.pv (PV.move rfl) rfl rfl ?_
  refine KO.pv (PV.move rfl) rfl rfl ?_
  refine KO.call rfl rfl rfl rfl ((deltas_check H first n)) fun v0 H0 q0 => ?_
  obtain ⟨e0, hv0, hH0, hok⟩ := q0
  dsimp only at hv0 hH0
  subst hv0
  subst hH0
  refine KO.pv (PV.assign rfl) rfl rfl ?_
  refine KO.nil ?_
  refine KC.seq (KC.region ?_)
  refine KO.pv (PV.move rfl) rfl rfl ?_
  refine KO.pv (PV.neq rfl rfl) rfl rfl ?_
  refine KO.nil ?_
  refine KC.cond rfl (fun _ => ?_) (fun hb => KC.skip ?_)
  · refine KC.seq (KC.region ?_)
    refine KO.pv (PV.move rfl) rfl rfl ?_
    refine KO.pv (PV.assign rfl) rfl rfl ?_
    refine KO.pv (PV.assign rfl) rfl rfl ?_
    refine KO.pv (PV.assign rfl) rfl rfl ?_
    refine KO.nil ?_
    exact KC.ret ⟨rfl, _, rfl, bad _ _ _ .refl⟩
  have he0 : e0 = 0 := by simpa using hb
  obtain ⟨hf1, hf2, hf3, hf4⟩ := hok he0
  clear hok
  obtain ⟨N, rfl⟩ : ∃ N : Nat, n = N := ⟨n.toNat, by omega⟩
  refine KC.seq (KC.region ?_)
  refine KO.pv (PV.assign rfl) rfl rfl ?_
  refine KO.nil ?_
  refine KC.seq (KC.region ?_)
  refine KO.pv (PV.assign rfl) rfl rfl ?_
  refine KO.nil ?_
  refine KC.seq (KC.seq (KC.region ?_))
  refine KO.pv (PV.move rfl) rfl rfl ?_
  refine KO.pv (PV.move rfl) rfl rfl ?_
  refine KO.nil ?_
  refine KC.sub (l' := [(0, .int .i64 first), (2, .slice a len cap), (10, .slice none 0 0), (11, .int .i64 ((0 : Nat) : Int)), (24, .int .i64 (N : Int)), (25, .int .i64 ((0 : Nat) : Int))]) (.cons rfl (.cons rfl (.cons rfl (.cons rfl (.cons rfl (.cons rfl .nil)))))) ?_
  refine KC.block (KC.loopN (fun k l A => ∃ (i at_ : Nat) (v : Value) (us : List Int) (D : List Nat), i + k = N ∧ l = [(0, .int .i64 first), (2, .slice a len cap), (10, v), (11, .int .i64 (at_ : Int)), (24, .int .i64 (N : Int)), (25, .int .i64 (i : Int))] ∧ at_ ≤ len ∧ NL H0 A 164 2 .i64 v us D ∧ us.length = i * 2) ?_ N ⟨0, 0, _, [], [], by omega, rfl, by omega, .nil .refl, by simp⟩)
  rintro k l A ⟨i, at_, v, us, D, hik, rfl, hat, hL, hul⟩
  refine KC.seq (KC.region ?_)
  refine KO.pv (PV.lss rfl rfl) rfl rfl ?_
  refine KO.nil ?_
  refine KC.seq (KC.cond rfl (fun hb => KC.skip ?_) (fun hb => KC.exit ?_))
  rotate_left
  · refine KC.seq (KC.region ?_)
    refine KO.pv (PV.move rfl) rfl rfl ?_
    refine KO.pv (PV.move rfl) rfl rfl ?_
    refine KO.pv (PV.assign rfl) rfl rfl ?_
    refine KO.pv (PV.assign rfl) rfl rfl ?_
    refine KO.pv (PV.assign rfl) rfl rfl ?_
    refine KO.nil ?_
    exact KC.ret ⟨rfl, _, rfl, _, _, _, _, _, rfl, hL, i, hul, by omega⟩
  have hi : i < N := by simpa using hb
  refine KC.seq (KC.block (KC.seq (KC.region ?_)))
  refine KO.pv (PV.move rfl) rfl rfl ?_
  refine KO.pv (PV.assign rfl) rfl rfl ?_
  refine KO.nil ?_
  refine KC.seq (KC.region ?_)
  refine KO.pv (PV.move rfl) rfl rfl ?_
  refine KO.pv (PV.move rfl) rfl rfl ?_
  refine KO.pv (PV.add rfl rfl ((show _ = first + i from wrap64 (by omega) (by omega)))) rfl rfl ?_
  refine KO.pv (PV.mul rfl rfl ((show _ = 2 * (first + i) from wrap64 (by omega) (by omega)))) rfl rfl ?_
  refine KO.pv (PV.build (rfl) ((bld196 _))) rfl rfl ?_
  refine KO.alloc zt196 rfl rfl fun B1 n1 => ?_
  have hr1 : B1.row A.next = some ⟨196, true, true, [.int .i64 0, .int .i64 0, .int .i64 0]⟩ := by rw [n1.row, if_pos rfl]
  refine KO.store rfl rfl sz196 (rfl) (hr1) (rfl) ((Nat.le_refl _)) rfl fun B u1 => ?_
  refine KO.nil ?_
  have hc : B.row A.next = some ⟨196, true, true, [.int .i64 (2 * (first + i)), .int .i64 0, .int .i64 0]⟩ := by rw [u1.row, if_pos rfl]; rfl
  have hAB : Frh A B := Frh.upd (.new n1) u1 (Nat.le_refl _)
  have hLB := hL.frame hAB
  have hBn : B.next = A.next + 1 := by rw [u1.next, n1.next]
  have hp0 : IntKind.i64.wrap (2 * (first + i)) = 2 * (first + i) := wrap64 (by omega) (by omega)
  generalize 2 * (first + i) = p0 at *
  refine KC.seq (KC.seq (KC.region ?_))
  refine KO.pv (PV.move rfl) rfl rfl ?_
  refine KO.nil ?_
  refine KC.sub (l' := [(0, .int .i64 first), (2, .slice a len cap), (10, v), (11, .int .i64 (at_ : Int)), (13, .pointer (some ⟨A.next, 0, none⟩)), (24, .int .i64 (N : Int)), (25, .int .i64 (i : Int)), (33, .int .i64 ((0 : Nat) : Int))]) (.cons rfl (.cons rfl (.cons rfl (.cons rfl (.cons rfl (.cons rfl (.cons rfl (.cons rfl .nil)))))))) ?_
  refine KC.block (KC.loopN (fun k2 l C => ∃ (j at_ : Nat) (q0 q1 q2 : Int), j + k2 = 2 ∧ l = [(0, .int .i64 first), (2, .slice a len cap), (10, v), (11, .int .i64 (at_ : Int)), (13, .pointer (some ⟨A.next, 0, none⟩)), (24, .int .i64 (N : Int)), (25, .int .i64 (i : Int)), (33, .int .i64 (j : Int))] ∧ at_ ≤ len ∧ NL H0 C 164 2 .i64 v us D ∧ A.next < C.next ∧ C.row A.next = some ⟨196, true, true, [.int .i64 q0, .int .i64 q1, .int .i64 q2]⟩ ∧ IntKind.i64.wrap q0 = q0 ∧ IntKind.i64.wrap q1 = q1 ∧ IntKind.i64.wrap q2 = q2) ?_ 2 ⟨0, at_, p0, 0, 0, by omega, rfl, hat, hLB, by omega, hc, hp0, rfl, rfl⟩)
  have hLv : ∀ j ∈ D, j < A.next := fun j hj => (hL.d j hj).2
  have hLA : H0.next ≤ A.next := hL.f.1
  clear hat hc hp0 hLB hAB u1 hr1 n1 hBn
  rintro kk l C ⟨j, at_, p0, p1, p2, hjk, rfl, hat, hLC, hlt, hc, w0, w1, w2⟩
  refine KC.seq (KC.region ?_)
  refine KO.pv (PV.lss rfl rfl) rfl rfl ?_
  refine KO.nil ?_
  refine KC.seq (KC.cond rfl (fun hb => KC.skip ?_) (fun hb => KC.exit ?_))
  rotate_left
  · refine KC.region ?_
    refine KO.pv (PV.move rfl) rfl rfl ?_
    refine KO.pv (PV.indexArr un196 sz3 rfl rfl ((show 1 < 3 by decide))) rfl rfl ?_
    refine KO.load1 ag3 rfl (hc) (rfl) rfl rfl ?_
    refine KO.pv (PV.indexArr un196 sz3 rfl rfl ((show 2 < 3 by decide))) rfl rfl ?_
    refine KO.load1 ag3 rfl (hc) (rfl) rfl rfl ?_
    refine KO.pv (PV.build (rfl) ((bld164 _ _))) rfl rfl ?_
    refine KO.buildSlice el47 ez164 rfl rfl (rfl) rfl rfl fun E1 m1 => ?_
    have hLE := hLC.frame (.new m1)
    refine KO.append el47 ez164 sb164 un47 rfl rfl ((hLE.l)) ((newElems_of (new := [.int .i64 p1, .int .i64 p2]) (m1.row _ ▸ if_pos rfl) rfl rfl rfl)) (rfl) ((ints_all us)) ((by simp only [List.length_map, List.length_cons, List.length_nil]; omega)) rfl rfl fun v2 E2 D2 k1 k2 k3 k4 => ?_
    refine KO.pv (PV.assign rfl) rfl rfl ?_
    refine KO.nil ?_
    refine KC.region ?_
    refine KO.pv (PV.add rfl rfl ((show _ = ((i + 1 : Nat) : Int) from wrap64 (by omega) (by omega)))) rfl rfl ?_
    refine KO.pv (PV.move rfl) rfl rfl ?_
    refine KO.nil ?_
    exact ⟨k - 1, _, by omega, .cons rfl (.cons rfl (.cons rfl (.cons rfl (.cons rfl (.cons rfl .nil))))), i + 1, at_, v2, us ++ [p1, p2], D2, by omega, rfl, hat, hLE.app k1 k2 k3 k4 (fun u hu => by simp only [List.mem_cons, List.not_mem_nil, or_false] at hu; rcases hu with rfl | rfl; exact w1; exact w2), by simp only [List.length_append, List.length_cons, List.length_nil]; omega⟩
  have hj : j < 2 := by have : (j : Int) < 2 := by simpa using hb
                        omega
  obtain ⟨q, hq, wq⟩ : ∃ q : Int, [Value.int .i64 p0, .int .i64 p1, .int .i64 p2][0 + j * 1]? = some (.int .i64 q) ∧ IntKind.i64.wrap q = q := by
    match j, hj with
    | 0, _ => exact ⟨p0, rfl, w0⟩
    | 1, _ => exact ⟨p1, rfl, w1⟩
  obtain ⟨a', hsl, hex', hnil, hadr⟩ := slice_from (P := E0.P) (t := 68) un68 sz5 hex hat hlc
  have hU' : U8s C a' (len - at_) := by
    by_cases h0 : len - at_ = 0
    · exact .inl h0
    rcases hU with hU | ⟨b, off, sp, r, rfl, hr, hcs⟩
    · omega
    · have hsp : sp = none := by cases sp; rfl; cases hex
      subst hsp
      refine .inr ⟨b, off + at_ * 1, none, r, hadr b off rfl h0, (hLC.f.2 b ((hUb _ rfl).resolve_left (by omega))).trans hr, fun i hi => ?_⟩
      obtain ⟨u, hu⟩ := hcs (at_ + i) (by omega)
      exact ⟨u, by rw [show off + at_ * 1 + i = off + (at_ + i) by omega]; exact hu⟩
  refine KC.seq (KC.block (KC.seq (KC.region ?_)))
  refine KO.pv (PV.move rfl) rfl rfl ?_
  refine KO.pv (PV.assign rfl) rfl rfl ?_
  refine KO.nil ?_
  refine KC.seq (KC.region ?_)
  refine KO.pv (PV.move rfl) rfl rfl ?_
  refine KO.pv (PV.move rfl) rfl rfl ?_
  refine KO.pv (PV.slice rfl (fun _ h => by cases h; exact ⟨_, rfl, rfl⟩) (fun h => by cases h) (fun _ h => by cases h) (fun _ => rfl) (fun _ h => by cases h) (fun _ => rfl) hsl) rfl rfl ?_
  refine KO.call rfl rfl rfl rfl ((deltas_Read C a' (len - at_) (cap - at_) hU' (by omega))) fun v1 C1 q1 => ?_
  obtain ⟨d, z, e1, hv1, hC1, hz⟩ := q1
  dsimp only at hv1 hC1
  subst hv1
  subst hC1
  refine KO.pv (PV.move rfl) rfl rfl ?_
  refine KO.pv (PV.extract rfl rfl) rfl rfl ?_
  refine KO.pv (PV.extract rfl rfl) rfl rfl ?_
  refine KO.pv (PV.extract rfl rfl) rfl rfl ?_
  refine KO.pv (PV.assign rfl) rfl rfl ?_
  refine KO.pv (PV.assign rfl) rfl rfl ?_
  refine KO.pv (PV.assign rfl) rfl rfl ?_
  refine KO.nil ?_
  refine KC.seq (KC.seq (KC.region ?_))
  refine KO.pv (PV.move rfl) rfl rfl ?_
  refine KO.pv (PV.neq rfl rfl) rfl rfl ?_
  refine KO.nil ?_
  refine KC.cond rfl (fun _ => ?_) (fun hb => KC.skip ?_)
  · refine KC.seq (KC.region ?_)
    refine KO.pv (PV.move rfl) rfl rfl ?_
    refine KO.pv (PV.assign rfl) rfl rfl ?_
    refine KO.pv (PV.assign rfl) rfl rfl ?_
    refine KO.pv (PV.assign rfl) rfl rfl ?_
    refine KO.nil ?_
    exact KC.ret ⟨rfl, _, rfl, bad _ _ _ hLC.f⟩
  have he1 : e1 = 0 := by simpa using hb
  obtain ⟨hz1, hz2⟩ := hz he1
  obtain ⟨Z, rfl⟩ : ∃ Z : Nat, z = Z := ⟨z.toNat, by omega⟩
  refine KC.seq (KC.seq (KC.region ?_))
  by_cases c1 : q < d
  · refine KO.pv (PV.move rfl) rfl rfl ?_
    refine KO.pv (PV.move rfl) rfl rfl ?_
    refine KO.pv (PV.indexArr un196 sz3 rfl rfl ((show j < 3 by omega))) rfl rfl ?_
    refine KO.load1 ag3 rfl (hc) (hq) rfl rfl ?_
    refine KO.pv (PV.gtr rfl rfl) rfl rfl ?_
    rw [decide_eq_true c1]
    refine KO.pv (PV.move rfl) rfl rfl ?_
    refine KO.no rfl rfl rfl ?_
    refine KO.no rfl rfl rfl ?_
    refine KO.no rfl rfl rfl ?_
    refine KO.no rfl rfl rfl ?_
    refine KO.no rfl rfl rfl ?_
    refine KO.no rfl rfl rfl ?_
    refine KO.pv (PV.pickT rfl rfl rfl) rfl rfl ?_
    refine KO.nil ?_
    refine KC.cond rfl (fun _ => ?_) (fun hb => by cases hb)
    refine KC.seq (KC.region ?_)
    refine KO.pv (PV.assign rfl) rfl rfl ?_
    refine KO.pv (PV.assign rfl) rfl rfl ?_
    refine KO.pv (PV.assign rfl) rfl rfl ?_
    refine KO.nil ?_
    exact KC.ret ⟨rfl, _, rfl, bad _ _ _ hLC.f⟩
  by_cases c2 : (j : Int) = 0
  · have e2 : ((j : Int) == 0) = true := by simp [c2]
    by_cases c3 : d = 0
    · have e3 : (d == 0) = true := by simp [c3]
      refine KO.pv (PV.move rfl) rfl rfl ?_
      refine KO.pv (PV.move rfl) rfl rfl ?_
      refine KO.pv (PV.indexArr un196 sz3 rfl rfl ((show j < 3 by omega))) rfl rfl ?_
      refine KO.load1 ag3 rfl (hc) (hq) rfl rfl ?_
      refine KO.pv (PV.gtr rfl rfl) rfl rfl ?_
      rw [decide_eq_false c1]
      refine KO.pv (PV.move rfl) rfl rfl ?_
      refine KO.pv (PV.move rfl) rfl rfl ?_
      refine KO.pv (PV.eql rfl rfl) rfl rfl ?_
      rw [e2]
      refine KO.pv (PV.move rfl) rfl rfl ?_
      refine KO.pv (PV.move rfl) rfl rfl ?_
      refine KO.pv (PV.eql rfl rfl) rfl rfl ?_
      rw [e3]
      refine KO.pv (PV.pickT rfl rfl rfl) rfl rfl ?_
      refine KO.pv (PV.pickF rfl rfl rfl) rfl rfl ?_
      refine KO.nil ?_
      refine KC.cond rfl (fun _ => ?_) (fun hb => by cases hb)
      refine KC.seq (KC.region ?_)
      refine KO.pv (PV.assign rfl) rfl rfl ?_
      refine KO.pv (PV.assign rfl) rfl rfl ?_
      refine KO.pv (PV.assign rfl) rfl rfl ?_
      refine KO.nil ?_
      exact KC.ret ⟨rfl, _, rfl, bad _ _ _ hLC.f⟩
    have e3 : (d == 0) = false := by simp [c3]
    refine KO.pv (PV.move rfl) rfl rfl ?_
    refine KO.pv (PV.move rfl) rfl rfl ?_
    refine KO.pv (PV.indexArr un196 sz3 rfl rfl ((show j < 3 by omega))) rfl rfl ?_
    refine KO.load1 ag3 rfl (hc) (hq) rfl rfl ?_
    refine KO.pv (PV.gtr rfl rfl) rfl rfl ?_
    rw [decide_eq_false c1]
    refine KO.pv (PV.move rfl) rfl rfl ?_
    refine KO.pv (PV.move rfl) rfl rfl ?_
    refine KO.pv (PV.eql rfl rfl) rfl rfl ?_
    rw [e2]
    refine KO.pv (PV.move rfl) rfl rfl ?_
    refine KO.pv (PV.move rfl) rfl rfl ?_
    refine KO.pv (PV.eql rfl rfl) rfl rfl ?_
    rw [e3]
    refine KO.pv (PV.pickT rfl rfl rfl) rfl rfl ?_
    refine KO.pv (PV.pickF rfl rfl rfl) rfl rfl ?_
    refine KO.nil ?_
    refine KC.cond rfl (fun hb => by cases hb) (fun _ => KC.skip ?_)
    refine KC.seq (KC.region ?_)
    refine KO.pv (PV.move rfl) rfl rfl ?_
    refine KO.pv (PV.add rfl rfl ((show _ = ((j + 1 : Nat) : Int) from wrap64 (by omega) (by omega)))) rfl rfl ?_
    refine KO.pv (PV.move rfl) rfl rfl ?_
    refine KO.pv (PV.indexArr un196 sz3 rfl rfl ((show j < 3 by omega))) rfl rfl ?_
    refine KO.load1 ag3 rfl (hc) (hq) rfl rfl ?_
    refine KO.pv (PV.move rfl) rfl rfl ?_
    refine KO.pv (PV.sub rfl rfl (rfl)) rfl rfl ?_
    refine KO.pv (PV.indexArr un196 sz3 rfl rfl ((show j + 1 < 3 by omega))) rfl rfl ?_
    refine KO.store1 sz3 rfl rfl (rfl) (hc) (rfl) ((show 0 + (j + 1) * 1 < 3 by omega)) rfl fun F1 x1 => ?_
    refine KO.nil ?_
    refine KC.region ?_
    refine KO.pv (PV.move rfl) rfl rfl ?_
    refine KO.pv (PV.move rfl) rfl rfl ?_
    refine KO.pv (PV.add rfl rfl ((show _ = ((at_ + Z : Nat) : Int) from wrap64 (by omega) (by omega)))) rfl rfl ?_
    refine KO.pv (PV.assign rfl) rfl rfl ?_
    refine KO.nil ?_
    refine KC.region ?_
    refine KO.pv (PV.add rfl rfl ((show _ = ((j + 1 : Nat) : Int) from wrap64 (by omega) (by omega)))) rfl rfl ?_
    refine KO.pv (PV.move rfl) rfl rfl ?_
    refine KO.nil ?_
    have hCF : Frh A C1 → True := fun _ => trivial
    have hLF : NL H0 F1 164 2 .i64 v us D := ⟨hLC.l.frame fun j hj => by rw [x1.row, if_neg (by have := hLv j hj; omega)], hLC.w, hLC.f.upd x1 hLA, fun j hj => by rw [x1.next]; exact hLC.d j hj⟩
    obtain ⟨q0', q1', q2', hrow, v0, v1, v2⟩ : ∃ q0' q1' q2' : Int, putL [Value.int .i64 p0, .int .i64 p1, .int .i64 p2] (0 + (j + 1) * 1) [.int .i64 (IntKind.i64.wrap (q - d))] = [.int .i64 q0', .int .i64 q1', .int .i64 q2'] ∧ IntKind.i64.wrap q0' = q0' ∧ IntKind.i64.wrap q1' = q1' ∧ IntKind.i64.wrap q2' = q2' := by
      match j, hj with
      | 0, _ => exact ⟨_, _, _, rfl, w0, wrap_wrap _ _, w2⟩
      | 1, _ => exact ⟨_, _, _, rfl, w0, w1, wrap_wrap _ _⟩
    exact ⟨kk - 1, _, by omega, .cons rfl (.cons rfl (.cons rfl (.cons rfl (.cons rfl (.cons rfl (.cons rfl (.cons rfl .nil))))))), j + 1, at_ + Z, q0', q1', q2', by omega, rfl, by omega, hLF, by rw [x1.next]; exact hlt, by rw [x1.row, if_pos rfl]; exact congrArg (fun c => some (Row.mk 196 true true c)) hrow, v0, v1, v2⟩
  · have e2 : ((j : Int) == 0) = false := beq_eq_false_iff_ne.2 c2
    refine KO.pv (PV.move rfl) rfl rfl ?_
    refine KO.pv (PV.move rfl) rfl rfl ?_
    refine KO.pv (PV.indexArr un196 sz3 rfl rfl ((show j < 3 by omega))) rfl rfl ?_
    refine KO.load1 ag3 rfl (hc) (hq) rfl rfl ?_
    refine KO.pv (PV.gtr rfl rfl) rfl rfl ?_
    rw [decide_eq_false c1]
    refine KO.pv (PV.move rfl) rfl rfl ?_
    refine KO.pv (PV.move rfl) rfl rfl ?_
    refine KO.pv (PV.eql rfl rfl) rfl rfl ?_
    rw [e2]
    refine KO.pv (PV.move rfl) rfl rfl ?_
    refine KO.no rfl rfl rfl ?_
    refine KO.no rfl rfl rfl ?_
    refine KO.pv (PV.pickF rfl rfl rfl) rfl rfl ?_
    refine KO.pv (PV.pickF rfl rfl rfl) rfl rfl ?_
    refine KO.nil ?_
    refine KC.cond rfl (fun hb => by cases hb) (fun _ => KC.skip ?_)
    refine KC.seq (KC.region ?_)
    refine KO.pv (PV.move rfl) rfl rfl ?_
    refine KO.pv (PV.add rfl rfl ((show _ = ((j + 1 : Nat) : Int) from wrap64 (by omega) (by omega)))) rfl rfl ?_
    refine KO.pv (PV.move rfl) rfl rfl ?_
    refine KO.pv (PV.indexArr un196 sz3 rfl rfl ((show j < 3 by omega))) rfl rfl ?_
    refine KO.load1 ag3 rfl (hc) (hq) rfl rfl ?_
    refine KO.pv (PV.move rfl) rfl rfl ?_
    refine KO.pv (PV.sub rfl rfl (rfl)) rfl rfl ?_
    refine KO.pv (PV.indexArr un196 sz3 rfl rfl ((show j + 1 < 3 by omega))) rfl rfl ?_
    refine KO.store1 sz3 rfl rfl (rfl) (hc) (rfl) ((show 0 + (j + 1) * 1 < 3 by omega)) rfl fun F1 x1 => ?_
    refine KO.nil ?_
    refine KC.region ?_
    refine KO.pv (PV.move rfl) rfl rfl ?_
    refine KO.pv (PV.move rfl) rfl rfl ?_
    refine KO.pv (PV.add rfl rfl ((show _ = ((at_ + Z : Nat) : Int) from wrap64 (by omega) (by omega)))) rfl rfl ?_
    refine KO.pv (PV.assign rfl) rfl rfl ?_
    refine KO.nil ?_
    refine KC.region ?_
    refine KO.pv (PV.add rfl rfl ((show _ = ((j + 1 : Nat) : Int) from wrap64 (by omega) (by omega)))) rfl rfl ?_
    refine KO.pv (PV.move rfl) rfl rfl ?_
    refine KO.nil ?_
    have hCF : Frh A C1 → True := fun _ => trivial
    have hLF : NL H0 F1 164 2 .i64 v us D := ⟨hLC.l.frame fun j hj => by rw [x1.row, if_neg (by have := hLv j hj; omega)], hLC.w, hLC.f.upd x1 hLA, fun j hj => by rw [x1.next]; exact hLC.d j hj⟩
    obtain ⟨q0', q1', q2', hrow, v0, v1, v2⟩ : ∃ q0' q1' q2' : Int, putL [Value.int .i64 p0, .int .i64 p1, .int .i64 p2] (0 + (j + 1) * 1) [.int .i64 (IntKind.i64.wrap (q - d))] = [.int .i64 q0', .int .i64 q1', .int .i64 q2'] ∧ IntKind.i64.wrap q0' = q0' ∧ IntKind.i64.wrap q1' = q1' ∧ IntKind.i64.wrap q2' = q2' := by
      match j, hj with
      | 0, _ => exact ⟨_, _, _, rfl, w0, wrap_wrap _ _, w2⟩
      | 1, _ => exact ⟨_, _, _, rfl, w0, w1, wrap_wrap _ _⟩
    exact ⟨kk - 1, _, by omega, .cons rfl (.cons rfl (.cons rfl (.cons rfl (.cons rfl (.cons rfl (.cons rfl (.cons rfl .nil))))))), j + 1, at_ + Z, q0', q1', q2', by omega, rfl, by omega, hLF, by rw [x1.next]; exact hlt, by rw [x1.row, if_pos rfl]; exact congrArg (fun c => some (Row.mk 196 true true c)) hrow, v0, v1, v2⟩

end Go.Eng

namespace Go.Eng
open Go Go.Proofs
abbrev ShD : Sh := .fld 0 (.num .i64) (.fld 1 (.list 1 (.num .u8)) (.fld 2 (.num .i64) (.fld 3 (.list 2 (.fld 0 (.num .i64) (.fld 1 (.num .i64) .nil))) .nil)))
/-- What the argument of a call is. -/
theorem argD {H : AHeap} {bx : Nat} {ns : List Int} {ss : List ByteArray} {D : List Nat} (h : Own H ⟨true, true⟩ ShD bx ns ss D) :
    ∃ r N F a1 n1 c1 a3 n3 c3, H.row bx = some r ∧ r.cs[0 + 0]? = some (.int .i64 N) ∧ r.cs[0 + 1]? = some (.slice a1 n1 c1) ∧ r.cs[0 + 2]? = some (.int .i64 F) ∧ r.cs[0 + 3]? = some (.slice a3 n3 c3) ∧
      (n1 ≤ c1 ∧ exactBase a1 = true ∧ n1 ≤ 1000000000 ∧ U8s H a1 n1 ∧ ∀ x, a1 = some x → n1 = 0 ∨ x.block < H.next) ∧ (n3 ≤ 1000000000 ∧ Ands H a3 n3) := by
  obtain ⟨r, hr, hw, hR⟩ := h.ex
  obtain ⟨_, _, _, _, _, _, r0, hR, rfl, rfl, rfl⟩ := hR
  obtain ⟨_, _, _, _, _, _, r1, hR, rfl, rfl, rfl⟩ := hR
  obtain ⟨_, _, _, _, _, _, r2, hR, rfl, rfl, rfl⟩ := hR
  obtain ⟨_, _, _, _, _, _, r3, hR, rfl, rfl, rfl⟩ := hR
  obtain ⟨N, k0, -⟩ := r0.numAt
  obtain ⟨a1, n1, c1, k1, k2, k3, k4, k5⟩ := list_view r1
  obtain ⟨F, k6, -⟩ := r2.numAt
  obtain ⟨a3, n3, c3, m1, m2, m3, m4, m5⟩ := list_view r3
  refine ⟨r, N, F, a1, n1, c1, a3, n3, c3, hr, k0, k1, k6, m1, ⟨k2, k3 rfl, k4, ?_, ?_⟩, m4, ?_⟩
  · rcases k5 with k5 | ⟨b, off, sp, r, rfl, hb, hr, hc⟩
    · exact .inl k5
    · refine .inr ⟨b, off, sp, r, rfl, hr, fun i hi => ?_⟩
      obtain ⟨_, _, _, hx⟩ := hc i hi
      obtain ⟨v, hv, -⟩ := hx.numAt
      exact ⟨v, by rw [Nat.mul_one] at hv; exact hv⟩
  · intro x hx
    rcases k5 with k5 | ⟨b, off, sp, r, rfl, hb, hr, hc⟩
    · exact .inl k5
    · cases hx
      exact .inr (h.lD _ (by simp [hb]))
  · rcases m5 with m5 | ⟨b, off, sp, r, rfl, hb, hr, hc⟩
    · exact .inl m5
    · refine .inr ⟨b, off, sp, r, rfl, h.lD _ (by simp [hb]), hr, fun i hi => ?_⟩
      obtain ⟨_, _, _, hx⟩ := hc i hi
      obtain ⟨_, _, _, _, _, _, x0, hx, rfl, rfl, rfl⟩ := hx
      obtain ⟨_, _, _, _, _, _, x1, hx, rfl, rfl, rfl⟩ := hx
      obtain ⟨v, hv, -⟩ := x0.numAt
      obtain ⟨w, hw, -⟩ := x1.numAt
      exact ⟨v, w, hv, hw⟩
/-- Bytes that grew, behind a variable of their own. -/
theorem ownU8 {H0 A E1 : AHeap} {v : Value} {us : List Int} {D : List Nat} {ba : Nat} {e : Nat} (h : U8L H0 A v us D) (hE : A.next ≤ E1.next) (hr : ∀ j ∈ D, E1.row j = A.row j) (hb : E1.row ba = some ⟨e, true, true, [v]⟩) (h1 : ba ∉ D) (h2 : ba < E1.next) (hl : us.length ≤ 100000) :
    ∃ ns, Own E1 ⟨false, true⟩ (.list 1 (.num .u8)) ba ns [] D ∧ ns.length ≤ 1000000 := by
  have hfl := h.l.frame hr
  obtain ⟨ns, k1, k2, k3⟩ := hfl.owned (s := .num .u8) (ns := us.map IntKind.i64.wrap) (ss := []) (by simp only [List.length_map]; omega) (by decide) (fun n hn => by
    have := RdN.nums (H := E1) (room := ⟨false, true⟩) (k := .u8) (us := us) (pre := []) h.w
    rw [List.length_map, Nat.mul_one] at hn
    rw [← hn]; exact this)
  exact ⟨ns, ⟨⟨_, hb, rfl, k1⟩, k2, h1, h2, fun j hj => Nat.lt_of_lt_of_le (h.d j hj).2 hE⟩, by rw [k3, List.length_map]; omega⟩
theorem ownAnds {H0 A E1 : AHeap} {v : Value} {us : List Int} {D : List Nat} {ba m : Nat} {e : Nat} (h : NL H0 A 164 2 .i64 v us D) (hE : A.next ≤ E1.next) (hr : ∀ j ∈ D, E1.row j = A.row j) (hb : E1.row ba = some ⟨e, true, true, [v]⟩) (h1 : ba ∉ D) (h2 : ba < E1.next) (hl : us.length = m * 2) (hm : m ≤ 100000) :
    ∃ ns, Own E1 ⟨false, true⟩ (.list 2 (.fld 0 (.num .i64) (.fld 1 (.num .i64) .nil))) ba ns [] D ∧ ns.length ≤ 1000000 := by
  have hfl := h.l.frame hr
  obtain ⟨ns, k1, k2, k3⟩ := hfl.owned (s := .fld 0 (.num .i64) (.fld 1 (.num .i64) .nil)) (ns := us.map IntKind.i64.wrap) (ss := []) (by simp only [List.length_map]; omega) (by decide) (fun n hn => by
    rw [List.length_map] at hn
    exact RdN.pairs (H := E1) (room := ⟨false, true⟩) (k := .i64) (n := n) (us := us) (pre := []) hn h.w)
  exact ⟨ns, ⟨⟨_, hb, rfl, k1⟩, k2, h1, h2, fun j hj => Nat.lt_of_lt_of_le (h.d j hj).2 hE⟩, by rw [k3, List.length_map]; omega⟩

theorem call_88 : CallOK' E0 3 9 42 88 ShD := by
  intro H bx ns ss D hO _ _
  obtain ⟨r, N, F, a1, n1, c1, a3, n3, c3, hr, x0, x1, x2, x3, ⟨y1, y2, y3, y4, y5⟩, z1, z2⟩ := argD hO
  refine WF.k Tryz.func88 rfl rfl ?_
  refine KC.seq (KC.region ?_)
  refine KO.pv (PV.assign rfl) rfl rfl ?_
  refine KO.nil ?_
  refine KC.seq (KC.region ?_)
  refine KO.pv (PV.move rfl) rfl rfl ?_
  refine KO.pv (PV.nilCheck rfl) rfl rfl ?_
  refine KO.pv (PV.fieldAddr fo119_0 rfl) rfl rfl ?_
  refine KO.load1 ag3 rfl (hr) (x0) rfl rfl ?_
  refine KO.call rfl rfl rfl rfl ((deltas_Write H N)) fun v1 A q1 => ?_
  obtain ⟨w, e1, us1, D1, hv1, hw1, hw2, hw3, hw4, hw5⟩ := q1
  dsimp only at hv1 hw1 hw4 hw5
  subst hv1
  refine KO.pv (PV.move rfl) rfl rfl ?_
  refine KO.pv (PV.extract rfl rfl) rfl rfl ?_
  refine KO.pv (PV.extract rfl rfl) rfl rfl ?_
  refine KO.alloc zt68 rfl rfl fun B n1_ => ?_
  have hB : B.row A.next = some ⟨68, true, true, [.slice none 0 0]⟩ := by rw [n1_.row, if_pos rfl]
  refine KO.store1 sz68 rfl rfl (hw1.one) (hB) (rfl) ((Nat.lt_succ_self 0)) rfl fun C u1 => ?_
  refine KO.pv (PV.assign rfl) rfl rfl ?_
  refine KO.nil ?_
  refine KC.seq (KC.region ?_)
  refine KO.pv (PV.makeFunc rfl rfl) rfl rfl ?_
  refine KO.buildSlice el32 ez42 rfl rfl (rfl) rfl rfl fun G m1 => ?_
  refine KO.pv (PV.assign rfl) rfl rfl ?_
  refine KO.nil ?_
  have e1' := n1_.next
  have e2' := u1.next
  have e3' := m1.next
  have hAB : Frh A C := Frh.upd (.new n1_) u1 (Nat.le_refl _)
  have hG : Frh A G := hAB.trans (.new m1)
  have hL : U8L H A w us1 D1 := ⟨hw1, hw2, hw4, hw5⟩
  have hba : G.row A.next = some ⟨68, true, true, [w]⟩ := by rw [m1.row, if_neg (by omega), u1.row, if_pos rfl]; rfl
  have hle := hw4.1
  obtain ⟨ns', ho, hn'⟩ := ownU8 hL hG.1 (fun j hj => hG.2 j (hw5 j hj).2) hba (fun hj => by have := hw5 _ hj; omega) (by omega) (by omega)
  exact KC.ret ⟨rfl, _, rfl, one_res rfl (see_90 9) ho (by omega) (fun j hj => (hw5 j hj).1) (by rw [m1.row, if_pos rfl]; rfl) (by omega) (by show C.next < G.next; omega) (by omega) (fun hj => by have := hw5 _ hj; omega) (by omega) (by simp) (hw4.trans hG)⟩

theorem call_91 : CallOK' E0 3 9 42 91 ShD := by
  intro H bx ns ss D hO _ _
  obtain ⟨r, N, F, a1, n1, c1, a3, n3, c3, hr, x0, x1, x2, x3, ⟨y1, y2, y3, y4, y5⟩, z1, z2⟩ := argD hO
  refine WF.k Tryz.func91 rfl rfl ?_
  refine KC.seq (KC.region ?_)
  refine KO.pv (PV.assign rfl) rfl rfl ?_
  refine KO.nil ?_
  refine KC.seq (KC.region ?_)
  refine KO.pv (PV.move rfl) rfl rfl ?_
  refine KO.pv (PV.nilCheck rfl) rfl rfl ?_
  refine KO.pv (PV.fieldAddr fo119_1 rfl) rfl rfl ?_
  refine KO.load1 ag68 rfl (hr) (x1) rfl rfl ?_
  refine KO.call rfl rfl rfl rfl ((deltas_Read H a1 n1 c1 y4 y3)) fun v1 A q1 => ?_
  refine KO.nil ?_
  obtain ⟨_, _, _, -, hA, -⟩ := q1
  dsimp only at hA
  subst hA
  refine KC.seq (KC.region ?_)
  refine KO.pv (PV.assign rfl) rfl rfl ?_
  refine KO.nil ?_
  exact KC.ret ⟨rfl, _, rfl, no_res .refl⟩

theorem call_93 : CallOK' E0 3 9 42 93 ShD := by
  intro H bx ns ss D hO _ _
  obtain ⟨r, N, F, a1, n1, c1, a3, n3, c3, hr, x0, x1, x2, x3, ⟨y1, y2, y3, y4, y5⟩, z1, z2⟩ := argD hO
  refine WF.k Tryz.func93 rfl rfl ?_
  refine KC.seq (KC.region ?_)
  refine KO.pv (PV.assign rfl) rfl rfl ?_
  refine KO.nil ?_
  refine KC.seq ?_
  refine KC.draw (n := 15) (anc := [0, 1, 3, 7, 0, 16, 48, 112, 255, 511, 1023, 1023, 0, 6143, 16383]) (hv := [8, 13]) (ord := [0, 1, 2, 3, 4, 5, 6, 7, 8, 9, 10, 12, 13, 11, 14]) (by kernel_rfl) (by kernel_rfl) (by kernel_rfl) (by kernel_rfl) (by kernel_rfl) fun H0 hn0 hr0 => ?_
  refine KD.pv 1 (PV.move rfl) rfl rfl rfl (by kernel_rfl) rfl rfl rfl ?_
  refine KD.pv 3 (PV.nilCheck rfl) rfl rfl rfl (by kernel_rfl) rfl rfl rfl ?_
  refine KD.pv 7 (PV.fieldAddr fo119_2 rfl) rfl rfl rfl (by kernel_rfl) rfl rfl rfl ?_
  refine KD.load 15 rfl ((hr0 _ ▸ hr)) (by rw [read1 ag3]; exact (x2)) (past1 ⟨_, ((hr0 _ ▸ hr)), by rw [read1 ag3]; exact (x2)⟩) (veq_int) rfl (by kernel_rfl) rfl rfl rfl ?_
  refine KD.pv 31 (PV.move rfl) rfl rfl rfl (by kernel_rfl) rfl rfl rfl ?_
  refine KD.pv 63 (PV.nilCheck rfl) rfl rfl rfl (by kernel_rfl) rfl rfl rfl ?_
  refine KD.pv 127 (PV.fieldAddr fo119_3 rfl) rfl rfl rfl (by kernel_rfl) rfl rfl rfl ?_
  refine KD.load 255 rfl ((hr0 _ ▸ hr)) (by rw [read1 ag47]; exact (x3)) (past1 ⟨_, ((hr0 _ ▸ hr)), by rw [read1 ag47]; exact (x3)⟩) (veq_sl) rfl (by kernel_rfl) rfl rfl rfl ?_
  have z2' : Ands H0 a3 n3 := by
    rcases z2 with h | ⟨b, off, sp, r, h1, h2, h3, h4⟩
    · exact .inl h
    · exact .inr ⟨b, off, sp, r, h1, by omega, (hr0 b).trans h3, h4⟩
  refine KD.call 511 rfl rfl rfl (by kernel_rfl) rfl rfl rfl ((deltas_Pack H0 F a3 n3 c3 z2' z1)) fun v1 A q1 => ?_
  obtain ⟨w, e1, us1, D1, hv1, hL, hlen1⟩ := q1
  dsimp only at hv1 hL
  subst hv1
  refine KD.pv 1023 (PV.move rfl) rfl rfl rfl (by kernel_rfl) rfl rfl rfl ?_
  refine KD.pv 2047 (PV.extract rfl rfl) rfl rfl rfl (by kernel_rfl) rfl rfl rfl ?_
  refine KD.alloc 6143 zt68 rfl (by kernel_rfl) rfl rfl rfl fun B u0 => ?_
  have hB : B.row (H.next + 12) = some ⟨68, true, true, [.slice none 0 0]⟩ := by rw [u0.row]; exact if_pos rfl
  refine KD.store1 14335 sz68 rfl rfl (hL.l.one) (hB) (rfl) ((Nat.lt_succ_self 0)) rfl (by kernel_rfl) rfl rfl fun C u1 => ?_
  refine KD.pv 16383 (PV.extract rfl rfl) rfl rfl rfl (by kernel_rfl) rfl rfl rfl ?_
  refine KD.pv 32767 (PV.assign rfl) rfl rfl rfl (by kernel_rfl) rfl rfl rfl ?_
  refine KD.nil ⟨rfl, ?_⟩
  refine KC.seq (KC.region ?_)
  refine KO.pv (PV.makeFunc rfl rfl) rfl rfl ?_
  refine KO.buildSlice el32 ez42 rfl rfl (rfl) rfl rfl fun G m1 => ?_
  refine KO.pv (PV.assign rfl) rfl rfl ?_
  refine KO.nil ?_
  have e1' := u0.next
  have e2' := u1.next
  have e3' := m1.next
  have hle := hL.f.1
  have hH0 : Frh H H0 := ⟨by omega, fun j _ => hr0 j⟩
  have hHC : Frh H C := Frh.upd (Frh.upd (hH0.trans hL.f) u0 (Nat.le_add_right _ _)) u1 (Nat.le_add_right _ _)
  have hst : ∀ j ∈ D1, G.row j = A.row j := fun j hj => by
    have := hL.d j hj
    rw [m1.row, if_neg (by omega), u1.row, if_neg (show j ≠ H.next + 12 by omega), u0.row, if_neg (show j ≠ H.next + 12 by omega)]
  have hba : G.row (H.next + 12) = some ⟨68, true, true, [w]⟩ := by rw [m1.row, if_neg (by omega), u1.row]; exact if_pos rfl
  obtain ⟨ns', ho, hn'⟩ := ownU8 hL (by omega) hst hba (fun hj => by have := hL.d _ hj; omega) (by omega) hlen1
  exact KC.ret ⟨rfl, _, rfl, one_res rfl (see_95 9) ho (by omega) (fun j hj => by have := hL.d j hj; omega) (by rw [m1.row, if_pos rfl]; rfl) (by omega) (by show C.next < G.next; omega) (by omega) (fun hj => by have := hL.d _ hj; omega) (by omega) (by simp) (hHC.trans (.new m1))⟩

theorem call_96 : CallOK' E0 3 9 42 96 ShD := by
  intro H bx ns ss D hO _ _
  obtain ⟨r, N, F, a1, n1, c1, a3, n3, c3, hr, x0, x1, x2, x3, ⟨y1, y2, y3, y4, y5⟩, z1, z2⟩ := argD hO
  refine WF.k Tryz.func96 rfl rfl ?_
  refine KC.seq (KC.region ?_)
  refine KO.pv (PV.assign rfl) rfl rfl ?_
  refine KO.nil ?_
  refine KC.seq ?_
  refine KC.draw (n := 21) (anc := [0, 1, 3, 7, 0, 16, 48, 112, 0, 256, 768, 1792, 4095, 8191, 16383, 16383, 16383, 0, 163839, 458751, 1048575]) (hv := [12, 18]) (ord := [0, 1, 2, 3, 4, 5, 6, 7, 8, 9, 10, 11, 12, 13, 14, 17, 18, 15, 16, 19, 20]) (by kernel_rfl) (by kernel_rfl) (by kernel_rfl) (by kernel_rfl) (by kernel_rfl) fun H0 hn0 hr0 => ?_
  refine KD.pv 1 (PV.move rfl) rfl rfl rfl (by kernel_rfl) rfl rfl rfl ?_
  refine KD.pv 3 (PV.nilCheck rfl) rfl rfl rfl (by kernel_rfl) rfl rfl rfl ?_
  refine KD.pv 7 (PV.fieldAddr fo119_2 rfl) rfl rfl rfl (by kernel_rfl) rfl rfl rfl ?_
  refine KD.load 15 rfl ((hr0 _ ▸ hr)) (by rw [read1 ag3]; exact (x2)) (past1 ⟨_, ((hr0 _ ▸ hr)), by rw [read1 ag3]; exact (x2)⟩) (veq_int) rfl (by kernel_rfl) rfl rfl rfl ?_
  refine KD.pv 31 (PV.move rfl) rfl rfl rfl (by kernel_rfl) rfl rfl rfl ?_
  refine KD.pv 63 (PV.nilCheck rfl) rfl rfl rfl (by kernel_rfl) rfl rfl rfl ?_
  refine KD.pv 127 (PV.fieldAddr fo119_0 rfl) rfl rfl rfl (by kernel_rfl) rfl rfl rfl ?_
  refine KD.load 255 rfl ((hr0 _ ▸ hr)) (by rw [read1 ag3]; exact (x0)) (past1 ⟨_, ((hr0 _ ▸ hr)), by rw [read1 ag3]; exact (x0)⟩) (veq_int) rfl (by kernel_rfl) rfl rfl rfl ?_
  refine KD.pv 511 (PV.move rfl) rfl rfl rfl (by kernel_rfl) rfl rfl rfl ?_
  refine KD.pv 1023 (PV.nilCheck rfl) rfl rfl rfl (by kernel_rfl) rfl rfl rfl ?_
  refine KD.pv 2047 (PV.fieldAddr fo119_1 rfl) rfl rfl rfl (by kernel_rfl) rfl rfl rfl ?_
  refine KD.load 4095 rfl ((hr0 _ ▸ hr)) (by rw [read1 ag68]; exact (x1)) (past1 ⟨_, ((hr0 _ ▸ hr)), by rw [read1 ag68]; exact (x1)⟩) (veq_sl) rfl (by kernel_rfl) rfl rfl rfl ?_
  have y4' : U8s H0 a1 n1 := by
    rcases y4 with h | ⟨b, off, sp, r, h1, h3, h4⟩
    · exact .inl h
    · exact .inr ⟨b, off, sp, r, h1, (hr0 b).trans h3, h4⟩
  have y5' : ∀ x, a1 = some x → n1 = 0 ∨ x.block < H0.next := fun x hx => (y5 x hx).imp id (fun h => by omega)
  refine KD.call 8191 rfl rfl rfl (by kernel_rfl) rfl rfl rfl ((deltas_Unpack H0 F N a1 n1 c1 y4' y5' y2 y1 y3)) fun v1 A q1 => ?_
  obtain ⟨w, z, e1, us1, D1, hv1, hL, m, hlen1, hm⟩ := q1
  dsimp only at hv1 hL
  subst hv1
  refine KD.pv 16383 (PV.move rfl) rfl rfl rfl (by kernel_rfl) rfl rfl rfl ?_
  refine KD.pv 32767 (PV.extract rfl rfl) rfl rfl rfl (by kernel_rfl) rfl rfl rfl ?_
  refine KD.alloc 163839 zt47 rfl (by kernel_rfl) rfl rfl rfl fun B u0 => ?_
  have hB : B.row (H.next + 17) = some ⟨47, true, true, [.slice none 0 0]⟩ := by rw [u0.row]; exact if_pos rfl
  refine KD.store1 425983 sz47 rfl rfl (hL.l.one) (hB) (rfl) ((Nat.lt_succ_self 0)) rfl (by kernel_rfl) rfl rfl fun C u1 => ?_
  refine KD.pv 458751 (PV.extract rfl rfl) rfl rfl rfl (by kernel_rfl) rfl rfl rfl ?_
  refine KD.pv 524287 (PV.extract rfl rfl) rfl rfl rfl (by kernel_rfl) rfl rfl rfl ?_
  refine KD.pv 1048575 (PV.assign rfl) rfl rfl rfl (by kernel_rfl) rfl rfl rfl ?_
  refine KD.pv 2097151 (PV.assign rfl) rfl rfl rfl (by kernel_rfl) rfl rfl rfl ?_
  refine KD.nil ⟨rfl, ?_⟩
  refine KC.seq (KC.region ?_)
  refine KO.pv (PV.makeFunc rfl rfl) rfl rfl ?_
  refine KO.buildSlice el32 ez42 rfl rfl (rfl) rfl rfl fun G m1 => ?_
  refine KO.pv (PV.assign rfl) rfl rfl ?_
  refine KO.nil ?_
  have e1' := u0.next
  have e2' := u1.next
  have e3' := m1.next
  have hle := hL.f.1
  have hH0 : Frh H H0 := ⟨by omega, fun j _ => hr0 j⟩
  have hHC : Frh H C := Frh.upd (Frh.upd (hH0.trans hL.f) u0 (Nat.le_add_right _ _)) u1 (Nat.le_add_right _ _)
  have hst : ∀ j ∈ D1, G.row j = A.row j := fun j hj => by
    have := hL.d j hj
    rw [m1.row, if_neg (by omega), u1.row, if_neg (show j ≠ H.next + 17 by omega), u0.row, if_neg (show j ≠ H.next + 17 by omega)]
  have hba : G.row (H.next + 17) = some ⟨47, true, true, [w]⟩ := by rw [m1.row, if_neg (by omega), u1.row]; exact if_pos rfl
  obtain ⟨ns', ho, hn'⟩ := ownAnds hL (by omega) hst hba (fun hj => by have := hL.d _ hj; omega) (by omega) hlen1 hm
  exact KC.ret ⟨rfl, _, rfl, one_res rfl (see_98 9) ho (by omega) (fun j hj => by have := hL.d j hj; omega) (by rw [m1.row, if_pos rfl]; rfl) (by omega) (by show C.next < G.next; omega) (by omega) (fun hj => by have := hL.d _ hj; omega) (by omega) (by simp) (hHC.trans (.new m1))⟩

end Go.Eng

namespace Go.Eng
open Go Go.Proofs
theorem top_8 (w : Bool) (hwS : Sh.bools (.fld 0 (.num .i64) (.fld 1 (.list 1 (.num .u8)) (.fld 2 (.num .i64) (.fld 3 (.list 2 (.fld 0 (.num .i64) (.fld 1 (.num .i64) .nil))) .nil)))) = true → w = true) (H : AHeap) (cs : List Value) (ns : List Int) (ss : List ByteArray) (D : List Nat) (hcl : cs.length = 4) (hone : cs.all oneC = true) (hR : Rd H ⟨false, w⟩ (.fld 0 (.num .i64) (.fld 1 (.list 1 (.num .u8)) (.fld 2 (.num .i64) (.fld 3 (.list 2 (.fld 0 (.num .i64) (.fld 1 (.num .i64) .nil))) .nil)))) cs 0 ns ss D) (hD : ∀ j ∈ D, j < H.next) (l1 : ns.length ≤ 10000000) (l2 : ss.length ≤ 10000000) :
    WF E0 8 [.agg cs.toArray] H fun q => q.1 = .bool true := by
  have hcalls : ∀ f ∈ ([88, 91, 93, 96] : List FuncId), CallOK' E0 3 9 42 f (.fld 0 (.num .i64) (.fld 1 (.list 1 (.num .u8)) (.fld 2 (.num .i64) (.fld 3 (.list 2 (.fld 0 (.num .i64) (.fld 1 (.num .i64) .nil))) .nil)))) ∧ E0.ext f = none := by
    intro f hf
    simp only [List.mem_cons, List.not_mem_nil, or_false] at hf
    rcases hf with rfl | rfl | rfl | rfl
    · exact ⟨call_88, rfl⟩
    · exact ⟨call_91, rfl⟩
    · exact ⟨call_93, rfl⟩
    · exact ⟨call_96, rfl⟩
  refine WF.k Tryz.func8 rfl rfl ?_
  refine KC.seq (KC.region ?_)
  refine KO.box (rfl) ((boxAgg hone)) rfl rfl fun G0 u0 => ?_
  refine KO.pv (PV.assign rfl) rfl rfl ?_
  refine KO.nil ?_
  rw [show cellsV (.agg cs.toArray) = cs by simp [cellsV]] at u0
  have hX : G0.row H.next = some ⟨119, true, true, cs⟩ := by rw [u0.row, if_pos rfl]
  have hn0 := u0.next
  refine KC.seq (KC.region ?_)
  refine KO.loadN ag119 sz119 rfl (hX) ((takeN_of (p := cs) (by rw [List.drop_zero, ← hcl, List.take_length]) hcl)) rfl rfl ?_
  refine KO.buildSlice el133 ez125 rfl rfl (rfl) rfl rfl fun G1 u1 => ?_
  refine KO.call rfl rfl rfl rfl (apart_85 (own := 86) (see := 87) (calls := [88, 91, 93, 96]) own_86 (see_87 9) hcalls rfl rfl (by decide) G1 cs ns ss D hcl hone w hwS (hR.frame fun j hj => by have := hD j hj; rw [u1.row, if_neg (by omega), u0.row, if_neg (by omega)]) (fun j hj => by have := hD j hj; rw [u1.next]; omega) l1 l2 G0.next (by rw [u1.row, if_pos rfl]; rfl) (by rw [u1.next]; omega)) fun v2 G2 q2 => ?_
  dsimp only at q2
  subst q2
  refine KO.pv (PV.move rfl) rfl rfl ?_
  refine KO.call rfl rfl rfl rfl (WF.sum (Q := fun q => q.1 = .bool true) rfl rfl) fun v3 G3 q3 => ?_
  dsimp only at q3
  subst q3
  refine KO.pv (PV.pickT rfl rfl rfl) rfl rfl ?_
  refine KO.pv (PV.assign rfl) rfl rfl ?_
  refine KO.nil ?_
  exact KC.ret ⟨rfl, _, rfl, rfl⟩

end Go.Eng
