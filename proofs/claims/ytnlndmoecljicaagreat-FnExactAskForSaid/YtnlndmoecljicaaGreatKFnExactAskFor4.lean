-- Joined and shortened by a program of this session (wip/tools/shakecopy.py): the words of the print, texts of pp.sh and of mine.
import Derived.Test.YtnlndmoecljicaaGreatKFnExactAskFor3
import Derived.RegionTactic
import Derived.IntWalk
import Derived.RangeFuncNested
import Derived.RangeFuncBound
import Derived.RangeFuncCalls
import Derived.RangeFuncLeaves
import Derived.Shelf.Abstract
import Derived.Shelf.RegionOpen
import Derived.WalkKit
import Derived.OwnWalkIn
import Derived.TacticsInMore
import Derived.LoopNIn
import Derived.LoopIn
import Derived.WalkLawsBesides
import Derived.RegionIn
import Derived.Lib.SliceRun
section
namespace Go.Proofs.YtnlndmoecljicaaGreat.Q
open Go.RowKit Go.Proofs.YtnlndmoecljicaaGreatW.PrintWords Go.Proofs.YtnlndmoecljicaaGreatW.PrintLast Go.Proofs.YtnlndmoecljicaaGreatW.PrintMore
attribute [local go_sem] max2_int min2_int max_two min_two max_three min_three max_four min_four   -- for this text's walks alone
set_option linter.unusedVariables false
set_option linter.unusedSimpArgs false
def laws_eqMsgS.l0 : Nat → List (S65) → List (S65) → Int → Option (Bool)
 | 0, _, _, _ => none
 | k + 1, x0, x1, x5 => if x5 < (x0.length : Int) then (if 0 ≤ x5 then (if x5 < (x1.length : Int) then ((laws_eqMsg.f k ((rd_T65 x0 x5).f0) ((rd_T65 x0 x5).f1) ((rd_T65 x0 x5).f2) ((rd_T65 x0 x5).f3.f0) ((rd_T65 x0 x5).f3.f1) ((rd_T65 x0 x5).f4) ((rd_T65 x0 x5).f5) ((rd_T65 x1 x5).f0) ((rd_T65 x1 x5).f1) ((rd_T65 x1 x5).f2) ((rd_T65 x1 x5).f3.f0) ((rd_T65 x1 x5).f3.f1) ((rd_T65 x1 x5).f4) ((rd_T65 x1 x5).f5)).bind fun t603 => (if t603 = true then (laws_eqMsgS.l0 k x0 x1 (wrap64 (x5 + 1))) else (none))) else (none)) else (none)) else (some true)
def laws_eqMsgS.f (k : Nat) (l0 : List (S65)) (l1 : List (S65)) : Option (Bool) := if (l0.length : Int) = (l1.length : Int) then (laws_eqMsgS.l0 k l0 l1 0) else (none)
def laws_eqMsgS.T6 : Bool × List (List Nat × List Nat) := (true, [([], []), ([], []), ([0, 1], [0, 1]), ([2], [2]), ([], []), ([], []), ([4, 5], [4, 5]), ([6], [6]), ([3, 7], [3, 7]), ([8], [8])])
def laws_eqMsgS.B6 : List Nat := [0, 0, 3, 7, 0, 0, 48, 112, 255, 511]
theorem laws_eqMsgS.tab6 : rtab .any (opsOf Tryz.f15 6) = laws_eqMsgS.T6 := by kernel_rfl
theorem laws_eqMsgS.bits6 : waitsOk laws_eqMsgS.T6.2 laws_eqMsgS.B6 = true := by kernel_rfl
set_option maxHeartbeats 8000000 in
set_option maxRecDepth 100000 in
theorem laws_eqMsgS.calls (k : Nat) (A0 : Option Addr) (c0 : Nat) (l0 : List (S65)) (A1 : Option Addr) (c1 : Nat) (l1 : List (S65)) (r : Bool) (w : World) (hr0 : Kd.C k65 w A0 l0.length l0) (hc0 : l0.length ≤ c0) (hr1 : Kd.C k65 w A1 l1.length l1) (hc1 : l1.length ≤ c1) (h : laws_eqMsgS.f k l0 l1 = some r) :
  Calls Tryz.prog 15 #[.slice A0 l0.length c0, .slice A1 l1.length c1] w fun e w' => e = .returned (.bool r) ∧ Below w.heap.size w w' := by
 have hu65 := Tryz.underlying65
 have HR0 := Aside0.mk hr0
 have HC0 := Aside0.mk hc0
 clear hr0 hc0
 have HR1 := Aside0.mk hr1
 have HC1 := Aside0.mk hc1
 clear hr1 hc1
 have HB := Aside0.mk (Below.refl w.heap.size w)
 have H : (if (l0.length : Int) = (l1.length : Int) then (laws_eqMsgS.l0 k l0 l1 0) else (none)) = some r := h
 clear h
 replace H := ip_ H; obtain ⟨c3, H⟩ := H
 have c3b0 : ((l0.length : Int) == (l1.length : Int)) = true := beq_iff_eq.mpr c3
 have c3b1 : ((l0.length : Int) != (l1.length : Int)) = false := bne_eq_false_iff_eq.mpr c3
 have c3b2 : (l0.length == l1.length) = true := by first | simpa using c3 | (simp at c3 ⊢; omega)
 clear c3
 have H' := Aside0.mk H
 clear H
 go_enter Tryz.func15, Tryz.ntmps15
 go_wp2
 go_loopg [5] k (fun kq v5 w' => ∃ (x5_1 : Int), v5 = .int .i64 x5_1 ∧ Aside0 (laws_eqMsgS.l0 kq l0 l1 x5_1 = some r) ∧ Aside0 (kq ≤ k) ∧ Aside0 (Below w.heap.size w w'))
 case atStart => exact ⟨(0), e1_, H', ⟨Nat.le_refl _⟩, ⟨bw_ HB⟩⟩
 case round =>
  clear H'
  try clear c3
  try clear c3b0
  try clear c3b1
  try clear c3b2
  obtain ⟨x5_1, rfl, HA, HK1, HB⟩ := hrel
  cases gk with
  | zero => exact absurd HA.out (by simp [laws_eqMsgS.l0])
  | succ k1 =>
   have H := HA.out
   clear HA
   simp only [laws_eqMsgS.l0] at H
   replace H := itd_ H; obtain ⟨c4b0, H⟩ | ⟨c4b0, H⟩ := H
   ·replace H := ipd_ H; obtain ⟨c5b0, H⟩ := H
    replace H := ipd_ H; obtain ⟨c6b0, H⟩ := H
    replace H := bi_ H; obtain ⟨t603, A7, H⟩ := H
    replace H := ipb_ H; obtain ⟨rfl, H⟩ := H
    have H' := Aside0.mk H
    clear H
    try go_wp2
    replace HB := Aside0.mk (below_drew1 HB.out)
    have p601 : 0 ≤ (x5_1 : Int) := of_decide_eq_true as_
    have q601 : x5_1 < (l0.length : Int) := of_decide_eq_true as_
    obtain ⟨ad601, A601_6, c601_6, e601, hx601_0, hx601_1, hx601_2, hx601_3, hx601_4, hx601_5, hx601_6, hl601_6, hi601_6⟩ := at_T65 HR0.out x5_1 p601 q601
    have hw601_6 := hx601_6
    have hw601_5 := hx601_5
    have hw601_4 := hx601_4
    have hw601_3 := hx601_3
    have hw601_2 := hx601_2
    have hw601_1 := hx601_1
    have hw601_0 := hx601_0
    cases e601
    replace hx601_0 := cw_ HB hx601_0
    replace hx601_1 := cw_ HB hx601_1
    replace hx601_2 := cw_ HB hx601_2
    replace hx601_3 := cw_ HB hx601_3
    replace hx601_4 := cw_ HB hx601_4
    replace hx601_5 := cw_ HB hx601_5
    replace hx601_6 := cw_ HB hx601_6
    have HR601_6 := Aside0.mk hi601_6
    have HC601_6 := Aside0.mk hl601_6
    clear hi601_6 hl601_6
    replace p601 := eq_true p601
    replace q601 := eq_true q601
    have p602 : 0 ≤ (x5_1 : Int) := of_decide_eq_true as_
    have q602 : x5_1 < (l1.length : Int) := of_decide_eq_true as_
    obtain ⟨ad602, A602_6, c602_6, e602, hx602_0, hx602_1, hx602_2, hx602_3, hx602_4, hx602_5, hx602_6, hl602_6, hi602_6⟩ := at_T65 HR1.out x5_1 p602 q602
    have hw602_6 := hx602_6
    have hw602_5 := hx602_5
    have hw602_4 := hx602_4
    have hw602_3 := hx602_3
    have hw602_2 := hx602_2
    have hw602_1 := hx602_1
    have hw602_0 := hx602_0
    cases e602
    replace hx602_0 := cw_ HB hx602_0
    replace hx602_1 := cw_ HB hx602_1
    replace hx602_2 := cw_ HB hx602_2
    replace hx602_3 := cw_ HB hx602_3
    replace hx602_4 := cw_ HB hx602_4
    replace hx602_5 := cw_ HB hx602_5
    replace hx602_6 := cw_ HB hx602_6
    have HR602_6 := Aside0.mk hi602_6
    have HC602_6 := Aside0.mk hl602_6
    clear hi602_6 hl602_6
    replace p602 := eq_true p602
    replace q602 := eq_true q602
    refine start_ (n := 10) (S := fun w' => w'.cell? (ad601.add ((x5_1).toNat * 7)) = some (.int .i64 ((rd_T65 l0 x5_1).f0)) ∧ w'.cell? ⟨(ad601.add ((x5_1).toNat * 7)).block, (ad601.add ((x5_1).toNat * 7)).off + 1, none⟩ = some (.int .i64 ((rd_T65 l0 x5_1).f1)) ∧ w'.cell? ⟨(ad601.add ((x5_1).toNat * 7)).block, (ad601.add ((x5_1).toNat * 7)).off + 2, none⟩ = some (.int .i64 ((rd_T65 l0 x5_1).f2)) ∧ w'.cell? ⟨(ad601.add ((x5_1).toNat * 7)).block, (ad601.add ((x5_1).toNat * 7)).off + 3, none⟩ = some (.int .i64 ((rd_T65 l0 x5_1).f3.f0)) ∧ w'.cell? ⟨(ad601.add ((x5_1).toNat * 7)).block, (ad601.add ((x5_1).toNat * 7)).off + 4, none⟩ = some (.string ((rd_T65 l0 x5_1).f3.f1)) ∧ w'.cell? ⟨(ad601.add ((x5_1).toNat * 7)).block, (ad601.add ((x5_1).toNat * 7)).off + 5, none⟩ = some (.int .i64 ((rd_T65 l0 x5_1).f4)) ∧ w'.cell? ⟨(ad601.add ((x5_1).toNat * 7)).block, (ad601.add ((x5_1).toNat * 7)).off + 6, none⟩ = some (.slice A601_6 ((rd_T65 l0 x5_1).f5).length c601_6) ∧ w'.cell? (ad602.add ((x5_1).toNat * 7)) = some (.int .i64 ((rd_T65 l1 x5_1).f0)) ∧ w'.cell? ⟨(ad602.add ((x5_1).toNat * 7)).block, (ad602.add ((x5_1).toNat * 7)).off + 1, none⟩ = some (.int .i64 ((rd_T65 l1 x5_1).f1)) ∧ w'.cell? ⟨(ad602.add ((x5_1).toNat * 7)).block, (ad602.add ((x5_1).toNat * 7)).off + 2, none⟩ = some (.int .i64 ((rd_T65 l1 x5_1).f2)) ∧ w'.cell? ⟨(ad602.add ((x5_1).toNat * 7)).block, (ad602.add ((x5_1).toNat * 7)).off + 3, none⟩ = some (.int .i64 ((rd_T65 l1 x5_1).f3.f0)) ∧ w'.cell? ⟨(ad602.add ((x5_1).toNat * 7)).block, (ad602.add ((x5_1).toNat * 7)).off + 4, none⟩ = some (.string ((rd_T65 l1 x5_1).f3.f1)) ∧ w'.cell? ⟨(ad602.add ((x5_1).toNat * 7)).block, (ad602.add ((x5_1).toNat * 7)).off + 5, none⟩ = some (.int .i64 ((rd_T65 l1 x5_1).f4)) ∧ w'.cell? ⟨(ad602.add ((x5_1).toNat * 7)).block, (ad602.add ((x5_1).toNat * 7)).off + 6, none⟩ = some (.slice A602_6 ((rd_T65 l1 x5_1).f5).length c602_6)) (ds := []) (lz_ 10 0) (by kernel_rfl) rfl rfl ⟨(cw_ HB hw601_0), (cw_ HB hw601_1), (cw_ HB hw601_2), (cw_ HB hw601_3), (cw_ HB hw601_4), (cw_ HB hw601_5), (cw_ HB hw601_6), (cw_ HB hw602_0), (cw_ HB hw602_1), (cw_ HB hw602_2), (cw_ HB hw602_3), (cw_ HB hw602_4), (cw_ HB hw602_5), (cw_ HB hw602_6)⟩ (fun hHeld => ?_); refine with_tabW laws_eqMsgS.tab6 laws_eqMsgS.bits6 (fun HT_ HW_ => ?_)
    generalize wr.drew = w9 at HB HR601_6 HR602_6 hx601_0 hx601_1 hx601_2 hx601_3 hx601_4 hx601_5 hx601_6 hx602_0 hx602_1 hx602_2 hx602_3 hx602_4 hx602_5 hx602_6 hHeld ⊢
    refine pt_ 0 17 1 ?_
    refine pt_ 1 18 3 ?_
    refine pt_ 2 19 7 ?_
    refine pt_ 4 21 23 ?_
    refine pt_ 5 22 55 ?_
    refine pt_ 6 23 119 ?_
    refine tt_ 3 20 127 ?_
    refine tt_ 7 24 255 ?_
    refine one_ (i := 8) (N := some 25) (lz_ 10 511) rfl rfl (one_of HT_.out (by kernel_rfl)) (by decide) (fun K hK => ?_)
    refine gf_ Tryz.func44 (laws_eqMsg.calls k1 ((rd_T65 l0 x5_1).f0) ((rd_T65 l0 x5_1).f1) ((rd_T65 l0 x5_1).f2) ((rd_T65 l0 x5_1).f3.f0) ((rd_T65 l0 x5_1).f3.f1) ((rd_T65 l0 x5_1).f4) _ _ ((rd_T65 l0 x5_1).f5) ((rd_T65 l1 x5_1).f0) ((rd_T65 l1 x5_1).f1) ((rd_T65 l1 x5_1).f2) ((rd_T65 l1 x5_1).f3.f0) ((rd_T65 l1 x5_1).f3.f1) ((rd_T65 l1 x5_1).f4) _ _ ((rd_T65 l1 x5_1).f5) true _ (cb_ HR601_6 HB) HC601_6.out (cb_ HR602_6 HB) HC602_6.out A7.out) ?_
    rintro e w10 ⟨rfl, hb⟩
    refine ⟨_, rfl, ?_⟩
    replace HB := ss_ HB hb
    clear hb
    refine hK.out _ _ ⟨(cw_ HB hw601_0), (cw_ HB hw601_1), (cw_ HB hw601_2), (cw_ HB hw601_3), (cw_ HB hw601_4), (cw_ HB hw601_5), (cw_ HB hw601_6), (cw_ HB hw602_0), (cw_ HB hw602_1), (cw_ HB hw602_2), (cw_ HB hw602_3), (cw_ HB hw602_4), (cw_ HB hw602_5), (cw_ HB hw602_6)⟩ (fun hHeld => ?_)
    clear hK K
    refine no_ 25 ?_
    refine pt_ 9 26 1023 ?_
    refine done_ (done_of HT_.out (by kernel_rfl)) ?_
    try go_wp2
    go_roundg k1
    case measure => have := HK1.out; omega
    case rel => exact ⟨(wrap64 (x5_1 + 1)), e1_, H', ⟨by have := HK1.out; omega⟩, ⟨bw_ HB⟩⟩
   ·obtain rfl := Option.some.inj H
    go_wp2
    go_ret
    exact ⟨e2_, bw_ HB⟩
def laws_heldMsgS.l0 : Nat → List (S65) → Int → Int → Option (Int)
 | 0, _, _, _ => none
 | k + 1, x0, x1, x5 => if x5 < (x0.length : Int) then (if 0 ≤ x5 then (if ((rd_T65 x0 x5).f0) = x1 then (if ((rd_T65 x0 x5).f1) = (wrap64 (x1 + 1)) then (if ((rd_T65 x0 x5).f2) = (wrap64 ((wrap64 (x1 + 1)) + 1)) then (if ((rd_T65 x0 x5).f3.f0) = (wrap64 ((wrap64 ((wrap64 (x1 + 1)) + 1)) + 1)) then ((laws_markText.f k (wrap64 ((wrap64 ((wrap64 ((wrap64 (x1 + 1)) + 1)) + 1)) + 1))).bind fun t606 => (if ((rd_T65 x0 x5).f3.f1).toList = t606.toList then (if ((rd_T65 x0 x5).f4) = (wrap64 ((wrap64 ((wrap64 ((wrap64 ((wrap64 (x1 + 1)) + 1)) + 1)) + 1)) + 1)) then ((laws_heldStringS.f k ((rd_T65 x0 x5).f5) (wrap64 ((wrap64 ((wrap64 ((wrap64 ((wrap64 ((wrap64 (x1 + 1)) + 1)) + 1)) + 1)) + 1)) + 1))).bind fun t609 => (if t609 < 0 then (some (-1)) else (laws_heldMsgS.l0 k x0 t609 (wrap64 (x5 + 1))))) else (some (-1))) else (some (-1)))) else (some (-1))) else (some (-1))) else (some (-1))) else (some (-1))) else (none)) else (some x1)
def laws_heldMsgS.f (k : Nat) (l0 : List (S65)) (a1 : Int) : Option (Int) := laws_heldMsgS.l0 k l0 a1 0
def laws_heldMsgS.T16 : Bool × List (List Nat × List Nat) := (true, [([], []), ([], []), ([0, 1], [0, 1]), ([2], [2]), ([3], [3]), ([4], [4]), ([], []), ([6], [6]), ([5, 7], [5, 7])])
def laws_heldMsgS.B16 : List Nat := [0, 0, 3, 7, 15, 31, 0, 64, 255]
theorem laws_heldMsgS.tab16 : rtab .any (opsOf Tryz.f21 16) = laws_heldMsgS.T16 := by kernel_rfl
theorem laws_heldMsgS.bits16 : waitsOk laws_heldMsgS.T16.2 laws_heldMsgS.B16 = true := by kernel_rfl
set_option maxHeartbeats 8000000 in
set_option maxRecDepth 100000 in
theorem laws_heldMsgS.calls (k : Nat) (A0 : Option Addr) (c0 : Nat) (l0 : List (S65)) (a1 : Int) (r : Int) (w : World) (hr0 : Kd.C k65 w A0 l0.length l0) (hc0 : l0.length ≤ c0) (h : laws_heldMsgS.f k l0 a1 = some r) :
  Calls Tryz.prog 21 #[.slice A0 l0.length c0, .int .i64 a1] w fun e w' => e = .returned (.int .i64 r) ∧ Below w.heap.size w w' := by
 have HR0 := Aside0.mk hr0
 have HC0 := Aside0.mk hc0
 clear hr0 hc0
 have HB := Aside0.mk (Below.refl w.heap.size w)
 have H : (laws_heldMsgS.l0 k l0 a1 0) = some r := h
 clear h
 have H' := Aside0.mk H
 clear H
 go_enter Tryz.func21, Tryz.ntmps21
 go_wp2
 go_loopg [1, 5] k (fun kq v1 v5 w' => ∃ (x1_1 : Int) (x5_1 : Int), v1 = .int .i64 x1_1 ∧ v5 = .int .i64 x5_1 ∧ Aside0 (laws_heldMsgS.l0 kq l0 x1_1 x5_1 = some r) ∧ Aside0 (kq ≤ k) ∧ Aside0 (Below w.heap.size w w'))
 case atStart => exact ⟨(a1), (0), e1_, e1_, H', ⟨Nat.le_refl _⟩, ⟨bw_ HB⟩⟩
 case round =>
  clear H'
  obtain ⟨x1_1, x5_1, rfl, rfl, HA, HK1, HB⟩ := hrel
  cases gk with
  | zero => exact absurd HA.out (by simp [laws_heldMsgS.l0])
  | succ k1 =>
   have H := HA.out
   clear HA
   simp only [laws_heldMsgS.l0] at H
   replace H := itd_ H; obtain ⟨c3b0, H⟩ | ⟨c3b0, H⟩ := H
   ·replace H := ipd_ H; obtain ⟨c4b0, H⟩ := H
    replace H := it_ H; obtain ⟨c5, H⟩ | ⟨c5, H⟩ := H
    ·have c5b0 : (((rd_T65 l0 x5_1).f0) == x1_1) = true := beq_iff_eq.mpr c5
     have c5b1 : (((rd_T65 l0 x5_1).f0) != x1_1) = false := bne_eq_false_iff_eq.mpr c5
     clear c5
     replace H := it_ H; obtain ⟨c6, H⟩ | ⟨c6, H⟩ := H
     ·have c6b0 : (((rd_T65 l0 x5_1).f1) == (wrap64 (x1_1 + 1))) = true := beq_iff_eq.mpr c6
      have c6b1 : (((rd_T65 l0 x5_1).f1) != (wrap64 (x1_1 + 1))) = false := bne_eq_false_iff_eq.mpr c6
      clear c6
      replace H := it_ H; obtain ⟨c7, H⟩ | ⟨c7, H⟩ := H
      ·have c7b0 : (((rd_T65 l0 x5_1).f2) == (wrap64 ((wrap64 (x1_1 + 1)) + 1))) = true := beq_iff_eq.mpr c7
       have c7b1 : (((rd_T65 l0 x5_1).f2) != (wrap64 ((wrap64 (x1_1 + 1)) + 1))) = false := bne_eq_false_iff_eq.mpr c7
       clear c7
       replace H := it_ H; obtain ⟨c8, H⟩ | ⟨c8, H⟩ := H
       ·have c8b0 : (((rd_T65 l0 x5_1).f3.f0) == (wrap64 ((wrap64 ((wrap64 (x1_1 + 1)) + 1)) + 1))) = true := beq_iff_eq.mpr c8
        have c8b1 : (((rd_T65 l0 x5_1).f3.f0) != (wrap64 ((wrap64 ((wrap64 (x1_1 + 1)) + 1)) + 1))) = false := bne_eq_false_iff_eq.mpr c8
        clear c8
        replace H := bi_ H; obtain ⟨t606, A9, H⟩ := H
        replace H := it_ H; obtain ⟨c10, H⟩ | ⟨c10, H⟩ := H
        ·have c10b0 : (((rd_T65 l0 x5_1).f3.f1).toList == t606.toList) = true := beq_iff_eq.mpr c10
         have c10b1 : (((rd_T65 l0 x5_1).f3.f1).toList != t606.toList) = false := bne_eq_false_iff_eq.mpr c10
         clear c10
         replace H := it_ H; obtain ⟨c11, H⟩ | ⟨c11, H⟩ := H
         ·have c11b0 : (((rd_T65 l0 x5_1).f4) == (wrap64 ((wrap64 ((wrap64 ((wrap64 ((wrap64 (x1_1 + 1)) + 1)) + 1)) + 1)) + 1))) = true := beq_iff_eq.mpr c11
          have c11b1 : (((rd_T65 l0 x5_1).f4) != (wrap64 ((wrap64 ((wrap64 ((wrap64 ((wrap64 (x1_1 + 1)) + 1)) + 1)) + 1)) + 1))) = false := bne_eq_false_iff_eq.mpr c11
          clear c11
          replace H := bi_ H; obtain ⟨t609, A12, H⟩ := H
          replace H := itd_ H; obtain ⟨c13b0, H⟩ | ⟨c13b0, H⟩ := H
          ·obtain rfl := Option.some.inj H
           have p601 : 0 ≤ (x5_1 : Int) := of_decide_eq_true as_
           have q601 : x5_1 < (l0.length : Int) := of_decide_eq_true as_
           obtain ⟨ad601, A601_6, c601_6, e601, hx601_0, hx601_1, hx601_2, hx601_3, hx601_4, hx601_5, hx601_6, hl601_6, hi601_6⟩ := at_T65 HR0.out x5_1 p601 q601
           cases e601
           replace hx601_0 := cw_ HB hx601_0
           replace hx601_1 := cw_ HB hx601_1
           replace hx601_2 := cw_ HB hx601_2
           replace hx601_3 := cw_ HB hx601_3
           replace hx601_4 := cw_ HB hx601_4
           replace hx601_5 := cw_ HB hx601_5
           replace hx601_6 := cw_ HB hx601_6
           have HR601_6 := Aside0.mk hi601_6
           have HC601_6 := Aside0.mk hl601_6
           clear hi601_6 hl601_6
           replace p601 := eq_true p601
           replace q601 := eq_true q601
           have p602 : 0 ≤ (x5_1 : Int) := of_decide_eq_true as_
           have q602 : x5_1 < (l0.length : Int) := of_decide_eq_true as_
           obtain ⟨ad602, A602_6, c602_6, e602, hx602_0, hx602_1, hx602_2, hx602_3, hx602_4, hx602_5, hx602_6, hl602_6, hi602_6⟩ := at_T65 HR0.out x5_1 p602 q602
           obtain rfl : ad601 = ad602 := (by injection e602)
           replace hx602_0 := cw_ HB hx602_0
           replace hx602_1 := cw_ HB hx602_1
           replace hx602_2 := cw_ HB hx602_2
           replace hx602_3 := cw_ HB hx602_3
           replace hx602_4 := cw_ HB hx602_4
           replace hx602_5 := cw_ HB hx602_5
           replace hx602_6 := cw_ HB hx602_6
           have HR602_6 := Aside0.mk hi602_6
           have HC602_6 := Aside0.mk hl602_6
           clear hi602_6 hl602_6
           replace p602 := eq_true p602
           replace q602 := eq_true q602
           have ea_ := Option.some.inj (hx601_6.symm.trans hx602_6)
           injection ea_ with ea_ en_ ec_
           subst ea_
           subst ec_
           clear en_
           have p603 : 0 ≤ (x5_1 : Int) := of_decide_eq_true as_
           have q603 : x5_1 < (l0.length : Int) := of_decide_eq_true as_
           obtain ⟨ad603, A603_6, c603_6, e603, hx603_0, hx603_1, hx603_2, hx603_3, hx603_4, hx603_5, hx603_6, hl603_6, hi603_6⟩ := at_T65 HR0.out x5_1 p603 q603
           obtain rfl : ad601 = ad603 := (by injection e603)
           replace hx603_0 := cw_ HB hx603_0
           replace hx603_1 := cw_ HB hx603_1
           replace hx603_2 := cw_ HB hx603_2
           replace hx603_3 := cw_ HB hx603_3
           replace hx603_4 := cw_ HB hx603_4
           replace hx603_5 := cw_ HB hx603_5
           replace hx603_6 := cw_ HB hx603_6
           have HR603_6 := Aside0.mk hi603_6
           have HC603_6 := Aside0.mk hl603_6
           clear hi603_6 hl603_6
           replace p603 := eq_true p603
           replace q603 := eq_true q603
           have ea_ := Option.some.inj (hx601_6.symm.trans hx603_6)
           injection ea_ with ea_ en_ ec_
           subst ea_
           subst ec_
           clear en_
           have p604 : 0 ≤ (x5_1 : Int) := of_decide_eq_true as_
           have q604 : x5_1 < (l0.length : Int) := of_decide_eq_true as_
           obtain ⟨ad604, A604_6, c604_6, e604, hx604_0, hx604_1, hx604_2, hx604_3, hx604_4, hx604_5, hx604_6, hl604_6, hi604_6⟩ := at_T65 HR0.out x5_1 p604 q604
           obtain rfl : ad601 = ad604 := (by injection e604)
           replace hx604_0 := cw_ HB hx604_0
           replace hx604_1 := cw_ HB hx604_1
           replace hx604_2 := cw_ HB hx604_2
           replace hx604_3 := cw_ HB hx604_3
           replace hx604_4 := cw_ HB hx604_4
           replace hx604_5 := cw_ HB hx604_5
           replace hx604_6 := cw_ HB hx604_6
           have HR604_6 := Aside0.mk hi604_6
           have HC604_6 := Aside0.mk hl604_6
           clear hi604_6 hl604_6
           replace p604 := eq_true p604
           replace q604 := eq_true q604
           have ea_ := Option.some.inj (hx601_6.symm.trans hx604_6)
           injection ea_ with ea_ en_ ec_
           subst ea_
           subst ec_
           clear en_
           try go_wp2
           replace HB := Aside0.mk (below_drew1 HB.out)
           have p605 : 0 ≤ (x5_1 : Int) := of_decide_eq_true as_
           have q605 : x5_1 < (l0.length : Int) := of_decide_eq_true as_
           obtain ⟨ad605, A605_6, c605_6, e605, hx605_0, hx605_1, hx605_2, hx605_3, hx605_4, hx605_5, hx605_6, hl605_6, hi605_6⟩ := at_T65 HR0.out x5_1 p605 q605
           have hw605_6 := hx605_6
           have hw605_5 := hx605_5
           have hw605_4 := hx605_4
           have hw605_3 := hx605_3
           have hw605_2 := hx605_2
           have hw605_1 := hx605_1
           have hw605_0 := hx605_0
           obtain rfl : ad601 = ad605 := (by injection e605)
           replace hx605_0 := cw_ HB hx605_0
           replace hx605_1 := cw_ HB hx605_1
           replace hx605_2 := cw_ HB hx605_2
           replace hx605_3 := cw_ HB hx605_3
           replace hx605_4 := cw_ HB hx605_4
           replace hx605_5 := cw_ HB hx605_5
           replace hx605_6 := cw_ HB hx605_6
           have HR605_6 := Aside0.mk hi605_6
           have HC605_6 := Aside0.mk hl605_6
           clear hi605_6 hl605_6
           replace p605 := eq_true p605
           replace q605 := eq_true q605
           refine start_ (n := 9) (S := fun w' => w'.cell? (ad601.add ((x5_1).toNat * 7)) = some (.int .i64 ((rd_T65 l0 x5_1).f0)) ∧ w'.cell? ⟨(ad601.add ((x5_1).toNat * 7)).block, (ad601.add ((x5_1).toNat * 7)).off + 1, none⟩ = some (.int .i64 ((rd_T65 l0 x5_1).f1)) ∧ w'.cell? ⟨(ad601.add ((x5_1).toNat * 7)).block, (ad601.add ((x5_1).toNat * 7)).off + 2, none⟩ = some (.int .i64 ((rd_T65 l0 x5_1).f2)) ∧ w'.cell? ⟨(ad601.add ((x5_1).toNat * 7)).block, (ad601.add ((x5_1).toNat * 7)).off + 3, none⟩ = some (.int .i64 ((rd_T65 l0 x5_1).f3.f0)) ∧ w'.cell? ⟨(ad601.add ((x5_1).toNat * 7)).block, (ad601.add ((x5_1).toNat * 7)).off + 4, none⟩ = some (.string ((rd_T65 l0 x5_1).f3.f1)) ∧ w'.cell? ⟨(ad601.add ((x5_1).toNat * 7)).block, (ad601.add ((x5_1).toNat * 7)).off + 5, none⟩ = some (.int .i64 ((rd_T65 l0 x5_1).f4)) ∧ w'.cell? ⟨(ad601.add ((x5_1).toNat * 7)).block, (ad601.add ((x5_1).toNat * 7)).off + 6, none⟩ = some (.slice A605_6 ((rd_T65 l0 x5_1).f5).length c605_6)) (ds := []) (lz_ 9 0) (by kernel_rfl) rfl rfl ⟨(cw_ HB hw605_0), (cw_ HB hw605_1), (cw_ HB hw605_2), (cw_ HB hw605_3), (cw_ HB hw605_4), (cw_ HB hw605_5), (cw_ HB hw605_6)⟩ (fun hHeld => ?_); refine with_tabW laws_heldMsgS.tab16 laws_heldMsgS.bits16 (fun HT_ HW_ => ?_)
           generalize wr.drew = w14 at HB HR605_6 hx605_0 hx605_1 hx605_2 hx605_3 hx605_4 hx605_5 hx605_6 hHeld ⊢
           refine pt_ 0 49 1 ?_
           refine pt_ 1 50 3 ?_
           refine pt_ 2 51 7 ?_
           refine pt_ 3 52 15 ?_
           refine pt_ 4 53 31 ?_
           refine pt_ 6 55 95 ?_
           refine tt_ 5 54 127 ?_
           refine one_ (i := 7) (N := some 56) (lz_ 9 255) rfl rfl (one_of HT_.out (by kernel_rfl)) (by decide) (fun K hK => ?_)
           refine gf_ Tryz.func48 (laws_markText.calls k1 (wrap64 ((wrap64 ((wrap64 ((wrap64 (x1_1 + 1)) + 1)) + 1)) + 1)) t606 _ A9.out) ?_
           rintro e w15 ⟨rfl, hb⟩
           refine ⟨_, rfl, ?_⟩
           replace HB := ss_ HB hb
           clear hb
           refine hK.out _ _ ⟨(cw_ HB hw605_0), (cw_ HB hw605_1), (cw_ HB hw605_2), (cw_ HB hw605_3), (cw_ HB hw605_4), (cw_ HB hw605_5), (cw_ HB hw605_6)⟩ (fun hHeld => ?_)
           clear hK K
           refine no_ 56 ?_
           refine pt_ 8 57 511 ?_
           refine done_ (done_of HT_.out (by kernel_rfl)) ?_
           have p607 : 0 ≤ (x5_1 : Int) := of_decide_eq_true as_
           have q607 : x5_1 < (l0.length : Int) := of_decide_eq_true as_
           obtain ⟨ad607, A607_6, c607_6, e607, hx607_0, hx607_1, hx607_2, hx607_3, hx607_4, hx607_5, hx607_6, hl607_6, hi607_6⟩ := at_T65 HR0.out x5_1 p607 q607
           obtain rfl : ad601 = ad607 := (by injection e607)
           replace hx607_0 := cw_ HB hx607_0
           replace hx607_1 := cw_ HB hx607_1
           replace hx607_2 := cw_ HB hx607_2
           replace hx607_3 := cw_ HB hx607_3
           replace hx607_4 := cw_ HB hx607_4
           replace hx607_5 := cw_ HB hx607_5
           replace hx607_6 := cw_ HB hx607_6
           have HR607_6 := Aside0.mk hi607_6
           have HC607_6 := Aside0.mk hl607_6
           clear hi607_6 hl607_6
           replace p607 := eq_true p607
           replace q607 := eq_true q607
           have p608 : 0 ≤ (x5_1 : Int) := of_decide_eq_true as_
           have q608 : x5_1 < (l0.length : Int) := of_decide_eq_true as_
           obtain ⟨ad608, A608_6, c608_6, e608, hx608_0, hx608_1, hx608_2, hx608_3, hx608_4, hx608_5, hx608_6, hl608_6, hi608_6⟩ := at_T65 HR0.out x5_1 p608 q608
           obtain rfl : ad601 = ad608 := (by injection e608)
           replace hx608_0 := cw_ HB hx608_0
           replace hx608_1 := cw_ HB hx608_1
           replace hx608_2 := cw_ HB hx608_2
           replace hx608_3 := cw_ HB hx608_3
           replace hx608_4 := cw_ HB hx608_4
           replace hx608_5 := cw_ HB hx608_5
           replace hx608_6 := cw_ HB hx608_6
           have HR608_6 := Aside0.mk hi608_6
           have HC608_6 := Aside0.mk hl608_6
           clear hi608_6 hl608_6
           replace p608 := eq_true p608
           replace q608 := eq_true q608
           have ea_ := Option.some.inj (hx607_6.symm.trans hx608_6)
           injection ea_ with ea_ en_ ec_
           subst ea_
           subst ec_
           clear en_
           clear hHeld
           try go_wp2_with (first | ((with_reducible refine gq_ 50 75 ?_); refine gc_ 75 Tryz.func50 (laws_heldStringS.calls k1 _ _ ((rd_T65 l0 x5_1).f5) (wrap64 ((wrap64 ((wrap64 ((wrap64 ((wrap64 ((wrap64 (x1_1 + 1)) + 1)) + 1)) + 1)) + 1)) + 1)) t609 _ (cb_ HR608_6 HB) HC608_6.out A12.out) ?_; rintro e w16 ⟨rfl, hb⟩; refine ⟨_, rfl, ?_⟩; replace HB := ss_ HB hb; clear hb))
           go_ret
           exact ⟨e2_, bw_ HB⟩
          ·have H' := Aside0.mk H
           clear H
           have p601 : 0 ≤ (x5_1 : Int) := of_decide_eq_true as_
           have q601 : x5_1 < (l0.length : Int) := of_decide_eq_true as_
           obtain ⟨ad601, A601_6, c601_6, e601, hx601_0, hx601_1, hx601_2, hx601_3, hx601_4, hx601_5, hx601_6, hl601_6, hi601_6⟩ := at_T65 HR0.out x5_1 p601 q601
           cases e601
           replace hx601_0 := cw_ HB hx601_0
           replace hx601_1 := cw_ HB hx601_1
           replace hx601_2 := cw_ HB hx601_2
           replace hx601_3 := cw_ HB hx601_3
           replace hx601_4 := cw_ HB hx601_4
           replace hx601_5 := cw_ HB hx601_5
           replace hx601_6 := cw_ HB hx601_6
           have HR601_6 := Aside0.mk hi601_6
           have HC601_6 := Aside0.mk hl601_6
           clear hi601_6 hl601_6
           replace p601 := eq_true p601
           replace q601 := eq_true q601
           have p602 : 0 ≤ (x5_1 : Int) := of_decide_eq_true as_
           have q602 : x5_1 < (l0.length : Int) := of_decide_eq_true as_
           obtain ⟨ad602, A602_6, c602_6, e602, hx602_0, hx602_1, hx602_2, hx602_3, hx602_4, hx602_5, hx602_6, hl602_6, hi602_6⟩ := at_T65 HR0.out x5_1 p602 q602
           obtain rfl : ad601 = ad602 := (by injection e602)
           replace hx602_0 := cw_ HB hx602_0
           replace hx602_1 := cw_ HB hx602_1
           replace hx602_2 := cw_ HB hx602_2
           replace hx602_3 := cw_ HB hx602_3
           replace hx602_4 := cw_ HB hx602_4
           replace hx602_5 := cw_ HB hx602_5
           replace hx602_6 := cw_ HB hx602_6
           have HR602_6 := Aside0.mk hi602_6
           have HC602_6 := Aside0.mk hl602_6
           clear hi602_6 hl602_6
           replace p602 := eq_true p602
           replace q602 := eq_true q602
           have ea_ := Option.some.inj (hx601_6.symm.trans hx602_6)
           injection ea_ with ea_ en_ ec_
           subst ea_
           subst ec_
           clear en_
           have p603 : 0 ≤ (x5_1 : Int) := of_decide_eq_true as_
           have q603 : x5_1 < (l0.length : Int) := of_decide_eq_true as_
           obtain ⟨ad603, A603_6, c603_6, e603, hx603_0, hx603_1, hx603_2, hx603_3, hx603_4, hx603_5, hx603_6, hl603_6, hi603_6⟩ := at_T65 HR0.out x5_1 p603 q603
           obtain rfl : ad601 = ad603 := (by injection e603)
           replace hx603_0 := cw_ HB hx603_0
           replace hx603_1 := cw_ HB hx603_1
           replace hx603_2 := cw_ HB hx603_2
           replace hx603_3 := cw_ HB hx603_3
           replace hx603_4 := cw_ HB hx603_4
           replace hx603_5 := cw_ HB hx603_5
           replace hx603_6 := cw_ HB hx603_6
           have HR603_6 := Aside0.mk hi603_6
           have HC603_6 := Aside0.mk hl603_6
           clear hi603_6 hl603_6
           replace p603 := eq_true p603
           replace q603 := eq_true q603
           have ea_ := Option.some.inj (hx601_6.symm.trans hx603_6)
           injection ea_ with ea_ en_ ec_
           subst ea_
           subst ec_
           clear en_
           have p604 : 0 ≤ (x5_1 : Int) := of_decide_eq_true as_
           have q604 : x5_1 < (l0.length : Int) := of_decide_eq_true as_
           obtain ⟨ad604, A604_6, c604_6, e604, hx604_0, hx604_1, hx604_2, hx604_3, hx604_4, hx604_5, hx604_6, hl604_6, hi604_6⟩ := at_T65 HR0.out x5_1 p604 q604
           obtain rfl : ad601 = ad604 := (by injection e604)
           replace hx604_0 := cw_ HB hx604_0
           replace hx604_1 := cw_ HB hx604_1
           replace hx604_2 := cw_ HB hx604_2
           replace hx604_3 := cw_ HB hx604_3
           replace hx604_4 := cw_ HB hx604_4
           replace hx604_5 := cw_ HB hx604_5
           replace hx604_6 := cw_ HB hx604_6
           have HR604_6 := Aside0.mk hi604_6
           have HC604_6 := Aside0.mk hl604_6
           clear hi604_6 hl604_6
           replace p604 := eq_true p604
           replace q604 := eq_true q604
           have ea_ := Option.some.inj (hx601_6.symm.trans hx604_6)
           injection ea_ with ea_ en_ ec_
           subst ea_
           subst ec_
           clear en_
           try go_wp2
           replace HB := Aside0.mk (below_drew1 HB.out)
           have p605 : 0 ≤ (x5_1 : Int) := of_decide_eq_true as_
           have q605 : x5_1 < (l0.length : Int) := of_decide_eq_true as_
           obtain ⟨ad605, A605_6, c605_6, e605, hx605_0, hx605_1, hx605_2, hx605_3, hx605_4, hx605_5, hx605_6, hl605_6, hi605_6⟩ := at_T65 HR0.out x5_1 p605 q605
           have hw605_6 := hx605_6
           have hw605_5 := hx605_5
           have hw605_4 := hx605_4
           have hw605_3 := hx605_3
           have hw605_2 := hx605_2
           have hw605_1 := hx605_1
           have hw605_0 := hx605_0
           obtain rfl : ad601 = ad605 := (by injection e605)
           replace hx605_0 := cw_ HB hx605_0
           replace hx605_1 := cw_ HB hx605_1
           replace hx605_2 := cw_ HB hx605_2
           replace hx605_3 := cw_ HB hx605_3
           replace hx605_4 := cw_ HB hx605_4
           replace hx605_5 := cw_ HB hx605_5
           replace hx605_6 := cw_ HB hx605_6
           have HR605_6 := Aside0.mk hi605_6
           have HC605_6 := Aside0.mk hl605_6
           clear hi605_6 hl605_6
           replace p605 := eq_true p605
           replace q605 := eq_true q605
           refine start_ (n := 9) (S := fun w' => w'.cell? (ad601.add ((x5_1).toNat * 7)) = some (.int .i64 ((rd_T65 l0 x5_1).f0)) ∧ w'.cell? ⟨(ad601.add ((x5_1).toNat * 7)).block, (ad601.add ((x5_1).toNat * 7)).off + 1, none⟩ = some (.int .i64 ((rd_T65 l0 x5_1).f1)) ∧ w'.cell? ⟨(ad601.add ((x5_1).toNat * 7)).block, (ad601.add ((x5_1).toNat * 7)).off + 2, none⟩ = some (.int .i64 ((rd_T65 l0 x5_1).f2)) ∧ w'.cell? ⟨(ad601.add ((x5_1).toNat * 7)).block, (ad601.add ((x5_1).toNat * 7)).off + 3, none⟩ = some (.int .i64 ((rd_T65 l0 x5_1).f3.f0)) ∧ w'.cell? ⟨(ad601.add ((x5_1).toNat * 7)).block, (ad601.add ((x5_1).toNat * 7)).off + 4, none⟩ = some (.string ((rd_T65 l0 x5_1).f3.f1)) ∧ w'.cell? ⟨(ad601.add ((x5_1).toNat * 7)).block, (ad601.add ((x5_1).toNat * 7)).off + 5, none⟩ = some (.int .i64 ((rd_T65 l0 x5_1).f4)) ∧ w'.cell? ⟨(ad601.add ((x5_1).toNat * 7)).block, (ad601.add ((x5_1).toNat * 7)).off + 6, none⟩ = some (.slice A605_6 ((rd_T65 l0 x5_1).f5).length c605_6)) (ds := []) (lz_ 9 0) (by kernel_rfl) rfl rfl ⟨(cw_ HB hw605_0), (cw_ HB hw605_1), (cw_ HB hw605_2), (cw_ HB hw605_3), (cw_ HB hw605_4), (cw_ HB hw605_5), (cw_ HB hw605_6)⟩ (fun hHeld => ?_); refine with_tabW laws_heldMsgS.tab16 laws_heldMsgS.bits16 (fun HT_ HW_ => ?_)
           generalize wr.drew = w17 at HB HR605_6 hx605_0 hx605_1 hx605_2 hx605_3 hx605_4 hx605_5 hx605_6 hHeld ⊢
           refine pt_ 0 49 1 ?_
           refine pt_ 1 50 3 ?_
           refine pt_ 2 51 7 ?_
           refine pt_ 3 52 15 ?_
           refine pt_ 4 53 31 ?_
           refine pt_ 6 55 95 ?_
           refine tt_ 5 54 127 ?_
           refine one_ (i := 7) (N := some 56) (lz_ 9 255) rfl rfl (one_of HT_.out (by kernel_rfl)) (by decide) (fun K hK => ?_)
           refine gf_ Tryz.func48 (laws_markText.calls k1 (wrap64 ((wrap64 ((wrap64 ((wrap64 (x1_1 + 1)) + 1)) + 1)) + 1)) t606 _ A9.out) ?_
           rintro e w18 ⟨rfl, hb⟩
           refine ⟨_, rfl, ?_⟩
           replace HB := ss_ HB hb
           clear hb
           refine hK.out _ _ ⟨(cw_ HB hw605_0), (cw_ HB hw605_1), (cw_ HB hw605_2), (cw_ HB hw605_3), (cw_ HB hw605_4), (cw_ HB hw605_5), (cw_ HB hw605_6)⟩ (fun hHeld => ?_)
           clear hK K
           refine no_ 56 ?_
           refine pt_ 8 57 511 ?_
           refine done_ (done_of HT_.out (by kernel_rfl)) ?_
           have p607 : 0 ≤ (x5_1 : Int) := of_decide_eq_true as_
           have q607 : x5_1 < (l0.length : Int) := of_decide_eq_true as_
           obtain ⟨ad607, A607_6, c607_6, e607, hx607_0, hx607_1, hx607_2, hx607_3, hx607_4, hx607_5, hx607_6, hl607_6, hi607_6⟩ := at_T65 HR0.out x5_1 p607 q607
           obtain rfl : ad601 = ad607 := (by injection e607)
           replace hx607_0 := cw_ HB hx607_0
           replace hx607_1 := cw_ HB hx607_1
           replace hx607_2 := cw_ HB hx607_2
           replace hx607_3 := cw_ HB hx607_3
           replace hx607_4 := cw_ HB hx607_4
           replace hx607_5 := cw_ HB hx607_5
           replace hx607_6 := cw_ HB hx607_6
           have HR607_6 := Aside0.mk hi607_6
           have HC607_6 := Aside0.mk hl607_6
           clear hi607_6 hl607_6
           replace p607 := eq_true p607
           replace q607 := eq_true q607
           have p608 : 0 ≤ (x5_1 : Int) := of_decide_eq_true as_
           have q608 : x5_1 < (l0.length : Int) := of_decide_eq_true as_
           obtain ⟨ad608, A608_6, c608_6, e608, hx608_0, hx608_1, hx608_2, hx608_3, hx608_4, hx608_5, hx608_6, hl608_6, hi608_6⟩ := at_T65 HR0.out x5_1 p608 q608
           obtain rfl : ad601 = ad608 := (by injection e608)
           replace hx608_0 := cw_ HB hx608_0
           replace hx608_1 := cw_ HB hx608_1
           replace hx608_2 := cw_ HB hx608_2
           replace hx608_3 := cw_ HB hx608_3
           replace hx608_4 := cw_ HB hx608_4
           replace hx608_5 := cw_ HB hx608_5
           replace hx608_6 := cw_ HB hx608_6
           have HR608_6 := Aside0.mk hi608_6
           have HC608_6 := Aside0.mk hl608_6
           clear hi608_6 hl608_6
           replace p608 := eq_true p608
           replace q608 := eq_true q608
           have ea_ := Option.some.inj (hx607_6.symm.trans hx608_6)
           injection ea_ with ea_ en_ ec_
           subst ea_
           subst ec_
           clear en_
           clear hHeld
           try go_wp2_with (first | ((with_reducible refine gq_ 50 75 ?_); refine gc_ 75 Tryz.func50 (laws_heldStringS.calls k1 _ _ ((rd_T65 l0 x5_1).f5) (wrap64 ((wrap64 ((wrap64 ((wrap64 ((wrap64 ((wrap64 (x1_1 + 1)) + 1)) + 1)) + 1)) + 1)) + 1)) t609 _ (cb_ HR608_6 HB) HC608_6.out A12.out) ?_; rintro e w19 ⟨rfl, hb⟩; refine ⟨_, rfl, ?_⟩; replace HB := ss_ HB hb; clear hb))
           go_roundg k1
           case measure => have := HK1.out; omega
           case rel => exact ⟨(t609), (wrap64 (x5_1 + 1)), e1_, e1_, H', ⟨by have := HK1.out; omega⟩, ⟨bw_ HB⟩⟩
         ·have c11b0 : (((rd_T65 l0 x5_1).f4) == (wrap64 ((wrap64 ((wrap64 ((wrap64 ((wrap64 (x1_1 + 1)) + 1)) + 1)) + 1)) + 1))) = false := beq_eq_false_iff_ne.mpr c11
          have c11b1 : (((rd_T65 l0 x5_1).f4) != (wrap64 ((wrap64 ((wrap64 ((wrap64 ((wrap64 (x1_1 + 1)) + 1)) + 1)) + 1)) + 1))) = true := bne_iff_ne.mpr c11
          obtain rfl := Option.some.inj H
          have p601 : 0 ≤ (x5_1 : Int) := of_decide_eq_true as_
          have q601 : x5_1 < (l0.length : Int) := of_decide_eq_true as_
          obtain ⟨ad601, A601_6, c601_6, e601, hx601_0, hx601_1, hx601_2, hx601_3, hx601_4, hx601_5, hx601_6, hl601_6, hi601_6⟩ := at_T65 HR0.out x5_1 p601 q601
          cases e601
          replace hx601_0 := cw_ HB hx601_0
          replace hx601_1 := cw_ HB hx601_1
          replace hx601_2 := cw_ HB hx601_2
          replace hx601_3 := cw_ HB hx601_3
          replace hx601_4 := cw_ HB hx601_4
          replace hx601_5 := cw_ HB hx601_5
          replace hx601_6 := cw_ HB hx601_6
          have HR601_6 := Aside0.mk hi601_6
          have HC601_6 := Aside0.mk hl601_6
          clear hi601_6 hl601_6
          replace p601 := eq_true p601
          replace q601 := eq_true q601
          have p602 : 0 ≤ (x5_1 : Int) := of_decide_eq_true as_
          have q602 : x5_1 < (l0.length : Int) := of_decide_eq_true as_
          obtain ⟨ad602, A602_6, c602_6, e602, hx602_0, hx602_1, hx602_2, hx602_3, hx602_4, hx602_5, hx602_6, hl602_6, hi602_6⟩ := at_T65 HR0.out x5_1 p602 q602
          obtain rfl : ad601 = ad602 := (by injection e602)
          replace hx602_0 := cw_ HB hx602_0
          replace hx602_1 := cw_ HB hx602_1
          replace hx602_2 := cw_ HB hx602_2
          replace hx602_3 := cw_ HB hx602_3
          replace hx602_4 := cw_ HB hx602_4
          replace hx602_5 := cw_ HB hx602_5
          replace hx602_6 := cw_ HB hx602_6
          have HR602_6 := Aside0.mk hi602_6
          have HC602_6 := Aside0.mk hl602_6
          clear hi602_6 hl602_6
          replace p602 := eq_true p602
          replace q602 := eq_true q602
          have ea_ := Option.some.inj (hx601_6.symm.trans hx602_6)
          injection ea_ with ea_ en_ ec_
          subst ea_
          subst ec_
          clear en_
          have p603 : 0 ≤ (x5_1 : Int) := of_decide_eq_true as_
          have q603 : x5_1 < (l0.length : Int) := of_decide_eq_true as_
          obtain ⟨ad603, A603_6, c603_6, e603, hx603_0, hx603_1, hx603_2, hx603_3, hx603_4, hx603_5, hx603_6, hl603_6, hi603_6⟩ := at_T65 HR0.out x5_1 p603 q603
          obtain rfl : ad601 = ad603 := (by injection e603)
          replace hx603_0 := cw_ HB hx603_0
          replace hx603_1 := cw_ HB hx603_1
          replace hx603_2 := cw_ HB hx603_2
          replace hx603_3 := cw_ HB hx603_3
          replace hx603_4 := cw_ HB hx603_4
          replace hx603_5 := cw_ HB hx603_5
          replace hx603_6 := cw_ HB hx603_6
          have HR603_6 := Aside0.mk hi603_6
          have HC603_6 := Aside0.mk hl603_6
          clear hi603_6 hl603_6
          replace p603 := eq_true p603
          replace q603 := eq_true q603
          have ea_ := Option.some.inj (hx601_6.symm.trans hx603_6)
          injection ea_ with ea_ en_ ec_
          subst ea_
          subst ec_
          clear en_
          have p604 : 0 ≤ (x5_1 : Int) := of_decide_eq_true as_
          have q604 : x5_1 < (l0.length : Int) := of_decide_eq_true as_
          obtain ⟨ad604, A604_6, c604_6, e604, hx604_0, hx604_1, hx604_2, hx604_3, hx604_4, hx604_5, hx604_6, hl604_6, hi604_6⟩ := at_T65 HR0.out x5_1 p604 q604
          obtain rfl : ad601 = ad604 := (by injection e604)
          replace hx604_0 := cw_ HB hx604_0
          replace hx604_1 := cw_ HB hx604_1
          replace hx604_2 := cw_ HB hx604_2
          replace hx604_3 := cw_ HB hx604_3
          replace hx604_4 := cw_ HB hx604_4
          replace hx604_5 := cw_ HB hx604_5
          replace hx604_6 := cw_ HB hx604_6
          have HR604_6 := Aside0.mk hi604_6
          have HC604_6 := Aside0.mk hl604_6
          clear hi604_6 hl604_6
          replace p604 := eq_true p604
          replace q604 := eq_true q604
          have ea_ := Option.some.inj (hx601_6.symm.trans hx604_6)
          injection ea_ with ea_ en_ ec_
          subst ea_
          subst ec_
          clear en_
          try go_wp2
          replace HB := Aside0.mk (below_drew1 HB.out)
          have p605 : 0 ≤ (x5_1 : Int) := of_decide_eq_true as_
          have q605 : x5_1 < (l0.length : Int) := of_decide_eq_true as_
          obtain ⟨ad605, A605_6, c605_6, e605, hx605_0, hx605_1, hx605_2, hx605_3, hx605_4, hx605_5, hx605_6, hl605_6, hi605_6⟩ := at_T65 HR0.out x5_1 p605 q605
          have hw605_6 := hx605_6
          have hw605_5 := hx605_5
          have hw605_4 := hx605_4
          have hw605_3 := hx605_3
          have hw605_2 := hx605_2
          have hw605_1 := hx605_1
          have hw605_0 := hx605_0
          obtain rfl : ad601 = ad605 := (by injection e605)
          replace hx605_0 := cw_ HB hx605_0
          replace hx605_1 := cw_ HB hx605_1
          replace hx605_2 := cw_ HB hx605_2
          replace hx605_3 := cw_ HB hx605_3
          replace hx605_4 := cw_ HB hx605_4
          replace hx605_5 := cw_ HB hx605_5
          replace hx605_6 := cw_ HB hx605_6
          have HR605_6 := Aside0.mk hi605_6
          have HC605_6 := Aside0.mk hl605_6
          clear hi605_6 hl605_6
          replace p605 := eq_true p605
          replace q605 := eq_true q605
          refine start_ (n := 9) (S := fun w' => w'.cell? (ad601.add ((x5_1).toNat * 7)) = some (.int .i64 ((rd_T65 l0 x5_1).f0)) ∧ w'.cell? ⟨(ad601.add ((x5_1).toNat * 7)).block, (ad601.add ((x5_1).toNat * 7)).off + 1, none⟩ = some (.int .i64 ((rd_T65 l0 x5_1).f1)) ∧ w'.cell? ⟨(ad601.add ((x5_1).toNat * 7)).block, (ad601.add ((x5_1).toNat * 7)).off + 2, none⟩ = some (.int .i64 ((rd_T65 l0 x5_1).f2)) ∧ w'.cell? ⟨(ad601.add ((x5_1).toNat * 7)).block, (ad601.add ((x5_1).toNat * 7)).off + 3, none⟩ = some (.int .i64 ((rd_T65 l0 x5_1).f3.f0)) ∧ w'.cell? ⟨(ad601.add ((x5_1).toNat * 7)).block, (ad601.add ((x5_1).toNat * 7)).off + 4, none⟩ = some (.string ((rd_T65 l0 x5_1).f3.f1)) ∧ w'.cell? ⟨(ad601.add ((x5_1).toNat * 7)).block, (ad601.add ((x5_1).toNat * 7)).off + 5, none⟩ = some (.int .i64 ((rd_T65 l0 x5_1).f4)) ∧ w'.cell? ⟨(ad601.add ((x5_1).toNat * 7)).block, (ad601.add ((x5_1).toNat * 7)).off + 6, none⟩ = some (.slice A605_6 ((rd_T65 l0 x5_1).f5).length c605_6)) (ds := []) (lz_ 9 0) (by kernel_rfl) rfl rfl ⟨(cw_ HB hw605_0), (cw_ HB hw605_1), (cw_ HB hw605_2), (cw_ HB hw605_3), (cw_ HB hw605_4), (cw_ HB hw605_5), (cw_ HB hw605_6)⟩ (fun hHeld => ?_); refine with_tabW laws_heldMsgS.tab16 laws_heldMsgS.bits16 (fun HT_ HW_ => ?_)
          generalize wr.drew = w20 at HB HR605_6 hx605_0 hx605_1 hx605_2 hx605_3 hx605_4 hx605_5 hx605_6 hHeld ⊢
          refine pt_ 0 49 1 ?_
          refine pt_ 1 50 3 ?_
          refine pt_ 2 51 7 ?_
          refine pt_ 3 52 15 ?_
          refine pt_ 4 53 31 ?_
          refine pt_ 6 55 95 ?_
          refine tt_ 5 54 127 ?_
          refine one_ (i := 7) (N := some 56) (lz_ 9 255) rfl rfl (one_of HT_.out (by kernel_rfl)) (by decide) (fun K hK => ?_)
          refine gf_ Tryz.func48 (laws_markText.calls k1 (wrap64 ((wrap64 ((wrap64 ((wrap64 (x1_1 + 1)) + 1)) + 1)) + 1)) t606 _ A9.out) ?_
          rintro e w21 ⟨rfl, hb⟩
          refine ⟨_, rfl, ?_⟩
          replace HB := ss_ HB hb
          clear hb
          refine hK.out _ _ ⟨(cw_ HB hw605_0), (cw_ HB hw605_1), (cw_ HB hw605_2), (cw_ HB hw605_3), (cw_ HB hw605_4), (cw_ HB hw605_5), (cw_ HB hw605_6)⟩ (fun hHeld => ?_)
          clear hK K
          refine no_ 56 ?_
          refine pt_ 8 57 511 ?_
          refine done_ (done_of HT_.out (by kernel_rfl)) ?_
          have p607 : 0 ≤ (x5_1 : Int) := of_decide_eq_true as_
          have q607 : x5_1 < (l0.length : Int) := of_decide_eq_true as_
          obtain ⟨ad607, A607_6, c607_6, e607, hx607_0, hx607_1, hx607_2, hx607_3, hx607_4, hx607_5, hx607_6, hl607_6, hi607_6⟩ := at_T65 HR0.out x5_1 p607 q607
          obtain rfl : ad601 = ad607 := (by injection e607)
          replace hx607_0 := cw_ HB hx607_0
          replace hx607_1 := cw_ HB hx607_1
          replace hx607_2 := cw_ HB hx607_2
          replace hx607_3 := cw_ HB hx607_3
          replace hx607_4 := cw_ HB hx607_4
          replace hx607_5 := cw_ HB hx607_5
          replace hx607_6 := cw_ HB hx607_6
          have HR607_6 := Aside0.mk hi607_6
          have HC607_6 := Aside0.mk hl607_6
          clear hi607_6 hl607_6
          replace p607 := eq_true p607
          replace q607 := eq_true q607
          try go_wp2
          go_ret
          exact ⟨e2_, bw_ HB⟩
        ·have c10b0 : (((rd_T65 l0 x5_1).f3.f1).toList == t606.toList) = false := beq_eq_false_iff_ne.mpr c10
         have c10b1 : (((rd_T65 l0 x5_1).f3.f1).toList != t606.toList) = true := bne_iff_ne.mpr c10
         obtain rfl := Option.some.inj H
         have p601 : 0 ≤ (x5_1 : Int) := of_decide_eq_true as_
         have q601 : x5_1 < (l0.length : Int) := of_decide_eq_true as_
         obtain ⟨ad601, A601_6, c601_6, e601, hx601_0, hx601_1, hx601_2, hx601_3, hx601_4, hx601_5, hx601_6, hl601_6, hi601_6⟩ := at_T65 HR0.out x5_1 p601 q601
         cases e601
         replace hx601_0 := cw_ HB hx601_0
         replace hx601_1 := cw_ HB hx601_1
         replace hx601_2 := cw_ HB hx601_2
         replace hx601_3 := cw_ HB hx601_3
         replace hx601_4 := cw_ HB hx601_4
         replace hx601_5 := cw_ HB hx601_5
         replace hx601_6 := cw_ HB hx601_6
         have HR601_6 := Aside0.mk hi601_6
         have HC601_6 := Aside0.mk hl601_6
         clear hi601_6 hl601_6
         replace p601 := eq_true p601
         replace q601 := eq_true q601
         have p602 : 0 ≤ (x5_1 : Int) := of_decide_eq_true as_
         have q602 : x5_1 < (l0.length : Int) := of_decide_eq_true as_
         obtain ⟨ad602, A602_6, c602_6, e602, hx602_0, hx602_1, hx602_2, hx602_3, hx602_4, hx602_5, hx602_6, hl602_6, hi602_6⟩ := at_T65 HR0.out x5_1 p602 q602
         obtain rfl : ad601 = ad602 := (by injection e602)
         replace hx602_0 := cw_ HB hx602_0
         replace hx602_1 := cw_ HB hx602_1
         replace hx602_2 := cw_ HB hx602_2
         replace hx602_3 := cw_ HB hx602_3
         replace hx602_4 := cw_ HB hx602_4
         replace hx602_5 := cw_ HB hx602_5
         replace hx602_6 := cw_ HB hx602_6
         have HR602_6 := Aside0.mk hi602_6
         have HC602_6 := Aside0.mk hl602_6
         clear hi602_6 hl602_6
         replace p602 := eq_true p602
         replace q602 := eq_true q602
         have ea_ := Option.some.inj (hx601_6.symm.trans hx602_6)
         injection ea_ with ea_ en_ ec_
         subst ea_
         subst ec_
         clear en_
         have p603 : 0 ≤ (x5_1 : Int) := of_decide_eq_true as_
         have q603 : x5_1 < (l0.length : Int) := of_decide_eq_true as_
         obtain ⟨ad603, A603_6, c603_6, e603, hx603_0, hx603_1, hx603_2, hx603_3, hx603_4, hx603_5, hx603_6, hl603_6, hi603_6⟩ := at_T65 HR0.out x5_1 p603 q603
         obtain rfl : ad601 = ad603 := (by injection e603)
         replace hx603_0 := cw_ HB hx603_0
         replace hx603_1 := cw_ HB hx603_1
         replace hx603_2 := cw_ HB hx603_2
         replace hx603_3 := cw_ HB hx603_3
         replace hx603_4 := cw_ HB hx603_4
         replace hx603_5 := cw_ HB hx603_5
         replace hx603_6 := cw_ HB hx603_6
         have HR603_6 := Aside0.mk hi603_6
         have HC603_6 := Aside0.mk hl603_6
         clear hi603_6 hl603_6
         replace p603 := eq_true p603
         replace q603 := eq_true q603
         have ea_ := Option.some.inj (hx601_6.symm.trans hx603_6)
         injection ea_ with ea_ en_ ec_
         subst ea_
         subst ec_
         clear en_
         have p604 : 0 ≤ (x5_1 : Int) := of_decide_eq_true as_
         have q604 : x5_1 < (l0.length : Int) := of_decide_eq_true as_
         obtain ⟨ad604, A604_6, c604_6, e604, hx604_0, hx604_1, hx604_2, hx604_3, hx604_4, hx604_5, hx604_6, hl604_6, hi604_6⟩ := at_T65 HR0.out x5_1 p604 q604
         obtain rfl : ad601 = ad604 := (by injection e604)
         replace hx604_0 := cw_ HB hx604_0
         replace hx604_1 := cw_ HB hx604_1
         replace hx604_2 := cw_ HB hx604_2
         replace hx604_3 := cw_ HB hx604_3
         replace hx604_4 := cw_ HB hx604_4
         replace hx604_5 := cw_ HB hx604_5
         replace hx604_6 := cw_ HB hx604_6
         have HR604_6 := Aside0.mk hi604_6
         have HC604_6 := Aside0.mk hl604_6
         clear hi604_6 hl604_6
         replace p604 := eq_true p604
         replace q604 := eq_true q604
         have ea_ := Option.some.inj (hx601_6.symm.trans hx604_6)
         injection ea_ with ea_ en_ ec_
         subst ea_
         subst ec_
         clear en_
         try go_wp2
         replace HB := Aside0.mk (below_drew1 HB.out)
         have p605 : 0 ≤ (x5_1 : Int) := of_decide_eq_true as_
         have q605 : x5_1 < (l0.length : Int) := of_decide_eq_true as_
         obtain ⟨ad605, A605_6, c605_6, e605, hx605_0, hx605_1, hx605_2, hx605_3, hx605_4, hx605_5, hx605_6, hl605_6, hi605_6⟩ := at_T65 HR0.out x5_1 p605 q605
         have hw605_6 := hx605_6
         have hw605_5 := hx605_5
         have hw605_4 := hx605_4
         have hw605_3 := hx605_3
         have hw605_2 := hx605_2
         have hw605_1 := hx605_1
         have hw605_0 := hx605_0
         obtain rfl : ad601 = ad605 := (by injection e605)
         replace hx605_0 := cw_ HB hx605_0
         replace hx605_1 := cw_ HB hx605_1
         replace hx605_2 := cw_ HB hx605_2
         replace hx605_3 := cw_ HB hx605_3
         replace hx605_4 := cw_ HB hx605_4
         replace hx605_5 := cw_ HB hx605_5
         replace hx605_6 := cw_ HB hx605_6
         have HR605_6 := Aside0.mk hi605_6
         have HC605_6 := Aside0.mk hl605_6
         clear hi605_6 hl605_6
         replace p605 := eq_true p605
         replace q605 := eq_true q605
         refine start_ (n := 9) (S := fun w' => w'.cell? (ad601.add ((x5_1).toNat * 7)) = some (.int .i64 ((rd_T65 l0 x5_1).f0)) ∧ w'.cell? ⟨(ad601.add ((x5_1).toNat * 7)).block, (ad601.add ((x5_1).toNat * 7)).off + 1, none⟩ = some (.int .i64 ((rd_T65 l0 x5_1).f1)) ∧ w'.cell? ⟨(ad601.add ((x5_1).toNat * 7)).block, (ad601.add ((x5_1).toNat * 7)).off + 2, none⟩ = some (.int .i64 ((rd_T65 l0 x5_1).f2)) ∧ w'.cell? ⟨(ad601.add ((x5_1).toNat * 7)).block, (ad601.add ((x5_1).toNat * 7)).off + 3, none⟩ = some (.int .i64 ((rd_T65 l0 x5_1).f3.f0)) ∧ w'.cell? ⟨(ad601.add ((x5_1).toNat * 7)).block, (ad601.add ((x5_1).toNat * 7)).off + 4, none⟩ = some (.string ((rd_T65 l0 x5_1).f3.f1)) ∧ w'.cell? ⟨(ad601.add ((x5_1).toNat * 7)).block, (ad601.add ((x5_1).toNat * 7)).off + 5, none⟩ = some (.int .i64 ((rd_T65 l0 x5_1).f4)) ∧ w'.cell? ⟨(ad601.add ((x5_1).toNat * 7)).block, (ad601.add ((x5_1).toNat * 7)).off + 6, none⟩ = some (.slice A605_6 ((rd_T65 l0 x5_1).f5).length c605_6)) (ds := []) (lz_ 9 0) (by kernel_rfl) rfl rfl ⟨(cw_ HB hw605_0), (cw_ HB hw605_1), (cw_ HB hw605_2), (cw_ HB hw605_3), (cw_ HB hw605_4), (cw_ HB hw605_5), (cw_ HB hw605_6)⟩ (fun hHeld => ?_); refine with_tabW laws_heldMsgS.tab16 laws_heldMsgS.bits16 (fun HT_ HW_ => ?_)
         generalize wr.drew = w22 at HB HR605_6 hx605_0 hx605_1 hx605_2 hx605_3 hx605_4 hx605_5 hx605_6 hHeld ⊢
         refine pt_ 0 49 1 ?_
         refine pt_ 1 50 3 ?_
         refine pt_ 2 51 7 ?_
         refine pt_ 3 52 15 ?_
         refine pt_ 4 53 31 ?_
         refine pt_ 6 55 95 ?_
         refine tt_ 5 54 127 ?_
         refine one_ (i := 7) (N := some 56) (lz_ 9 255) rfl rfl (one_of HT_.out (by kernel_rfl)) (by decide) (fun K hK => ?_)
         refine gf_ Tryz.func48 (laws_markText.calls k1 (wrap64 ((wrap64 ((wrap64 ((wrap64 (x1_1 + 1)) + 1)) + 1)) + 1)) t606 _ A9.out) ?_
         rintro e w23 ⟨rfl, hb⟩
         refine ⟨_, rfl, ?_⟩
         replace HB := ss_ HB hb
         clear hb
         refine hK.out _ _ ⟨(cw_ HB hw605_0), (cw_ HB hw605_1), (cw_ HB hw605_2), (cw_ HB hw605_3), (cw_ HB hw605_4), (cw_ HB hw605_5), (cw_ HB hw605_6)⟩ (fun hHeld => ?_)
         clear hK K
         refine no_ 56 ?_
         refine pt_ 8 57 511 ?_
         refine done_ (done_of HT_.out (by kernel_rfl)) ?_
         try go_wp2
         go_ret
         exact ⟨e2_, bw_ HB⟩
       ·have c8b0 : (((rd_T65 l0 x5_1).f3.f0) == (wrap64 ((wrap64 ((wrap64 (x1_1 + 1)) + 1)) + 1))) = false := beq_eq_false_iff_ne.mpr c8
        have c8b1 : (((rd_T65 l0 x5_1).f3.f0) != (wrap64 ((wrap64 ((wrap64 (x1_1 + 1)) + 1)) + 1))) = true := bne_iff_ne.mpr c8
        obtain rfl := Option.some.inj H
        have p601 : 0 ≤ (x5_1 : Int) := of_decide_eq_true as_
        have q601 : x5_1 < (l0.length : Int) := of_decide_eq_true as_
        obtain ⟨ad601, A601_6, c601_6, e601, hx601_0, hx601_1, hx601_2, hx601_3, hx601_4, hx601_5, hx601_6, hl601_6, hi601_6⟩ := at_T65 HR0.out x5_1 p601 q601
        cases e601
        replace hx601_0 := cw_ HB hx601_0
        replace hx601_1 := cw_ HB hx601_1
        replace hx601_2 := cw_ HB hx601_2
        replace hx601_3 := cw_ HB hx601_3
        replace hx601_4 := cw_ HB hx601_4
        replace hx601_5 := cw_ HB hx601_5
        replace hx601_6 := cw_ HB hx601_6
        have HR601_6 := Aside0.mk hi601_6
        have HC601_6 := Aside0.mk hl601_6
        clear hi601_6 hl601_6
        replace p601 := eq_true p601
        replace q601 := eq_true q601
        have p602 : 0 ≤ (x5_1 : Int) := of_decide_eq_true as_
        have q602 : x5_1 < (l0.length : Int) := of_decide_eq_true as_
        obtain ⟨ad602, A602_6, c602_6, e602, hx602_0, hx602_1, hx602_2, hx602_3, hx602_4, hx602_5, hx602_6, hl602_6, hi602_6⟩ := at_T65 HR0.out x5_1 p602 q602
        obtain rfl : ad601 = ad602 := (by injection e602)
        replace hx602_0 := cw_ HB hx602_0
        replace hx602_1 := cw_ HB hx602_1
        replace hx602_2 := cw_ HB hx602_2
        replace hx602_3 := cw_ HB hx602_3
        replace hx602_4 := cw_ HB hx602_4
        replace hx602_5 := cw_ HB hx602_5
        replace hx602_6 := cw_ HB hx602_6
        have HR602_6 := Aside0.mk hi602_6
        have HC602_6 := Aside0.mk hl602_6
        clear hi602_6 hl602_6
        replace p602 := eq_true p602
        replace q602 := eq_true q602
        have ea_ := Option.some.inj (hx601_6.symm.trans hx602_6)
        injection ea_ with ea_ en_ ec_
        subst ea_
        subst ec_
        clear en_
        have p603 : 0 ≤ (x5_1 : Int) := of_decide_eq_true as_
        have q603 : x5_1 < (l0.length : Int) := of_decide_eq_true as_
        obtain ⟨ad603, A603_6, c603_6, e603, hx603_0, hx603_1, hx603_2, hx603_3, hx603_4, hx603_5, hx603_6, hl603_6, hi603_6⟩ := at_T65 HR0.out x5_1 p603 q603
        obtain rfl : ad601 = ad603 := (by injection e603)
        replace hx603_0 := cw_ HB hx603_0
        replace hx603_1 := cw_ HB hx603_1
        replace hx603_2 := cw_ HB hx603_2
        replace hx603_3 := cw_ HB hx603_3
        replace hx603_4 := cw_ HB hx603_4
        replace hx603_5 := cw_ HB hx603_5
        replace hx603_6 := cw_ HB hx603_6
        have HR603_6 := Aside0.mk hi603_6
        have HC603_6 := Aside0.mk hl603_6
        clear hi603_6 hl603_6
        replace p603 := eq_true p603
        replace q603 := eq_true q603
        have ea_ := Option.some.inj (hx601_6.symm.trans hx603_6)
        injection ea_ with ea_ en_ ec_
        subst ea_
        subst ec_
        clear en_
        have p604 : 0 ≤ (x5_1 : Int) := of_decide_eq_true as_
        have q604 : x5_1 < (l0.length : Int) := of_decide_eq_true as_
        obtain ⟨ad604, A604_6, c604_6, e604, hx604_0, hx604_1, hx604_2, hx604_3, hx604_4, hx604_5, hx604_6, hl604_6, hi604_6⟩ := at_T65 HR0.out x5_1 p604 q604
        obtain rfl : ad601 = ad604 := (by injection e604)
        replace hx604_0 := cw_ HB hx604_0
        replace hx604_1 := cw_ HB hx604_1
        replace hx604_2 := cw_ HB hx604_2
        replace hx604_3 := cw_ HB hx604_3
        replace hx604_4 := cw_ HB hx604_4
        replace hx604_5 := cw_ HB hx604_5
        replace hx604_6 := cw_ HB hx604_6
        have HR604_6 := Aside0.mk hi604_6
        have HC604_6 := Aside0.mk hl604_6
        clear hi604_6 hl604_6
        replace p604 := eq_true p604
        replace q604 := eq_true q604
        have ea_ := Option.some.inj (hx601_6.symm.trans hx604_6)
        injection ea_ with ea_ en_ ec_
        subst ea_
        subst ec_
        clear en_
        go_wp2
        go_ret
        exact ⟨e2_, bw_ HB⟩
      ·have c7b0 : (((rd_T65 l0 x5_1).f2) == (wrap64 ((wrap64 (x1_1 + 1)) + 1))) = false := beq_eq_false_iff_ne.mpr c7
       have c7b1 : (((rd_T65 l0 x5_1).f2) != (wrap64 ((wrap64 (x1_1 + 1)) + 1))) = true := bne_iff_ne.mpr c7
       obtain rfl := Option.some.inj H
       have p601 : 0 ≤ (x5_1 : Int) := of_decide_eq_true as_
       have q601 : x5_1 < (l0.length : Int) := of_decide_eq_true as_
       obtain ⟨ad601, A601_6, c601_6, e601, hx601_0, hx601_1, hx601_2, hx601_3, hx601_4, hx601_5, hx601_6, hl601_6, hi601_6⟩ := at_T65 HR0.out x5_1 p601 q601
       cases e601
       replace hx601_0 := cw_ HB hx601_0
       replace hx601_1 := cw_ HB hx601_1
       replace hx601_2 := cw_ HB hx601_2
       replace hx601_3 := cw_ HB hx601_3
       replace hx601_4 := cw_ HB hx601_4
       replace hx601_5 := cw_ HB hx601_5
       replace hx601_6 := cw_ HB hx601_6
       have HR601_6 := Aside0.mk hi601_6
       have HC601_6 := Aside0.mk hl601_6
       clear hi601_6 hl601_6
       replace p601 := eq_true p601
       replace q601 := eq_true q601
       have p602 : 0 ≤ (x5_1 : Int) := of_decide_eq_true as_
       have q602 : x5_1 < (l0.length : Int) := of_decide_eq_true as_
       obtain ⟨ad602, A602_6, c602_6, e602, hx602_0, hx602_1, hx602_2, hx602_3, hx602_4, hx602_5, hx602_6, hl602_6, hi602_6⟩ := at_T65 HR0.out x5_1 p602 q602
       obtain rfl : ad601 = ad602 := (by injection e602)
       replace hx602_0 := cw_ HB hx602_0
       replace hx602_1 := cw_ HB hx602_1
       replace hx602_2 := cw_ HB hx602_2
       replace hx602_3 := cw_ HB hx602_3
       replace hx602_4 := cw_ HB hx602_4
       replace hx602_5 := cw_ HB hx602_5
       replace hx602_6 := cw_ HB hx602_6
       have HR602_6 := Aside0.mk hi602_6
       have HC602_6 := Aside0.mk hl602_6
       clear hi602_6 hl602_6
       replace p602 := eq_true p602
       replace q602 := eq_true q602
       have ea_ := Option.some.inj (hx601_6.symm.trans hx602_6)
       injection ea_ with ea_ en_ ec_
       subst ea_
       subst ec_
       clear en_
       have p603 : 0 ≤ (x5_1 : Int) := of_decide_eq_true as_
       have q603 : x5_1 < (l0.length : Int) := of_decide_eq_true as_
       obtain ⟨ad603, A603_6, c603_6, e603, hx603_0, hx603_1, hx603_2, hx603_3, hx603_4, hx603_5, hx603_6, hl603_6, hi603_6⟩ := at_T65 HR0.out x5_1 p603 q603
       obtain rfl : ad601 = ad603 := (by injection e603)
       replace hx603_0 := cw_ HB hx603_0
       replace hx603_1 := cw_ HB hx603_1
       replace hx603_2 := cw_ HB hx603_2
       replace hx603_3 := cw_ HB hx603_3
       replace hx603_4 := cw_ HB hx603_4
       replace hx603_5 := cw_ HB hx603_5
       replace hx603_6 := cw_ HB hx603_6
       have HR603_6 := Aside0.mk hi603_6
       have HC603_6 := Aside0.mk hl603_6
       clear hi603_6 hl603_6
       replace p603 := eq_true p603
       replace q603 := eq_true q603
       have ea_ := Option.some.inj (hx601_6.symm.trans hx603_6)
       injection ea_ with ea_ en_ ec_
       subst ea_
       subst ec_
       clear en_
       go_wp2
       go_ret
       exact ⟨e2_, bw_ HB⟩
     ·have c6b0 : (((rd_T65 l0 x5_1).f1) == (wrap64 (x1_1 + 1))) = false := beq_eq_false_iff_ne.mpr c6
      have c6b1 : (((rd_T65 l0 x5_1).f1) != (wrap64 (x1_1 + 1))) = true := bne_iff_ne.mpr c6
      obtain rfl := Option.some.inj H
      have p601 : 0 ≤ (x5_1 : Int) := of_decide_eq_true as_
      have q601 : x5_1 < (l0.length : Int) := of_decide_eq_true as_
      obtain ⟨ad601, A601_6, c601_6, e601, hx601_0, hx601_1, hx601_2, hx601_3, hx601_4, hx601_5, hx601_6, hl601_6, hi601_6⟩ := at_T65 HR0.out x5_1 p601 q601
      cases e601
      replace hx601_0 := cw_ HB hx601_0
      replace hx601_1 := cw_ HB hx601_1
      replace hx601_2 := cw_ HB hx601_2
      replace hx601_3 := cw_ HB hx601_3
      replace hx601_4 := cw_ HB hx601_4
      replace hx601_5 := cw_ HB hx601_5
      replace hx601_6 := cw_ HB hx601_6
      have HR601_6 := Aside0.mk hi601_6
      have HC601_6 := Aside0.mk hl601_6
      clear hi601_6 hl601_6
      replace p601 := eq_true p601
      replace q601 := eq_true q601
      have p602 : 0 ≤ (x5_1 : Int) := of_decide_eq_true as_
      have q602 : x5_1 < (l0.length : Int) := of_decide_eq_true as_
      obtain ⟨ad602, A602_6, c602_6, e602, hx602_0, hx602_1, hx602_2, hx602_3, hx602_4, hx602_5, hx602_6, hl602_6, hi602_6⟩ := at_T65 HR0.out x5_1 p602 q602
      obtain rfl : ad601 = ad602 := (by injection e602)
      replace hx602_0 := cw_ HB hx602_0
      replace hx602_1 := cw_ HB hx602_1
      replace hx602_2 := cw_ HB hx602_2
      replace hx602_3 := cw_ HB hx602_3
      replace hx602_4 := cw_ HB hx602_4
      replace hx602_5 := cw_ HB hx602_5
      replace hx602_6 := cw_ HB hx602_6
      have HR602_6 := Aside0.mk hi602_6
      have HC602_6 := Aside0.mk hl602_6
      clear hi602_6 hl602_6
      replace p602 := eq_true p602
      replace q602 := eq_true q602
      have ea_ := Option.some.inj (hx601_6.symm.trans hx602_6)
      injection ea_ with ea_ en_ ec_
      subst ea_
      subst ec_
      clear en_
      go_wp2
      go_ret
      exact ⟨e2_, bw_ HB⟩
    ·have c5b0 : (((rd_T65 l0 x5_1).f0) == x1_1) = false := beq_eq_false_iff_ne.mpr c5
     have c5b1 : (((rd_T65 l0 x5_1).f0) != x1_1) = true := bne_iff_ne.mpr c5
     obtain rfl := Option.some.inj H
     have p601 : 0 ≤ (x5_1 : Int) := of_decide_eq_true as_
     have q601 : x5_1 < (l0.length : Int) := of_decide_eq_true as_
     obtain ⟨ad601, A601_6, c601_6, e601, hx601_0, hx601_1, hx601_2, hx601_3, hx601_4, hx601_5, hx601_6, hl601_6, hi601_6⟩ := at_T65 HR0.out x5_1 p601 q601
     cases e601
     replace hx601_0 := cw_ HB hx601_0
     replace hx601_1 := cw_ HB hx601_1
     replace hx601_2 := cw_ HB hx601_2
     replace hx601_3 := cw_ HB hx601_3
     replace hx601_4 := cw_ HB hx601_4
     replace hx601_5 := cw_ HB hx601_5
     replace hx601_6 := cw_ HB hx601_6
     have HR601_6 := Aside0.mk hi601_6
     have HC601_6 := Aside0.mk hl601_6
     clear hi601_6 hl601_6
     replace p601 := eq_true p601
     replace q601 := eq_true q601
     go_wp2
     go_ret
     exact ⟨e2_, bw_ HB⟩
   ·obtain rfl := Option.some.inj H
    go_wp2
    go_ret
    exact ⟨e2_, bw_ HB⟩
end Go.Proofs.YtnlndmoecljicaaGreat.Q
end
section
namespace Go.Proofs.YtnlndmoecljicaaGreat.Q
open Go.RowKit Go.Proofs.YtnlndmoecljicaaGreat.B Go.Proofs.YtnlndmoecljicaaGreatW.PrintWords
set_option linter.unusedVariables false
set_option linter.unusedSimpArgs false
def OneQuiet (r : List S65) : Prop := r = [] ∨ ∃ x : S65, r = [x] ∧ x.f5 = []
theorem w0_1 : wrap64 (0 + 1) = 1 := by rw [w64 (by omega) (by omega)]; rfl
theorem eqMsgS_ev {r : List S65} (h : OneQuiet r) : Ev (fun k => laws_eqMsgS.f k r r) true := by
 unfold laws_eqMsgS.f
 refine Ev.pos rfl ?_
 rcases h with rfl | ⟨x, rfl, hx⟩
 ·refine Ev.step (f := fun _ => some true) (fun k => ?_) (Ev.now _)
  simp only [laws_eqMsgS.l0]
  rw [if_neg (by simp)]
 ·have h1 : Ev (fun k => laws_eqMsgS.l0 k [x] [x] 1) true := by
   refine Ev.step (f := fun _ => some true) (fun k => ?_) (Ev.now _)
   simp only [laws_eqMsgS.l0]
   rw [if_neg (by simp)]
  refine Ev.step (fun k => by simp only [laws_eqMsgS.l0, w0_1]; rfl) ?_
  exact Ev.pos (by simp) (Ev.pos (by omega) (Ev.pos (by simp) (Ev.bind (eqMsg_ev x.f0 x.f1 x.f2 x.f3.f0 x.f3.f1 x.f4 x.f5 (by rw [hx]; simp)) (Ev.pos rfl h1))))
theorem w1_2 : wrap64 (1 + 1) = 2 := by rw [w64 (by omega) (by omega)]; rfl
theorem w2_3 : wrap64 (2 + 1) = 3 := by rw [w64 (by omega) (by omega)]; rfl
theorem w3_4 : wrap64 (3 + 1) = 4 := by rw [w64 (by omega) (by omega)]; rfl
theorem w4_5 : wrap64 (4 + 1) = 5 := by rw [w64 (by omega) (by omega)]; rfl
theorem w5_6 : wrap64 (5 + 1) = 6 := by rw [w64 (by omega) (by omega)]; rfl
theorem w6_7 : wrap64 (6 + 1) = 7 := by rw [w64 (by omega) (by omega)]; rfl
theorem marksMsgS_ev {r : List S65} (h : OneQuiet r) : ∃ m M, Ev (fun k => laws_markMsgS.f k r 1) (m, M) ∧ Ev (fun k => laws_heldMsgS.f k M 1) m ∧ 0 ≤ m := by
 unfold laws_markMsgS.f laws_heldMsgS.f
 rcases h with rfl | ⟨x, rfl, hx⟩
 ·refine ⟨1, [], Ev.pos rfl (Ev.pos rfl (Ev.now _)), ?_, by decide⟩
  refine Ev.step (f := fun _ => some 1) (fun k => ?_) (Ev.now _)
  simp only [laws_heldMsgS.l0]
  rw [if_neg (by simp)]
 ·obtain ⟨t, ht⟩ := markText_ev 5 (by decide)
  have hS := heldStringS_ev [] 7 (by decide) (by decide) (fun i hi => by simp at hi)
  have hone : Ev (fun k => oneMsg k x) (7, [(⟨1, 2, 3, (⟨4, t⟩ : S37), 6, ([] : List ByteArray)⟩ : S65)]) := by
   unfold oneMsg
   exact Ev.pos (by rw [hx]; rfl) (Ev.bind ht (Ev.now _))
  refine ⟨7, _, Ev.pos rfl (Ev.neg (by simp) (Ev.pos rfl hone)), ?_, by decide⟩
  generalize hy : (⟨1, 2, 3, (⟨4, t⟩ : S37), 6, ([] : List ByteArray)⟩ : S65) = y
  have h1 : Ev (fun k => laws_heldMsgS.l0 k [y] 7 1) 7 := by
   refine Ev.step (f := fun _ => some 7) (fun k => ?_) (Ev.now _)
   simp only [laws_heldMsgS.l0]
   rw [if_neg (by simp)]
  have hr : rd_T65 [y] 0 = y := rfl
  refine Ev.step (fun k => by simp only [laws_heldMsgS.l0, hr, w0_1, w1_2, w2_3, w3_4, w4_5, w5_6, w6_7]; rfl) ?_
  subst hy
  refine Ev.pos (by simp) (Ev.pos (by omega) (Ev.pos rfl (Ev.pos rfl (Ev.pos rfl (Ev.pos rfl (Ev.bind ht (Ev.pos rfl (Ev.pos rfl (Ev.bind hS ?_)))))))))
  exact Ev.neg (by simp) h1
end Go.Proofs.YtnlndmoecljicaaGreat.Q
end
section
namespace Go.Proofs.YtnlndmoecljicaaGreat.Q
open Go.RowKit Go.Proofs.YtnlndmoecljicaaGreatW.PrintWords Go.Proofs.YtnlndmoecljicaaGreatW.PrintLast Go.Proofs.YtnlndmoecljicaaGreatW.PrintMore
attribute [local go_sem] max2_int min2_int max_two min_two max_three min_three max_four min_four   -- for this text's walks alone
set_option linter.unusedVariables false
set_option linter.unusedSimpArgs false
def bits_RotateLeft32.f (a0 : Int) (a1 : Int) : Option (Int) := if 0 ≤ (Go.bits .and .u64 (IntKind.u64.wrap (a1)) 31) then (if 0 ≤ (IntKind.u64.wrap (32 - (Go.bits .and .u64 (IntKind.u64.wrap (a1)) 31))) then (some (Go.bits .or .u32 (shl .u32 a0 (Go.bits .and .u64 (IntKind.u64.wrap (a1)) 31)) (shr .u32 a0 (IntKind.u64.wrap (32 - (Go.bits .and .u64 (IntKind.u64.wrap (a1)) 31)))))) else (none)) else (none)
set_option maxHeartbeats 8000000 in
set_option maxRecDepth 100000 in
theorem bits_RotateLeft32.calls (a0 : Int) (a1 : Int) (r : Int) (w : World) (h : bits_RotateLeft32.f a0 a1 = some r) :
  Calls Tryz.prog 171 #[.int .u32 a0, .int .i64 a1] w fun e w' => e = .returned (.int .u32 r) ∧ Drawn0 w w' := by
 have H : (if 0 ≤ (Go.bits .and .u64 (IntKind.u64.wrap (a1)) 31) then (if 0 ≤ (IntKind.u64.wrap (32 - (Go.bits .and .u64 (IntKind.u64.wrap (a1)) 31))) then (some (Go.bits .or .u32 (shl .u32 a0 (Go.bits .and .u64 (IntKind.u64.wrap (a1)) 31)) (shr .u32 a0 (IntKind.u64.wrap (32 - (Go.bits .and .u64 (IntKind.u64.wrap (a1)) 31)))))) else (none)) else (none)) = some r := h
 clear h
 generalize hji3 : (Go.bits .and .u64 (IntKind.u64.wrap (a1)) 31) = ji3 at H
 replace H := ip_ H; obtain ⟨c4, H⟩ := H
 have c4b0 := eq_true c4
 have c4b1 := decide_eq_true c4
 clear c4
 generalize hji5 : (shl .u32 a0 (ji3)) = ji5 at H
 have hji5_ : (IntKind.u32.wrap (a0 * 2 ^ min (ji3).toNat 32)) = ji5 := hji5
 have hji5z : (ji3) ≤ 32 → (IntKind.u32.wrap (a0 * 2 ^ (ji3).toNat)) = ji5 := shl_small hji5
 generalize hji6 : (IntKind.u64.wrap (32 - (ji3))) = ji6 at H
 replace H := ip_ H; obtain ⟨c7, H⟩ := H
 have c7b0 := eq_true c7
 have c7b1 := decide_eq_true c7
 clear c7
 generalize hji8 : (shr .u32 a0 (ji6)) = ji8 at H
 have hji8_ : (a0 / 2 ^ min (ji6).toNat 32) = ji8 := hji8
 have hji8z : (ji6) ≤ 32 → (a0 / 2 ^ (ji6).toNat) = ji8 := shr_small hji8
 obtain rfl := Option.some.inj H
 go_enter Tryz.func171, Tryz.ntmps171
 go_wp2
 go_ret
 exact ⟨by first | rfl | (simp; done) | (simp only [← hji3, ← hji5, ← hji6, ← hji8] <;> (first | rfl | simp)) | (simp [*]; done), dw_⟩
end Go.Proofs.YtnlndmoecljicaaGreat.Q
end
section
namespace Go.Proofs.YtnlndmoecljicaaGreat.Q
open Go.RowKit Go.Proofs.YtnlndmoecljicaaGreatW.PrintWords Go.Proofs.YtnlndmoecljicaaGreatW.PrintLast Go.Proofs.YtnlndmoecljicaaGreatW.PrintMore
def rotr (x : Int) (n : Nat) : Int := Go.bits .or .u32 (shl .u32 x (32 - n)) (shr .u32 x n)
theorem rot_of (x k : Int) (n : Nat) (h1 : Go.bits .and .u64 (IntKind.u64.wrap k) 31 = 32 - (n : Int)) (h2 : IntKind.u64.wrap (32 - (32 - (n : Int))) = (n : Int)) (hn : n ≤ 32) : bits_RotateLeft32.f x k = some (rotr x n) := by
 unfold bits_RotateLeft32.f rotr
 rw [h1, h2, if_pos (by omega), if_pos (by omega)]
theorem rot2 (x : Int) : bits_RotateLeft32.f x (-2) = some (rotr x 2) := rot_of x _ 2 (by decide +kernel) (by decide +kernel) (by decide)
theorem rot6 (x : Int) : bits_RotateLeft32.f x (-6) = some (rotr x 6) := rot_of x _ 6 (by decide +kernel) (by decide +kernel) (by decide)
theorem rot7 (x : Int) : bits_RotateLeft32.f x (-7) = some (rotr x 7) := rot_of x _ 7 (by decide +kernel) (by decide +kernel) (by decide)
theorem rot11 (x : Int) : bits_RotateLeft32.f x (-11) = some (rotr x 11) := rot_of x _ 11 (by decide +kernel) (by decide +kernel) (by decide)
theorem rot13 (x : Int) : bits_RotateLeft32.f x (-13) = some (rotr x 13) := rot_of x _ 13 (by decide +kernel) (by decide +kernel) (by decide)
theorem rot17 (x : Int) : bits_RotateLeft32.f x (-17) = some (rotr x 17) := rot_of x _ 17 (by decide +kernel) (by decide +kernel) (by decide)
theorem rot18 (x : Int) : bits_RotateLeft32.f x (-18) = some (rotr x 18) := rot_of x _ 18 (by decide +kernel) (by decide +kernel) (by decide)
theorem rot19 (x : Int) : bits_RotateLeft32.f x (-19) = some (rotr x 19) := rot_of x _ 19 (by decide +kernel) (by decide +kernel) (by decide)
theorem rot22 (x : Int) : bits_RotateLeft32.f x (-22) = some (rotr x 22) := rot_of x _ 22 (by decide +kernel) (by decide +kernel) (by decide)
theorem rot25 (x : Int) : bits_RotateLeft32.f x (-25) = some (rotr x 25) := rot_of x _ 25 (by decide +kernel) (by decide +kernel) (by decide)
end Go.Proofs.YtnlndmoecljicaaGreat.Q
end
section
namespace Go.Proofs.YtnlndmoecljicaaGreat.Q
open Go.RowKit Go.Proofs.YtnlndmoecljicaaGreatW.PrintWords Go.Proofs.YtnlndmoecljicaaGreatW.PrintLast Go.Proofs.YtnlndmoecljicaaGreatW.PrintMore
set_option linter.unusedVariables false
set_option linter.unusedSimpArgs false
def be32 (bs : List Int) (i : Nat) : Int := Go.bits .or .u32 (Go.bits .or .u32 (Go.bits .or .u32 (rd bs (4 * (i : Int)) % 4294967296 * 16777216 % 4294967296) (rd bs (4 * (i : Int) + 1) % 4294967296 * 65536 % 4294967296)) (rd bs (4 * (i : Int) + 2) % 4294967296 * 256 % 4294967296)) (rd bs (4 * (i : Int) + 3) % 4294967296)
def wMix (a16 a15 a7 a2 : Int) : Int := (a16 + Go.bits .xor .u32 (Go.bits .xor .u32 (rotr a15 7) (rotr a15 18)) (a15 / 8) + a7 + Go.bits .xor .u32 (Go.bits .xor .u32 (rotr a2 17) (rotr a2 19)) (a2 / 1024)) % 4294967296
def wAt (bs : List Int) : Nat → List Int
 | 0 => List.replicate 64 0
 | i + 1 => (wAt bs i).set i (if i < 16 then be32 bs i else wMix ((wAt bs i).getD (i - 16) 0) ((wAt bs i).getD (i - 15) 0) ((wAt bs i).getD (i - 7) 0) ((wAt bs i).getD (i - 2) 0))
theorem wAt_length (bs : List Int) (i : Nat) : (wAt bs i).length = 64 := by
 induction i with
 | zero => simp [wAt]
 | succ i ih => simp [wAt, ih]
def arrU (ys : List Int) : Array Value := (nums .u32 ys).toArray
theorem arrU_get {ys : List Int} {i : Nat} (h : i < ys.length) : (arrU ys)[i]? = some (.int .u32 (ys.getD i 0)) := by
 simp [arrU, nums, List.getElem?_eq_getElem h, List.getD_eq_getElem?_getD]
theorem arrU_set (ys : List Int) (i : Nat) (v : Int) : (arrU ys).setIfInBounds i (.int .u32 v) = arrU (ys.set i v) := by
 simp [arrU, nums, List.map_set]
theorem bytes_at {w : World} {A : Option Addr} {n : Nat} {bs : List Int} (h : Kd.C (Kd.int .u8) w A n bs) (h0 : 0 < n) : ∃ ad, A = some ad ∧ ad.block < w.heap.size ∧ ∀ i : Nat, i < n → w.cell? (ad.add i) = some (.int .u8 (rd bs i)) := by
 obtain ⟨ad, e, hcell⟩ := h.2.2 h0
 have hl := h.1
 have hby : ∀ i : Nat, i < n → w.cell? (ad.add i) = some (.int .u8 (rd bs i)) := by
  intro i hi
  obtain ⟨x, hx⟩ : ∃ x, bs[i]? = some x := ⟨bs[i], List.getElem?_eq_getElem (by omega)⟩
  obtain ⟨cs, _, hk, hcc⟩ := hcell i x hx
  have hk2 : cs = [.int .u8 x] := hk
  have := hcc 0 (.int .u8 x) (by rw [hk2]; rfl)
  rw [show i * (Kd.int .u8).sz + 0 = i from by simp [Kd.int, Kd.scalar]] at this
  rw [this]
  unfold rd
  simp [List.getD_eq_getElem?_getD, hx]
 have had := World.block_lt_of_cell? w _ (hby 0 h0)
 exact ⟨ad, e, by simpa [Addr.add] using had, hby⟩
set_option maxHeartbeats 4000000 in
set_option maxRecDepth 100000 in
theorem wordsOf_calls (A : Option Addr) (c : Nat) (bs : List Int) (w : World) (hr : Kd.C (Kd.int .u8) w A bs.length bs) (hl : bs.length = 64) :
  Calls Tryz.prog 170 #[.slice A bs.length c] w fun e w' => ∃ g, e = .returned (.pointer (some ⟨g, 0, none⟩)) ∧ w.heap.size ≤ g ∧ w'.heap[g]? = some (.cells (arrU (wAt bs 64)) 170 (0, 0)) ∧ Below w.heap.size w w' := by
 have HL := Aside0.mk hl
 obtain ⟨ad, rfl, hadl, hby⟩ := bytes_at hr (by omega)
 have HAD := Aside0.mk hadl
 have HBY := Aside0.mk hby
 clear hr hl hby hadl
 go_enter Tryz.func170, Tryz.ntmps170
 go_wp2
 go_loopw [10] (fun i W => ∃ k : Nat, k ≤ 16 ∧ i = .int .i64 k ∧ Aside0 (W.heap[w.heap.size]? = some (.cells (arrU (wAt bs k)) 170 (0, 0))) ∧ Aside0 (Below w.heap.size w W)) (fun i _ => 16 - (intOf i).toNat)
 case atStart =>
  refine ⟨0, by omega, rfl, ⟨?_⟩, ⟨(Below.refl _ _).alloc (Nat.le_refl _) _⟩⟩
  rw [blk_new]
  rfl
 case round =>
  obtain ⟨k, hk, rfl, HG, HB⟩ := hrel
  by_cases hlt : k < 16
  ·have hb11 : decide ((k : Int) < 16) = true := decide_eq_true (by omega)
   have hblk : ∀ i : Nat, (ad.add i).block = ad.block := fun i => by unfold Addr.add; split <;> rfl
   have hL := HL.out
   have ee : ∀ i : Nat, i < 64 → wr.cell? (ad.add i) = some (.int .u8 (rd bs i)) := fun i hi => (HB.out.cell (by rw [hblk]; exact HAD.out)).trans (HBY.out i (by omega))
   have e0 := ee (4 * k) (by omega)
   have hpl : ∀ i : Nat, ad.add (i + 1) = ⟨ad.block, ad.off + (i + 1), none⟩ := fun i => by unfold Addr.add; rw [if_neg (by omega)]
   have e1' : wr.cell? ⟨ad.block, ad.off + (4 * k + 1), none⟩ = some (.int .u8 (rd bs (4 * (k : Int) + 1))) := by rw [← hpl]; exact ee (4 * k + 1) (by omega)
   have e2' : wr.cell? ⟨ad.block, ad.off + (4 * k + 1 + 1), none⟩ = some (.int .u8 (rd bs (4 * (k : Int) + 2))) := by rw [← hpl]; exact ee (4 * k + 2) (by omega)
   have e3' : wr.cell? ⟨ad.block, ad.off + (4 * k + 2 + 1), none⟩ = some (.int .u8 (rd bs (4 * (k : Int) + 3))) := by rw [← hpl]; exact ee (4 * k + 3) (by omega)
   have e2'' : wr.cell? ⟨ad.block, ad.off + (4 * k + 2), none⟩ = some (.int .u8 (rd bs (4 * (k : Int) + 2))) := e2'
   have e3'' : wr.cell? ⟨ad.block, ad.off + (4 * k + 3), none⟩ = some (.int .u8 (rd bs (4 * (k : Int) + 3))) := e3'
   clear ee hblk hpl
   have hcl : wr.cell? ⟨w.heap.size, k, none⟩ = some (.int .u32 ((wAt bs k).getD k 0)) := (blk_cell HG.out k).trans (arrU_get (by rw [wAt_length]; omega))
   obtain ⟨old, hold⟩ : ∃ old, old = (wAt bs k).getD k 0 := ⟨_, rfl⟩
   rw [← hold] at hcl
   clear hold
   have hfl := blk_frozen HG.out k
   have s0 : IntKind.i64.wrap (4 * (k : Int)) = 4 * (k : Int) := IntWalk.i64_in _ ⟨by omega, by omega⟩
   have s1 : IntKind.i64.wrap (4 * (k : Int) + 1) = 4 * (k : Int) + 1 := IntWalk.i64_in _ ⟨by omega, by omega⟩
   have s2 : IntKind.i64.wrap (4 * (k : Int) + 2) = 4 * (k : Int) + 2 := IntWalk.i64_in _ ⟨by omega, by omega⟩
   have s3 : IntKind.i64.wrap (4 * (k : Int) + 3) = 4 * (k : Int) + 3 := IntWalk.i64_in _ ⟨by omega, by omega⟩
   have p0 : 0 ≤ 4 * (k : Int) := by omega
   have p1 : 0 ≤ 4 * (k : Int) + 1 := by omega
   have p2 : 0 ≤ 4 * (k : Int) + 2 := by omega
   have p3 : 0 ≤ 4 * (k : Int) + 3 := by omega
   have l0 : 4 * (k : Int) < (bs.length : Int) := by omega
   have l1 : 4 * (k : Int) + 1 < (bs.length : Int) := by omega
   have l2 : 4 * (k : Int) + 2 < (bs.length : Int) := by omega
   have l3 : 4 * (k : Int) + 3 < (bs.length : Int) := by omega
   have l4 : (k : Int) < 64 := by omega
   have t0 : (4 * (k : Int)).toNat = 4 * k := by omega
   have t1 : (4 * (k : Int) + 1).toNat = 4 * k + 1 := by omega
   have t2 : (4 * (k : Int) + 2).toNat = 4 * k + 2 := by omega
   have t3 : (4 * (k : Int) + 3).toNat = 4 * k + 3 := by omega
   clear hL
   go_wp2
   go_region
   go_wp2
   go_roundw
   case rel =>
    refine ⟨k + 1, by omega, by go_num, ⟨?_⟩, ⟨HB.out.drew.setCell (Nat.le_refl _) _⟩⟩
    have hs := blk_set (blk_drew HG.out) k (.int .u32 (be32 bs k))
    rw [arrU_set] at hs
    rw [show wAt bs (k + 1) = (wAt bs k).set k (be32 bs k) from by simp [wAt, hlt]]
    exact hs
   case measure => simp [intOf]; omega
  ·obtain rfl : k = 16 := by omega
   have hb11 : decide (((16 : Nat) : Int) < 16) = false := by decide
   obtain ⟨wo, rfl⟩ : ∃ wo : World, wo = wr := ⟨_, rfl⟩
   go_wp2
   go_loopw [5] (fun i W => ∃ k : Nat, 16 ≤ k ∧ k ≤ 64 ∧ i = .int .i64 k ∧ Aside0 (W.heap[w.heap.size]? = some (.cells (arrU (wAt bs k)) 170 (0, 0))) ∧ Aside0 (Below w.heap.size w W)) (fun i _ => 64 - (intOf i).toNat)
   case atStart => exact ⟨16, by omega, by omega, rfl, HG, HB⟩
   case round =>
    clear hk hlt hb11 HG HB
    obtain ⟨k, hk1, hk2, rfl, HG, HB⟩ := hrel
    by_cases hlt : k < 64
    ·have hb50 : decide ((k : Int) < 64) = true := decide_eq_true (by omega)
     have cc : ∀ j : Nat, j < 64 → wr.cell? ⟨w.heap.size, j, none⟩ = some (.int .u32 ((wAt bs k).getD j 0)) := fun j hj => (blk_cell HG.out j).trans (arrU_get (by rw [wAt_length]; exact hj))
     obtain ⟨a16, g16⟩ : ∃ a, (wAt bs k).getD (k - 16) 0 = a := ⟨_, rfl⟩
     obtain ⟨a15, g15⟩ : ∃ a, (wAt bs k).getD (k - 15) 0 = a := ⟨_, rfl⟩
     obtain ⟨a7, g7⟩ : ∃ a, (wAt bs k).getD (k - 7) 0 = a := ⟨_, rfl⟩
     obtain ⟨a2, g2⟩ : ∃ a, (wAt bs k).getD (k - 2) 0 = a := ⟨_, rfl⟩
     obtain ⟨a0, g0⟩ : ∃ a, (wAt bs k).getD k 0 = a := ⟨_, rfl⟩
     have c16 := cc (k - 16) (by omega)
     have c15 := cc (k - 15) (by omega)
     have c7 := cc (k - 7) (by omega)
     have c2 := cc (k - 2) (by omega)
     have c0 := cc k hlt
     rw [g16] at c16
     rw [g15] at c15
     rw [g7] at c7
     rw [g2] at c2
     rw [g0] at c0
     have G := Aside0.mk (show wAt bs (k + 1) = (wAt bs k).set k (wMix a16 a15 a7 a2) from by simp only [wAt]; rw [if_neg (by omega), g16, g15, g7, g2])
     clear cc g16 g15 g7 g2 g0
     have hf0 := blk_frozen HG.out k
     have s16 : IntKind.i64.wrap ((k : Int) - 16) = (k : Int) - 16 := IntWalk.i64_in _ ⟨by omega, by omega⟩
     have s15 : IntKind.i64.wrap ((k : Int) - 15) = (k : Int) - 15 := IntWalk.i64_in _ ⟨by omega, by omega⟩
     have s7 : IntKind.i64.wrap ((k : Int) - 7) = (k : Int) - 7 := IntWalk.i64_in _ ⟨by omega, by omega⟩
     have s2 : IntKind.i64.wrap ((k : Int) - 2) = (k : Int) - 2 := IntWalk.i64_in _ ⟨by omega, by omega⟩
     have p16 : 0 ≤ (k : Int) - 16 := by omega
     have p15 : 0 ≤ (k : Int) - 15 := by omega
     have p7 : 0 ≤ (k : Int) - 7 := by omega
     have p2 : 0 ≤ (k : Int) - 2 := by omega
     have q16 : 16 ≤ (k : Int) := by omega
     have q15 : 15 ≤ (k : Int) := by omega
     have q7 : 7 ≤ (k : Int) := by omega
     have q2 : 2 ≤ (k : Int) := by omega
     have l16 : (k : Int) - 16 < 64 := by omega
     have l15 : (k : Int) - 15 < 64 := by omega
     have l7 : (k : Int) - 7 < 64 := by omega
     have l2 : (k : Int) - 2 < 64 := by omega
     have l0 : (k : Int) < 64 := by omega
     have t16 : ((k : Int) - 16).toNat = k - 16 := by omega
     have t15 : ((k : Int) - 15).toNat = k - 15 := by omega
     have t7 : ((k : Int) - 7).toNat = k - 7 := by omega
     have t2 : ((k : Int) - 2).toNat = k - 2 := by omega
     go_wp2
     go_region
     go_wp2_with (first | (go_at_call 171; (first | (with_reducible refine (bits_RotateLeft32.calls _ _ _ _ (rot7 _)).mono ?_) | (with_reducible refine (bits_RotateLeft32.calls _ _ _ _ (rot18 _)).mono ?_) | (with_reducible refine (bits_RotateLeft32.calls _ _ _ _ (rot17 _)).mono ?_) | (with_reducible refine (bits_RotateLeft32.calls _ _ _ _ (rot19 _)).mono ?_)); rintro e w' ⟨rfl, ⟨nd, rfl⟩⟩))
     go_region
     go_wp2
     go_roundw
     case rel =>
      (repeat apply Exists.intro)
      exact ⟨⟨k + 1, by omega, by omega, by go_num, ⟨by rw [G.out, ← arrU_set]; refine blk_set ?_ k _; exact HG.out⟩, ⟨by refine Below.setCell (p := ⟨w.heap.size, k, none⟩) ?_ (Nat.le_refl _) _; exact pw_below_drewN HB.out _⟩⟩, rfl⟩
     case measure => simp [intOf]; omega
    ·obtain rfl : k = 64 := by omega
     have hb50 : decide (((64 : Nat) : Int) < 64) = false := by decide
     go_wp2
     go_ret
     exact ⟨_, rfl, Nat.le_refl _, HG.out, HB.out⟩
def tS1 (e : Int) : Int := Go.bits .xor .u32 (Go.bits .xor .u32 (rotr e 6) (rotr e 11)) (rotr e 25)
def tS0 (a : Int) : Int := Go.bits .xor .u32 (Go.bits .xor .u32 (rotr a 2) (rotr a 13)) (rotr a 22)
def tT1 (e f g h kc wc : Int) : Int := h + tS1 e + Go.bits .xor .u32 (Go.bits .and .u32 e f) (Go.bits .and .u32 (Go.bits .xor .u32 IntKind.u32.max e) g) + kc + wc
def tMaj (a b c : Int) : Int := Go.bits .xor .u32 (Go.bits .xor .u32 (Go.bits .and .u32 a b) (Go.bits .and .u32 a c)) (Go.bits .and .u32 b c)
def turnStep (kc wc : Int) : List Int → List Int
 | [a, b, c, d, e, f, g, h] => [(tT1 e f g h kc wc + tS0 a + tMaj a b c) % 4294967296, a, b, c, (d + tT1 e f g h kc wc) % 4294967296, e, f, g]
 | l => l
def vAt (ks ws hs : List Int) : Nat → List Int
 | 0 => hs
 | i + 1 => turnStep (ks.getD i 0) (ws.getD i 0) (vAt ks ws hs i)
theorem vAt_eight (ks ws hs : List Int) (h : hs.length = 8) (k : Nat) : (vAt ks ws hs k).length = 8 := by
 induction k with
 | zero => exact h
 | succ k ih =>
  simp only [vAt]
  match vAt ks ws hs k, ih with
  | [a, b, c, d, e, f, g, h], _ => rfl
theorem eight {l : List Int} (h : l.length = 8) : ∃ v0 v1 v2 v3 v4 v5 v6 v7, l = [v0, v1, v2, v3, v4, v5, v6, v7] := by
 match l, h with
 | [h0, h1, h2, h3, h4, h5, h6, h7], _ => exact ⟨h0, h1, h2, h3, h4, h5, h6, h7, rfl⟩
theorem eight_set {W : World} {gv : Nat} {T : TypeId} {v0 v1 v2 v3 v4 v5 v6 v7 : Int} (n0 n1 n2 n3 n4 n5 n6 n7 : Int) (h : W.heap[gv]? = some (.cells (arrU [v0, v1, v2, v3, v4, v5, v6, v7]) T (0, 0))) :
  ((((((((W.setCell ⟨gv, 0, none⟩ (.int .u32 n0)).setCell ⟨gv, 1, none⟩ (.int .u32 n1)).setCell ⟨gv, 2, none⟩ (.int .u32 n2)).setCell ⟨gv, 3, none⟩ (.int .u32 n3)).setCell ⟨gv, 4, none⟩ (.int .u32 n4)).setCell ⟨gv, 5, none⟩ (.int .u32 n5)).setCell ⟨gv, 6, none⟩ (.int .u32 n6)).setCell ⟨gv, 7, none⟩ (.int .u32 n7)).heap[gv]? = some (.cells (arrU [n0, n1, n2, n3, n4, n5, n6, n7]) T (0, 0)) := by
 have := blk_set (blk_set (blk_set (blk_set (blk_set (blk_set (blk_set (blk_set h 0 (.int .u32 n0)) 1 (.int .u32 n1)) 2 (.int .u32 n2)) 3 (.int .u32 n3)) 4 (.int .u32 n4)) 5 (.int .u32 n5)) 6 (.int .u32 n6)) 7 (.int .u32 n7)
 simp only [arrU_set] at this
 exact this
theorem eight_below {B : Nat} {w W : World} (h : Below B w W) {gv : Nat} (hg : B ≤ gv) (u0 u1 u2 u3 u4 u5 u6 u7 : Value) :
  Below B w ((((((((W.setCell ⟨gv, 0, none⟩ u0).setCell ⟨gv, 1, none⟩ u1).setCell ⟨gv, 2, none⟩ u2).setCell ⟨gv, 3, none⟩ u3).setCell ⟨gv, 4, none⟩ u4).setCell ⟨gv, 5, none⟩ u5).setCell ⟨gv, 6, none⟩ u6).setCell ⟨gv, 7, none⟩ u7) :=
 (((((((h.setCell (p := ⟨gv, 0, none⟩) hg _).setCell (p := ⟨gv, 1, none⟩) hg _).setCell (p := ⟨gv, 2, none⟩) hg _).setCell (p := ⟨gv, 3, none⟩) hg _).setCell (p := ⟨gv, 4, none⟩) hg _).setCell (p := ⟨gv, 5, none⟩) hg _).setCell (p := ⟨gv, 6, none⟩) hg _).setCell (p := ⟨gv, 7, none⟩) hg _
theorem eight_far {W : World} {g gv : Nat} {t : TypeId} {cs : Array Value} (h : W.heap[g]? = some (.cells cs t (0, 0))) (hne : g ≠ gv) (u0 u1 u2 u3 u4 u5 u6 u7 : Value) :
  ((((((((W.setCell ⟨gv, 0, none⟩ u0).setCell ⟨gv, 1, none⟩ u1).setCell ⟨gv, 2, none⟩ u2).setCell ⟨gv, 3, none⟩ u3).setCell ⟨gv, 4, none⟩ u4).setCell ⟨gv, 5, none⟩ u5).setCell ⟨gv, 6, none⟩ u6).setCell ⟨gv, 7, none⟩ u7).heap[g]? = some (.cells cs t (0, 0)) :=
 blk_far (blk_far (blk_far (blk_far (blk_far (blk_far (blk_far (blk_far h hne _) hne _) hne _) hne _) hne _) hne _) hne _) hne _
def addAt (hs vs : List Int) : Nat → List Int
 | 0 => hs
 | i + 1 => (addAt hs vs i).set i (((addAt hs vs i).getD i 0 + vs.getD i 0) % 4294967296)
theorem addAt_length (hs vs : List Int) (i : Nat) : (addAt hs vs i).length = hs.length := by
 induction i with
 | zero => rfl
 | succ i ih => simp [addAt, ih]
def turned (ks bs hs : List Int) : List Int := addAt hs (vAt ks (wAt bs 64) hs 64) 8
set_option maxHeartbeats 4000000 in
set_option maxRecDepth 100000 in
theorem turnBlock_calls (gh gk : Nat) (A : Option Addr) (c : Nat) (bs hs ks : List Int) (w : World) (hr : Kd.C (Kd.int .u8) w A bs.length bs) (hl : bs.length = 64) (hh : hs.length = 8) (hk : ks.length = 64)
  (hgh : w.heap[gh]? = some (.cells (arrU hs) 159 (0, 0))) (hgk : w.heap[gk]? = some (.cells (arrU ks) 170 (0, 0))) :
  Calls Tryz.prog 159 #[.pointer (some ⟨gh, 0, none⟩), .slice A bs.length c, .pointer (some ⟨gk, 0, none⟩)] w fun e w' => e = .returned (.tuple #[]) ∧ w.grownBy w' (some gh) ∧ w'.heap[gh]? = some (.cells (arrU (turned ks bs hs)) 159 (0, 0)) := by
 have HL := Aside0.mk hl
 have HK := Aside0.mk hk
 have HGH := Aside0.mk hgh
 have HGK := Aside0.mk hgk
 have HR := Aside0.mk hr
 obtain ⟨h0, h1, h2, h3, h4, h5, h6, h7, rfl⟩ := eight hh
 clear hr hl hh hk hgh hgk
 go_enter Tryz.func159, Tryz.ntmps159
 go_wp2_with (go_at_call 170; (with_reducible refine (wordsOf_calls _ _ bs _ HR.out HL.out).mono ?_); rintro e w1 ⟨gw, rfl, hw1, hw2, hb⟩; have HW1 := Aside0.mk hw1; have HW2 := Aside0.mk hw2; have HB := Aside0.mk hb; have HGH1 := Aside0.mk (blk_below HGH.out hb); have HGK1 := Aside0.mk (blk_below HGK.out hb); clear hw1 hw2 hb; have q0 := blk_cell HGH1.out 0; have q1 := blk_cell HGH1.out 1; have q2 := blk_cell HGH1.out 2; have q3 := blk_cell HGH1.out 3; have q4 := blk_cell HGH1.out 4; have q5 := blk_cell HGH1.out 5; have q6 := blk_cell HGH1.out 6; have q7 := blk_cell HGH1.out 7; simp only [arrU, nums, List.map_cons, List.map_nil, List.getElem?_toArray, List.getElem?_cons_zero, List.getElem?_cons_succ] at q0 q1 q2 q3 q4 q5 q6 q7)
 clear q0 q1 q2 q3 q4 q5 q6 q7
 have HGH2 := Aside0.mk (blk_alloc HGH1.out (.cells #[.int .u32 h0, .int .u32 h1, .int .u32 h2, .int .u32 h3, .int .u32 h4, .int .u32 h5, .int .u32 h6, .int .u32 h7] 159))
 have HGK2 := Aside0.mk (blk_alloc HGK1.out (.cells #[.int .u32 h0, .int .u32 h1, .int .u32 h2, .int .u32 h3, .int .u32 h4, .int .u32 h5, .int .u32 h6, .int .u32 h7] 159))
 have HW22 := Aside0.mk (blk_alloc HW2.out (.cells #[.int .u32 h0, .int .u32 h1, .int .u32 h2, .int .u32 h3, .int .u32 h4, .int .u32 h5, .int .u32 h6, .int .u32 h7] 159))
 have HN := Aside0.mk (blk_new w1 (.cells #[.int .u32 h0, .int .u32 h1, .int .u32 h2, .int .u32 h3, .int .u32 h4, .int .u32 h5, .int .u32 h6, .int .u32 h7] 159))
 have HB2 := Aside0.mk (HB.out.alloc HB.out.size (.cells #[.int .u32 h0, .int .u32 h1, .int .u32 h2, .int .u32 h3, .int .u32 h4, .int .u32 h5, .int .u32 h6, .int .u32 h7] 159))
 obtain ⟨gv, hgv⟩ : ∃ gv, w1.heap.size = gv := ⟨_, rfl⟩
 rw [hgv] at HN ⊢
 have HV := Aside0.mk (show w.heap.size ≤ gv from by rw [← hgv]; exact HB.out.size)
 clear hgv
 generalize w1.alloc (.cells #[.int .u32 h0, .int .u32 h1, .int .u32 h2, .int .u32 h3, .int .u32 h4, .int .u32 h5, .int .u32 h6, .int .u32 h7] 159) = w2 at HGH2 HGK2 HW22 HN HB2 ⊢
 clear HGH1 HGK1 HW2 HB
 go_loopw [22] (fun i W => ∃ k : Nat, k ≤ 64 ∧ i = .int .i64 k ∧ Aside0 (W.heap[gv]? = some (.cells (arrU (vAt ks (wAt bs 64) [h0, h1, h2, h3, h4, h5, h6, h7] k)) 159 (0, 0))) ∧ Aside0 (Below w.heap.size w W) ∧ Aside0 (W.heap[gw]? = some (.cells (arrU (wAt bs 64)) 170 (0, 0)))) (fun i _ => 64 - (intOf i).toNat)
 case atStart => exact ⟨0, by omega, rfl, HN, HB2, HW22⟩
 case round =>
  clear HN HB2 HW22
  obtain ⟨k, hk, rfl, HN, HB, HW⟩ := hrel
  by_cases hlt : k < 64
  ·obtain ⟨v0, v1, v2, v3, v4, v5, v6, v7, hv⟩ : ∃ v0 v1 v2 v3 v4 v5 v6 v7, vAt ks (wAt bs 64) [h0, h1, h2, h3, h4, h5, h6, h7] k = [v0, v1, v2, v3, v4, v5, v6, v7] := eight (vAt_eight _ _ _ rfl k)
   have HN2 := HN.out
   rw [hv] at HN2
   have HNN := Aside0.mk HN2
   have q0 := blk_cell HN2 0
   have q1 := blk_cell HN2 1
   have q2 := blk_cell HN2 2
   have q3 := blk_cell HN2 3
   have q4 := blk_cell HN2 4
   have q5 := blk_cell HN2 5
   have q6 := blk_cell HN2 6
   have q7 := blk_cell HN2 7
   simp only [arrU, nums, List.map_cons, List.map_nil, List.getElem?_toArray, List.getElem?_cons_zero, List.getElem?_cons_succ] at q0 q1 q2 q3 q4 q5 q6 q7
   have f0 := blk_frozen HN2 0
   have f1 := blk_frozen HN2 1
   have f2 := blk_frozen HN2 2
   have f3 := blk_frozen HN2 3
   have f4 := blk_frozen HN2 4
   have f5 := blk_frozen HN2 5
   have f6 := blk_frozen HN2 6
   have f7 := blk_frozen HN2 7
   clear HN2
   have hkc : wr.cell? ⟨gk, k, none⟩ = some (.int .u32 (ks.getD k 0)) := (blk_cell ((HB.out.block gk (blk_lt HGK.out)).trans HGK.out) k).trans (arrU_get (by rw [HK.out]; omega))
   have hwc : wr.cell? ⟨gw, k, none⟩ = some (.int .u32 ((wAt bs 64).getD k 0)) := (blk_cell HW.out k).trans (arrU_get (by rw [wAt_length]; omega))
   obtain ⟨kc, gkc⟩ : ∃ a, ks.getD k 0 = a := ⟨_, rfl⟩
   obtain ⟨wc, gwc⟩ : ∃ a, (wAt bs 64).getD k 0 = a := ⟨_, rfl⟩
   rw [gkc] at hkc
   rw [gwc] at hwc
   have HV1 := Aside0.mk (show vAt ks (wAt bs 64) [h0, h1, h2, h3, h4, h5, h6, h7] (k + 1) = turnStep kc wc [v0, v1, v2, v3, v4, v5, v6, v7] from by rw [← hv, ← gkc, ← gwc]; rfl)
   clear hv gkc gwc
   have b22 : decide ((k : Int) < 64) = true := decide_eq_true (by omega)
   have l64 : (k : Int) < 64 := by omega
   go_wp2
   go_region
   go_wp2_with (first | (go_at_call 171; (first | (with_reducible refine (bits_RotateLeft32.calls _ _ _ _ (rot6 _)).mono ?_) | (with_reducible refine (bits_RotateLeft32.calls _ _ _ _ (rot11 _)).mono ?_) | (with_reducible refine (bits_RotateLeft32.calls _ _ _ _ (rot25 _)).mono ?_)); rintro e w' ⟨rfl, ⟨nd, rfl⟩⟩))
   go_region
   go_wp2_with (first | (go_at_call 171; (first | (with_reducible refine (bits_RotateLeft32.calls _ _ _ _ (rot2 _)).mono ?_) | (with_reducible refine (bits_RotateLeft32.calls _ _ _ _ (rot13 _)).mono ?_) | (with_reducible refine (bits_RotateLeft32.calls _ _ _ _ (rot22 _)).mono ?_)); rintro e w' ⟨rfl, ⟨nd, rfl⟩⟩))
   go_roundw
   case rel =>
    refine ⟨k + 1, by omega, by go_num, ⟨?_⟩, ⟨?_⟩, ⟨?_⟩⟩
    ·rw [HV1.out]
     exact eight_set _ _ _ _ _ _ _ _ (blk_drewN HNN.out _)
    ·exact eight_below (pw_below_drewN HB.out _) HV.out _ _ _ _ _ _ _ _
    ·exact eight_far (blk_drewN HW.out _) (blk_ne HW.out HNN.out (by decide)) _ _ _ _ _ _ _ _
   case measure => simp [intOf]; omega
  ·obtain rfl : k = 64 := by omega
   have b22 : decide (((64 : Nat) : Int) < 64) = false := by decide
   obtain ⟨wo, rfl⟩ : ∃ wo : World, wo = wr := ⟨_, rfl⟩
   go_wp2
   generalize hvv : vAt ks (wAt bs 64) [h0, h1, h2, h3, h4, h5, h6, h7] 64 = vs at HN
   have hvl : vs.length = 8 := by rw [← hvv]; exact vAt_eight _ _ _ rfl _
   have HVV := Aside0.mk hvv
   have HVL := Aside0.mk hvl
   clear hvv hvl
   go_loopw [109] (fun i W => ∃ k : Nat, k ≤ 8 ∧ i = .int .i64 k ∧ Aside0 (W.heap[gh]? = some (.cells (arrU (addAt [h0, h1, h2, h3, h4, h5, h6, h7] vs k)) 159 (0, 0))) ∧ Aside0 (W.heap[gv]? = some (.cells (arrU vs) 159 (0, 0))) ∧ Aside0 (w.grownBy W (some gh))) (fun i _ => 8 - (intOf i).toNat)
   case atStart => exact ⟨0, by omega, rfl, ⟨(HB.out.block gh (blk_lt HGH.out)).trans HGH.out⟩, HN, ⟨grown_of_below HB.out _⟩⟩
   case round =>
    clear hlt hk b22 HN HB HW
    obtain ⟨k, hk, rfl, HH, HN, HB⟩ := hrel
    by_cases hlt : k < 8
    ·have hne : gh ≠ gv := by have := blk_lt HGH.out; have := HV.out; omega
     have HNE := Aside0.mk hne
     have ch : wr.cell? ⟨gh, k, none⟩ = some (.int .u32 ((addAt [h0, h1, h2, h3, h4, h5, h6, h7] vs k).getD k 0)) := (blk_cell HH.out k).trans (arrU_get (by rw [addAt_length]; exact hlt))
     have cv : wr.cell? ⟨gv, k, none⟩ = some (.int .u32 (vs.getD k 0)) := (blk_cell HN.out k).trans (arrU_get (by rw [HVL.out]; exact hlt))
     obtain ⟨a, ga⟩ : ∃ a, (addAt [h0, h1, h2, h3, h4, h5, h6, h7] vs k).getD k 0 = a := ⟨_, rfl⟩
     obtain ⟨b, gb⟩ : ∃ a, vs.getD k 0 = a := ⟨_, rfl⟩
     rw [ga] at ch
     rw [gb] at cv
     have G := Aside0.mk (show addAt [h0, h1, h2, h3, h4, h5, h6, h7] vs (k + 1) = (addAt [h0, h1, h2, h3, h4, h5, h6, h7] vs k).set k ((a + b) % 4294967296) from by rw [← ga, ← gb]; rfl)
     have fh := blk_frozen HH.out k
     have b110 : decide ((k : Int) < 8) = true := decide_eq_true (by omega)
     have l8 : (k : Int) < 8 := by omega
     clear ga gb hne
     go_wp2
     go_region
     go_wp2
     go_roundw
     case rel =>
      refine ⟨k + 1, by omega, by go_num, ⟨?_⟩, ⟨?_⟩, ⟨?_⟩⟩
      ·rw [G.out, ← arrU_set]
       exact blk_set (blk_drew HH.out) k _
      ·exact blk_far (blk_drew HN.out) HNE.out.symm _
      ·exact ⟨HB.out.os, HB.out.tape, HB.out.output, by simpa [World.setCell] using HB.out.size, fun i hi hn => (Below.heap_setCell _ _ _ _ (fun e => hn (by rw [e]))).trans (HB.out.block i hi hn)⟩
     case measure => simp [intOf]; omega
    ·obtain rfl : k = 8 := by omega
     have b110 : decide (((8 : Nat) : Int) < 8) = false := by decide
     go_wp2
     refine bodyPost_end (results_none rfl _ _ _) rfl ?_
     refine ⟨rfl, HB.out, ?_⟩
     unfold turned
     rw [HVV.out]
     exact HH.out
end Go.Proofs.YtnlndmoecljicaaGreat.Q
end
section
namespace Go.Proofs.YtnlndmoecljicaaGreat.Q
open Go.RowKit Go.Shelf Go.Proofs.YtnlndmoecljicaaGreatW.PrintWords Go.Proofs.YtnlndmoecljicaaGreatW.PrintLast Go.Proofs.YtnlndmoecljicaaGreatW.PrintMore
set_option linter.unusedVariables false
set_option linter.unusedSimpArgs false
structure BelowBut (B g : Nat) (w w' : World) : Prop where
 os : w'.os = w.os
 tape : w'.tape = w.tape
 output : w'.output = w.output
 size : w.heap.size ≤ w'.heap.size
 block : ∀ k, k < B → k ≠ g → w'.heap[k]? = w.heap[k]?
theorem BelowBut.refl (B g : Nat) (w : World) : BelowBut B g w w := ⟨rfl, rfl, rfl, Nat.le_refl _, fun _ _ _ => rfl⟩
theorem BelowBut.trans {B g : Nat} {a b c : World} (h : BelowBut B g a b) (k : BelowBut B g b c) : BelowBut B g a c :=
 ⟨k.os.trans h.os, k.tape.trans h.tape, k.output.trans h.output, Nat.le_trans h.size k.size, fun i hi hn => (k.block i hi hn).trans (h.block i hi hn)⟩
theorem BelowBut.drew {B g : Nat} {a w : World} (h : BelowBut B g a w) : BelowBut B g a w.drew := ⟨h.os, h.tape, h.output, h.size, h.block⟩
theorem BelowBut.grown {B g : Nat} {w w' : World} (h : w.grownBy w' (some g)) (hB : B ≤ w.heap.size) : BelowBut B g w w' :=
 ⟨h.os, h.tape, h.output, h.size, fun k hk hn => h.block k (by omega) (fun e => hn (Option.some.inj e))⟩
theorem BelowBut.putObj {n₀ g : Nat} {w : World} (hn : n₀ ≤ w.heap.size) (W : World) (l : Nat) (o o' : Obj) (hl : w.heap.size ≤ l) (h : W.heap[l]? = some o) (_ : o.isCells = false) (_ : o.isWalk = false) : BelowBut n₀ g W (W.putObj l o') := by
 have hg := grownBy_putObj' W l o'
 exact ⟨hg.os, hg.tape, hg.output, hg.size, fun k hk _ => hg.block k (by have := (Array.getElem?_eq_some_iff.1 h).1; omega) (fun e => by cases e; omega)⟩
theorem BelowBut.cell {B g : Nat} {w w' : World} (h : BelowBut B g w w') {p : Addr} (hp : p.block < B) (hn : p.block ≠ g) : w'.cell? p = w.cell? p := World.cell?_of_block (w := w) (h.block p.block hp hn)
def starts (k : Nat) : List Nat := (List.range k).map (64 * ·)
theorem starts_succ (k : Nat) : starts (k + 1) = starts k ++ [64 * k] := by simp [starts, List.range_succ]
theorem starts_length (k : Nat) : (starts k).length = k := by simp [starts]
attribute [local go_sem] Oper.semAt_some
set_option maxRecDepth 100000 in
set_option maxHeartbeats 2000000 in
theorem chunk1_in (F : Fence) (n : Nat) (hF : F.fn 169) (hro : F.round = none) (hn : 1 ≤ n) (l Bs Bn n₀ gh b off cap m L : Nat) (hL : L = 64 * m) (hcap : L ≤ cap) (hreach : L ≤ 140737488355328)
  (hb : b < n₀) (hbs : Bs < n₀) (hbn : Bn < n₀) (hs1 : Bs ≠ gh) (hs2 : Bn ≠ gh) (J Jx : List Nat → World → Prop)
  (hY : ∀ pre x W, J pre W → pre.length < m → x + 64 ≤ L → YieldAt F (n - 1) Tryz.prog l #[.slice (some ⟨b, off + x, none⟩) 64 64] W fun e W' =>
   (e = .returned (.bool true) ∧ J (pre ++ [x]) W' ∧ BelowBut n₀ gh W W') ∨ (e = .returned (.bool false) ∧ Jx (pre ++ [x]) W'))
  (W : World) (hJ : AbidesFrom W.heap.size J) (hBs : W.cell? ⟨Bs, 0, none⟩ = some (.slice (some ⟨b, off, none⟩) L cap)) (hBn : W.cell? ⟨Bn, 0, none⟩ = some (.int .i64 64)) (h0 : J [] W) :
  CallsIn F n Tryz.prog 169 #[.func (.yield l) #[] #[], .pointer (some ⟨Bs, 0, none⟩), .pointer (some ⟨Bn, 0, none⟩)] W fun e W' => (∃ v, e = .returned v) ∧
   ((∃ ys, ys = starts m ∧ J ys W') ∨ (∃ pre, True ∧ Jx pre W')) := by
 refine callsIn_of_wp Tryz.func169 rfl hF ?_ hro
 have HL := Aside0.mk hL
 clear hL
 simp only [Tryz.ntmps169, List.size_toArray, List.length_cons, List.length_nil, Nat.reduceAdd, Nat.reduceSub, Array.replicate_succ, Array.replicate_zero, List.push_toArray, List.append_toArray, List.nil_append, List.cons_append]
 gi_wp2
 gi_loopw [4] (fun i wr => ∃ k i0 : Nat, k ≤ m ∧ Aside0 (i0 = 64 * k) ∧ i = .int .i64 i0 ∧ J (starts k) wr ∧ BelowBut n₀ gh W wr)
  (fun i _ => L - (intOf i).toNat)
 case atStart => exact ⟨0, 0, Nat.zero_le _, ⟨rfl⟩, rfl, h0, BelowBut.refl _ _ _⟩
 case round =>
  obtain ⟨k, i, hk, HI, rfl, hJs, hnx⟩ := hrel
  have c1 : wr.cell? ⟨Bs, 0, none⟩ = some (.slice (some ⟨b, off, none⟩) L cap) := (hnx.cell (p := ⟨Bs, 0, none⟩) hbs hs1).trans hBs
  have c2 : wr.cell? ⟨Bn, 0, none⟩ = some (.int .i64 64) := (hnx.cell (p := ⟨Bn, 0, none⟩) hbn hs2).trans hBn
  have hi := HI.out
  have hl := HL.out
  by_cases hlt : i < L
  ·have hdrew : J (starts k) wr.drew := hJ _ _ _ none hJs ⟨rfl, rfl, rfl, Nat.le_refl _, fun _ _ _ => rfl⟩ (fun r e => by cases e)
   obtain ⟨fn, tmps, assign, body, hy, hR⟩ := hY _ i wr.drew hdrew (by rw [starts_length]; omega) (by omega)
   have hle : i + 64 ≤ L := by omega
   clear hi hl
   have b1 : decide (i < L) = true := decide_eq_true hlt
   gi_wp2
   gi_region
   all_goals
    gi_wp2
    refine hR.mono ?_
    rintro e W3 (⟨rfl, hJ3, hk3⟩ | ⟨rfl, hJx3⟩)
    ·have c3 : W3.cell? ⟨Bn, 0, none⟩ = some (.int .i64 64) := (hk3.cell (p := ⟨Bn, 0, none⟩) hbn hs2).trans c2
     gi_wp2
     go_roundw
     case rel => exact ⟨k + 1, i + 64, by have h1 := HI.out; have h2 := HL.out; omega, ⟨by have h1 := HI.out; omega⟩, by go_num, by rw [starts_succ, ← HI.out]; exact hJ3, hnx.drew.trans hk3⟩
     case measure => simp [intOf]; omega
    ·gi_wp2
     refine bodyPost_ret (results_none rfl _ _ _) rfl ?_
     exact ⟨⟨_, rfl⟩, .inr ⟨_, trivial, hJx3⟩⟩
  ·have b1 : decide (i < L) = false := decide_eq_false hlt
   have hkm : k = m := by omega
   rw [hkm] at hJs
   clear hi hl hkm
   gi_wp2
   go_end0
   exact ⟨⟨_, rfl⟩, .inl ⟨_, rfl, hJs⟩⟩
theorem chunk_stops (F : Fence) (n : Nat) (hF : F.fn 169) (hro : F.round = none) (hn : 1 ≤ n) (Bs Bn n₀ gh b off cap m L : Nat) (hL : L = 64 * m) (hcap : L ≤ cap) (hreach : L ≤ 140737488355328)
  (hb : b < n₀) (hbs : Bs < n₀) (hbn : Bn < n₀) (hs1 : Bs ≠ gh) (hs2 : Bn ≠ gh) (w : World) (hn₀ : n₀ ≤ w.heap.size)
  (hBs : w.cell? ⟨Bs, 0, none⟩ = some (.slice (some ⟨b, off, none⟩) L cap)) (hBn : w.cell? ⟨Bn, 0, none⟩ = some (.int .i64 64)) :
  SeqStopsK F n Tryz.prog 169 #[.pointer (some ⟨Bs, 0, none⟩), .pointer (some ⟨Bn, 0, none⟩)] (fun x : { x : Nat // x + 64 ≤ L } => #[Value.slice (some ⟨b, off + x.1, none⟩) 64 64]) (BelowBut n₀ gh)
   (fun ys => ys.map (·.1) = starts m) (fun _ => True) m w := fun l J Jx W hW hJ _ hY h0 => by
 have hBs' := (hW.cell (p := ⟨Bs, 0, none⟩) (Nat.lt_of_lt_of_le hbs hn₀)).trans hBs
 have hBn' := (hW.cell (p := ⟨Bn, 0, none⟩) (Nat.lt_of_lt_of_le hbn hn₀)).trans hBn
 refine (chunk1_in F n hF hro hn l Bs Bn n₀ gh b off cap m L hL hcap hreach hb hbs hbn hs1 hs2 (fun pre W => ∃ q : List { x : Nat // x + 64 ≤ L }, q.map (·.1) = pre ∧ J q W) (fun pre W => ∃ q : List { x : Nat // x + 64 ≤ L }, q.map (·.1) = pre ∧ Jx q W) ?_ W ?_ hBs' hBn' ⟨[], rfl, h0⟩).mono ?_
 ·rintro pre x W1 ⟨q, rfl, hq⟩ hlen hx
  obtain ⟨fn, tmps, assign, body, hy, hR⟩ := hY q ⟨x, hx⟩ W1 hq (by simpa using hlen)
  refine ⟨fn, tmps, assign, body, hy, hR.mono ?_⟩
  rintro e W' (⟨rfl, hJ1, hk⟩ | ⟨rfl, hJx⟩)
  ·exact .inl ⟨rfl, ⟨_, by simp, hJ1⟩, hk⟩
  ·exact .inr ⟨rfl, _, by simp, hJx⟩
 ·rintro s A B row ⟨q, rfl, hq⟩ hg hr
  exact ⟨q, rfl, hJ q A B row hq hg hr⟩
 ·rintro e W' ⟨he, ⟨ys, rfl, q, hq, hj⟩ | ⟨pre, _, q, hq, hj⟩⟩
  ·exact ⟨he, .inl ⟨q, hq, hj⟩⟩
  ·exact ⟨he, .inr ⟨q, trivial, hj⟩⟩
set_option maxHeartbeats 1000000 in
set_option maxRecDepth 100000 in
theorem chunk_in (F : Fence) (n : Nat) (hF : F.fn 157) (hro : F.round = none) (a : Option Addr) (len cap : Nat) (w : World) :
  CallsIn F n Tryz.prog 157 #[.slice a len cap, .int .i64 64] w fun e w' => e = .returned (.func (.func 169) #[] #[.pointer (some ⟨w.heap.size, 0, none⟩), .pointer (some ⟨w.heap.size + 1, 0, none⟩)]) ∧ w' = (w.alloc (.cells #[.slice a len cap] 27)).alloc (.cells #[.int .i64 64] 3) := by
 refine callsIn_of_wp Tryz.func157 rfl hF ?_ hro
 simp only [Tryz.ntmps157, List.size_toArray, List.length_cons, List.length_nil, Nat.reduceAdd, Nat.reduceSub, Array.replicate_succ, Array.replicate_zero, List.push_toArray, List.append_toArray, List.nil_append, List.cons_append]
 gi_wp2
 go_ret
 exact ⟨rfl, rfl⟩
end Go.Proofs.YtnlndmoecljicaaGreat.Q
end
section
namespace Go.Proofs.YtnlndmoecljicaaGreat.Q
open Go.RowKit Go.Proofs.YtnlndmoecljicaaGreatW.PrintWords Go.Proofs.YtnlndmoecljicaaGreatW.PrintLast Go.Proofs.YtnlndmoecljicaaGreatW.PrintMore
set_option linter.unusedVariables false
set_option linter.unusedSimpArgs false
def slices_Clone_byte_byte.f (l0 : List Int) : Option (List Int) := if l0.length ≤ 140737488355328 then some l0 else none
theorem slices_Clone_byte_byte.info : (Tryz.prog.info? 5).map (fun i => (i.zero, i.size, i.bytes)) = some (some (.int .u8 0), 1, 1) := by kernel_rfl
set_option maxHeartbeats 1000000 in
set_option maxRecDepth 100000 in
theorem slices_Clone_byte_byte.calls (A0 : Option Addr) (c0 : Nat) (l0 : List Int) (r : List Int) (w : World) (hr0 : Kd.C (Kd.int .u8) w A0 l0.length l0) (hc0 : l0.length ≤ c0) (h : slices_Clone_byte_byte.f l0 = some r) :
  Calls Tryz.prog 122 #[.slice A0 l0.length c0] w fun e w' => ∃ v0_ : Value, e = .returned (v0_) ∧ Kd.R (Kd.int .u8) 5 w' w.heap.size (fun _ => True) v0_ r ∧ Below w.heap.size w w' := by
 unfold slices_Clone_byte_byte.f at h
 by_cases hl : l0.length ≤ 140737488355328
 ·rw [if_pos hl] at h
  obtain rfl := Option.some.inj h
  have LM := Aside0.mk hl
  have HR0 := Aside0.mk hr0
  have HC0 := Aside0.mk hc0
  have hn := fun W : World => Lib.run_eql_slice_nil (P := Tryz.prog) W 27 5 A0 l0.length c0 0 0 Tryz.underlying27
  clear hl h hc0
  cases A0 with
  | none =>
   have h0 : l0 = [] := by
    rcases Nat.eq_zero_or_pos l0.length with hz | hz
    ·exact List.eq_nil_of_length_eq_zero hz
    ·obtain ⟨ad, he, _⟩ := hr0.2.2 hz
     cases he
   subst h0
   clear hr0 hn
   have hn2 := fun W : World => Lib.run_eql_slice_nil (P := Tryz.prog) W 27 5 none 0 c0 0 0 Tryz.underlying27
   go_enter Tryz.func122, Tryz.ntmps122
   go_wp2
   go_ret
   exact ⟨_, rfl, Kd.R_nil _ _ _ _ _, Below.refl _ _⟩
  | some ad =>
   clear hr0
   go_enter Tryz.func122, Tryz.ntmps122
   go_wp2_with (first | ((with_reducible refine gate_dst (N := 5) rfl ?_); refine Kd.R_lit (Kd.int .u8) _ 5 ?hg (N := 5) ?hd (w0 := w) (xs := ([] : List Int)) (inner := []) (ok := fun _ => True) (okp := fun _ => True) ?hr ?hp (fun _ hk => hk) trivial (Below.refl _ _) (Nat.le_refl _) (by simp) ?_; (case hd => rfl); (case hg => rfl); (case hr => first | (go_simp; done) | (go_simp; rfl)); (case hp => exact (Reps.none _ _)); intro v1 w4 ho5 hb hg_ hnew_; clear hg_ hnew_; have HO := Aside0.mk ho5; have HB := Aside0.mk hb; clear ho5 hb) | ((with_reducible refine gate_builtin (b := .append) (xs := #[.tmp 5, .tmp 6]) rfl ?_); at_builtin; refine Kd.R_append_rows (Kd.int .u8) (w0 := w) w.heap.size rfl (.tmp 5) (.tmp 6) 27 5 (.int .u8 0) 1 rfl Tryz.underlying27 slices_Clone_byte_byte.info rfl (by decide) (by omega) v1 [] l0 _ _ _ (fun _ => True) (fun _ => False) rfl rfl ?aO ?aR (fun _ _ h => h) (fun _ h => h.elim) ?aF ?aB ?aS ?aL ?_; (case aR => exact Kd.C_below HR0.out HB.out); (case aB => exact HB.out); (case aF => exact (fun _ _ => trivial)); (case aO => exact HO.out); (case aS => exact HB.out.size); (case aL => have := LM.out; simp only [List.length_nil]; omega); intro v2 w6 ho hb hg hat; have HO2 := Aside0.mk ho; have HB2 := Aside0.mk hb; clear ho hb hg hat))
   go_ret
   exact ⟨_, rfl, by simpa using HO2.out, HB2.out⟩
 ·rw [if_neg hl] at h
  cases h
end Go.Proofs.YtnlndmoecljicaaGreat.Q
end
section
namespace Go.Proofs.YtnlndmoecljicaaGreat.Q
open Go.RowKit Go.Proofs.YtnlndmoecljicaaGreatW.PrintWords Go.Proofs.YtnlndmoecljicaaGreatW.PrintLast Go.Proofs.YtnlndmoecljicaaGreatW.PrintMore
attribute [local go_sem] max2_int min2_int max_two min_two max_three min_three max_four min_four   -- for this text's walks alone
set_option linter.unusedVariables false
set_option linter.unusedSimpArgs false
mutual
def impl_Padded.l0 : Nat → List Int → List Int → Option (List Int)
 | 0, _, _ => none
 | k + 1, x0, x3 => if (Int.tmod (wrap64 ((x3.length : Int) + 8)) 64) = 0 then (impl_Padded.l1 k x3 (wrap64 (8 * (x0.length : Int))) 7) else (if x3.length < 140737488355328 then (impl_Padded.l0 k x0 (x3 ++ [0])) else (none))
def impl_Padded.l1 : Nat → List Int → Int → Int → Option (List Int)
 | 0, _, _, _ => none
 | k + 1, x3, x4, x5 => if x5 ≥ 0 then (if 0 ≤ (IntKind.u64.wrap (wrap64 (8 * x5))) then (if x3.length < 140737488355328 then (impl_Padded.l1 k (x3 ++ [(shr .i64 x4 (IntKind.u64.wrap (wrap64 (8 * x5)))) % 256]) x4 (wrap64 (x5 - 1))) else (none)) else (none)) else (some x3)
end
def impl_Padded.f (k : Nat) (l0 : List Int) : Option (List Int) := (slices_Clone_byte_byte.f l0).bind fun t601 => (if t601.length < 140737488355328 then (impl_Padded.l0 k l0 (t601 ++ [128])) else (none))
set_option maxHeartbeats 8000000 in
set_option maxRecDepth 100000 in
theorem impl_Padded.calls (k : Nat) (A0 : Option Addr) (c0 : Nat) (l0 : List Int) (r : List Int) (w : World) (hr0 : Kd.C (Kd.int .u8) w A0 l0.length l0) (hc0 : l0.length ≤ c0) (h : impl_Padded.f k l0 = some r) :
  Calls Tryz.prog 158 #[.slice A0 l0.length c0] w fun e w' => ∃ v0_ : Value, e = .returned (v0_) ∧ Kd.R (Kd.int .u8) 5 w' w.heap.size (fun _ => True) v0_ r ∧ Below w.heap.size w w' := by
 have HR0 := Aside0.mk hr0
 have HC0 := Aside0.mk hc0
 clear hr0 hc0
 have HB := Aside0.mk (Below.refl w.heap.size w)
 have H : ((slices_Clone_byte_byte.f l0).bind fun t601 => (if t601.length < 140737488355328 then (impl_Padded.l0 k l0 (t601 ++ [128])) else (none))) = some r := h
 clear h
 replace H := bi_ H; obtain ⟨t601, A2, H⟩ := H
 replace H := ip_ H; obtain ⟨c3, H⟩ := H
 have LMc3 := Aside0.mk c3
 clear c3
 obtain ⟨y604, hy604⟩ : ∃ y_ : List Int, y_ = (t601 ++ [128]) := ⟨_, rfl⟩
 replace H : (impl_Padded.l0 k l0 y604) = some r := yh_ hy604 H
 have Ny604 := Aside0.mk hy604
 clear hy604
 have H' := Aside0.mk H
 clear H
 go_enter Tryz.func158, Tryz.ntmps158
 go_wp2_with (first | ((with_reducible refine gq_ 122 7 ?_); refine gc_ 7 Tryz.func122 (slices_Clone_byte_byte.calls _ _ l0 t601 _ (cr_ HR0.out) HC0.out A2.out) ?_; rintro e w4 ⟨v602, rfl, ho0, hb⟩; refine ⟨_, rfl, ?_⟩; have HO603 := Aside0.mk (Kd.R_lower ho0 (sz_ HB)); replace HB := ss_ HB hb; clear hb ho0) | ((with_reducible refine gate_builtin (b := .append) (xs := #[.tmp 7, .tmp 8]) rfl ?_); at_builtin; refine Kd.R_append (Kd.int .u8) (w0 := w) w.heap.size rfl (.tmp 7) (.tmp 8) 27 5 (.int .u8 0) 1 rfl Tryz.underlying27 info5 rfl (by decide) (by omega) v602 t601 128 [.int .u8 128] (fun _ => True) (fun _ => False) rfl rfl ?aP (fun _ hk => hk.elim) ?aF ?aO ?aB ?aS ?aL ?_; (case aP => exact rfl); (case aB => exact (bw_ HB)); (case aF => exact (fun _ _ => trivial)); (case aO => exact (kr_ HO603.out)); (case aS => exact (sz_ HB)); (case aL => have := LMc3.out; omega); intro v605 w5 ho hb hg hat; rw [← Ny604.out] at ho; replace HB := Aside0.mk hb; have HO606 := Aside0.mk ho; clear HO603; clear ho hb hg hat))
 go_loopg [3] k (fun kq v3 w' => ∃ (x3_1 : List Int), Aside0 (impl_Padded.l0 kq l0 x3_1 = some r) ∧ Aside0 (kq ≤ k) ∧ Aside0 (Kd.R (Kd.int .u8) 5 w' w.heap.size (fun _ => True) v3 x3_1) ∧ Aside0 (Below w.heap.size w w'))
 case atStart => exact ⟨(y604), H', ⟨Nat.le_refl _⟩, ⟨kr_ HO606.out⟩, ⟨bw_ HB⟩⟩
 case round =>
  clear H'
  try clear c3
  obtain ⟨x3_1, HA, HK1, HO_3, HB⟩ := hrel
  cases gk with
  | zero => exact absurd HA.out (by simp [impl_Padded.l0])
  | succ k1 =>
   have H := HA.out
   clear HA
   simp only [impl_Padded.l0] at H
   replace H := it_ H; obtain ⟨c6, H⟩ | ⟨c6, H⟩ := H
   ·have c6b0 : ((Int.tmod (wrap64 ((x3_1.length : Int) + 8)) 64) == 0) = true := beq_iff_eq.mpr c6
    have c6b1 : ((Int.tmod (wrap64 ((x3_1.length : Int) + 8)) 64) != 0) = false := bne_eq_false_iff_eq.mpr c6
    clear c6
    have H' := Aside0.mk H
    clear H
    obtain ⟨Ao7, co7, eo7⟩ := Kd.R_slice HO_3.out
    subst eo7
    go_wp2
    go_loopg [3, 5] k1 (fun kq v3 v5 w' => ∃ (x3_2 : List Int) (x5_2 : Int), v5 = .int .i64 x5_2 ∧ Aside0 (impl_Padded.l1 kq x3_2 (wrap64 (8 * (l0.length : Int))) x5_2 = some r) ∧ Aside0 (kq ≤ k1) ∧ Aside0 (Kd.R (Kd.int .u8) 5 w' w.heap.size (fun _ => True) v3 x3_2) ∧ Aside0 (Below w.heap.size w w'))
    case atStart => exact ⟨(x3_1), (7), e1_, H', ⟨Nat.le_refl _⟩, ⟨kr_ HO_3.out⟩, ⟨bw_ HB⟩⟩
    case round =>
     clear H'
     try clear c1
     try clear p2
     try clear c3
     try clear c6
     try clear c6b0
     try clear c6b1
     obtain ⟨x3_2, x5_2, rfl, HA, HK2, HO_3, HB⟩ := hrel
     cases gk with
     | zero => exact absurd HA.out (by simp [impl_Padded.l1])
     | succ k2 =>
      have H := HA.out
      clear HA
      simp only [impl_Padded.l1] at H
      replace H := it_ H; obtain ⟨c8, H⟩ | ⟨c8, H⟩ := H
      ·have c8b0 : decide (0 ≤ x5_2) = true := decide_eq_true c8
       clear c8
       generalize hji9 : (IntKind.u64.wrap (wrap64 (8 * x5_2))) = ji9 at H
       replace H := ip_ H; obtain ⟨c10, H⟩ := H
       have c10b0 := eq_true c10
       have c10b1 := decide_eq_true c10
       clear c10
       generalize hji11 : (shr .i64 (wrap64 (8 * (l0.length : Int))) (ji9)) = ji11 at H
       have hji11_ : ((wrap64 (8 * (l0.length : Int))) / 2 ^ min (ji9).toNat 64) = ji11 := hji11
       have hji11z : (ji9) ≤ 64 → ((wrap64 (8 * (l0.length : Int))) / 2 ^ (ji9).toNat) = ji11 := shr_small hji11
       replace H := ip_ H; obtain ⟨c12, H⟩ := H
       have LMc12 := Aside0.mk c12
       clear c12
       obtain ⟨y610, hy610⟩ : ∃ y_ : List Int, y_ = (x3_2 ++ [(ji11) % 256]) := ⟨_, rfl⟩
       replace H : (impl_Padded.l1 k2 y610 (wrap64 (8 * (l0.length : Int))) (wrap64 (x5_2 - 1))) = some r := yh_ hy610 H
       have Ny610 := Aside0.mk hy610
       clear hy610
       have H' := Aside0.mk H
       clear H
       go_wp2_with (first | ((with_reducible refine gate_builtin (b := .append) (xs := #[.tmp 25, .tmp 32]) rfl ?_); at_builtin; refine Kd.R_append (Kd.int .u8) (w0 := w) w.heap.size rfl (.tmp 25) (.tmp 32) 27 5 (.int .u8 0) 1 rfl Tryz.underlying27 info5 rfl (by decide) (by omega) u3 x3_2 ((ji11) % 256) [.int .u8 ((ji11) % 256)] (fun _ => True) (fun _ => False) rfl rfl ?aP (fun _ hk => hk.elim) ?aF ?aO ?aB ?aS ?aL ?_; (case aP => exact rfl); (case aB => exact (bw_ HB)); (case aF => exact (fun _ _ => trivial)); (case aO => exact (kr_ HO_3.out)); (case aS => exact (sz_ HB)); (case aL => have := LMc12.out; omega); intro v611 w13 ho hb hg hat; rw [← Ny610.out] at ho; replace HB := Aside0.mk hb; have HO612 := Aside0.mk ho; clear HO_3; clear ho hb hg hat))
       go_roundg k2
       case measure => have := HK1.out; have := HK2.out; omega
       case rel => exact ⟨(y610), (wrap64 (x5_2 - 1)), e1_, H', ⟨by have := HK1.out; have := HK2.out; omega⟩, ⟨kr_ HO612.out⟩, ⟨bw_ HB⟩⟩
      ·have c8b0 : decide (0 ≤ x5_2) = false := decide_eq_false c8
       clear c8
       obtain rfl := Option.some.inj H
       go_wp2
       go_ret
       exact ⟨_, e2_, kr_ HO_3.out, bw_ HB⟩
   ·have c6b0 : ((Int.tmod (wrap64 ((x3_1.length : Int) + 8)) 64) == 0) = false := beq_eq_false_iff_ne.mpr c6
    have c6b1 : ((Int.tmod (wrap64 ((x3_1.length : Int) + 8)) 64) != 0) = true := bne_iff_ne.mpr c6
    replace H := ip_ H; obtain ⟨c14, H⟩ := H
    have LMc14 := Aside0.mk c14
    clear c14
    obtain ⟨y607, hy607⟩ : ∃ y_ : List Int, y_ = (x3_1 ++ [0]) := ⟨_, rfl⟩
    replace H : (impl_Padded.l0 k1 l0 y607) = some r := yh_ hy607 H
    have Ny607 := Aside0.mk hy607
    clear hy607
    have H' := Aside0.mk H
    clear H
    obtain ⟨Ao15, co15, eo15⟩ := Kd.R_slice HO_3.out
    subst eo15
    go_wp2_with (first | ((with_reducible refine gate_builtin (b := .append) (xs := #[.tmp 15, .tmp 16]) rfl ?_); at_builtin; refine Kd.R_append (Kd.int .u8) (w0 := w) w.heap.size rfl (.tmp 15) (.tmp 16) 27 5 (.int .u8 0) 1 rfl Tryz.underlying27 info5 rfl (by decide) (by omega) (.slice Ao15 x3_1.length co15) x3_1 0 [.int .u8 0] (fun _ => True) (fun _ => False) rfl rfl ?aP (fun _ hk => hk.elim) ?aF ?aO ?aB ?aS ?aL ?_; (case aP => exact rfl); (case aB => exact (bw_ HB)); (case aF => exact (fun _ _ => trivial)); (case aO => exact (kr_ HO_3.out)); (case aS => exact (sz_ HB)); (case aL => have := LMc14.out; omega); intro v608 w16 ho hb hg hat; rw [← Ny607.out] at ho; replace HB := Aside0.mk hb; have HO609 := Aside0.mk ho; clear HO_3; clear ho hb hg hat))
    go_roundg k1
    case measure => have := HK1.out; omega
    case rel => exact ⟨(y607), H', ⟨by have := HK1.out; omega⟩, ⟨kr_ HO609.out⟩, ⟨bw_ HB⟩⟩
end Go.Proofs.YtnlndmoecljicaaGreat.Q
end
section
namespace Go.Proofs.YtnlndmoecljicaaGreat.Q
open Go.RowKit Go.Proofs.YtnlndmoecljicaaGreat.B Go.Proofs.YtnlndmoecljicaaGreatW.PrintWords Go.Proofs.YtnlndmoecljicaaGreatW.PrintMore
def zerosOf (n : Nat) : Nat := (119 - n % 64) % 64
def tailBytes (n : Int) : Nat → List Int
 | 0 => []
 | j + 1 => (shr .i64 n (8 * (j : Int))) % 256 :: tailBytes n j
def len8 (n : Int) : List Int := tailBytes n 8
theorem tailBytes_length (n : Int) (j : Nat) : (tailBytes n j).length = j := by
 induction j with
 | zero => rfl
 | succ j ih => simp [tailBytes, ih]
theorem tailBytes_bytes (n : Int) (j : Nat) : ∀ x ∈ tailBytes n j, 0 ≤ x ∧ x ≤ 255 := by
 induction j with
 | zero => simp [tailBytes]
 | succ j ih =>
  intro x hx
  rcases List.mem_cons.1 hx with rfl | hx
  ·omega
  ·exact ih x hx
def padL (l : List Int) : List Int := l ++ [128] ++ List.replicate (zerosOf l.length) 0 ++ len8 (8 * l.length)
theorem padL_length (l : List Int) : (padL l).length % 64 = 0 := by
 simp [padL, len8, tailBytes_length, zerosOf]
 omega
theorem padL_bytes (l : List Int) (h : ∀ x ∈ l, 0 ≤ x ∧ x ≤ 255) : ∀ x ∈ padL l, 0 ≤ x ∧ x ≤ 255 := by
 intro x hx
 simp only [padL, len8, List.mem_append, List.mem_replicate] at hx
 rcases hx with ((hx | hx) | hx) | hx
 ·exact h x hx
 ·simp at hx
  omega
 ·omega
 ·exact tailBytes_bytes _ _ x hx
theorem padL_size (l : List Int) : (padL l).length ≤ l.length + 72 := by
 simp [padL, len8, tailBytes_length, zerosOf]
 omega
theorem u64_eight (j : Nat) (hj : j ≤ 7) : IntKind.u64.wrap (wrap64 (8 * (j : Int))) = 8 * (j : Int) := by
 rw [w64 (by omega) (by omega), IntWalk.u64_in _ ⟨by omega, by omega⟩]
theorem padded_l1 (n : Int) : ∀ (j : Nat) (acc : List Int), j ≤ 8 → acc.length + j ≤ 140737488355320 → Ev (fun k => impl_Padded.l1 k acc n ((j : Int) - 1)) (acc ++ tailBytes n j) := by
 intro j
 induction j with
 | zero =>
  intro acc _ _
  refine Ev.step (f := fun _ => some acc) (fun k => ?_) (Ev.one (Ev.now _) (by simp [tailBytes]))
  simp only [impl_Padded.l1]
  rw [if_neg (by omega)]
 | succ j ih =>
  intro acc h1 h2
  refine Ev.step (fun k => ?_) (Ev.one (ih (acc ++ [(shr .i64 n (8 * (j : Int))) % 256]) (by omega) (by simp; omega)) (by simp [tailBytes]))
  simp only [impl_Padded.l1]
  have hj : (((j + 1 : Nat) : Int) - 1) = (j : Int) := by omega
  rw [hj, if_pos (by omega), u64_eight j (by omega), if_pos (by omega), if_pos (by omega), w64 (by omega) (by omega)]
theorem padded_l0 (l : List Int) (hl : l.length ≤ 1099511627776) : ∀ (d i : Nat) (acc : List Int), i + d = zerosOf l.length → acc = l ++ [128] ++ List.replicate i 0 → Ev (fun k => impl_Padded.l0 k l acc) (padL l) := by
 intro d
 induction d with
 | zero =>
  intro i acc hi ha
  have hlen : acc.length = l.length + 1 + i := by rw [ha]; simp; omega
  have hz : zerosOf l.length = (119 - l.length % 64) % 64 := rfl
  refine Ev.step (fun k => ?_) (Ev.one (padded_l1 (8 * (l.length : Int)) 8 acc (by omega) (by omega)) ?_)
  ·simp only [impl_Padded.l0]
   rw [w64 (by omega) (by omega), Int.tmod_eq_emod_of_nonneg (by omega), if_pos (by omega), w64 (by omega) (by omega)]
   rfl
  ·rw [ha, show i = zerosOf l.length from by omega]
   rfl
 | succ d ih =>
  intro i acc hi ha
  have hlen : acc.length = l.length + 1 + i := by rw [ha]; simp; omega
  have hz : zerosOf l.length = (119 - l.length % 64) % 64 := rfl
  refine Ev.step (fun k => ?_) (ih (i + 1) (acc ++ [0]) (by omega) (by rw [ha, List.append_assoc (l ++ [128])]; congr 1; rw [List.replicate_succ']))
  simp only [impl_Padded.l0]
  rw [w64 (by omega) (by omega), Int.tmod_eq_emod_of_nonneg (by omega), if_neg (by omega), if_pos (by omega)]
theorem impl_Padded_ev (l : List Int) (hl : l.length ≤ 1099511627776) : Ev (fun k => impl_Padded.f k l) (padL l) := by
 refine Ev.congr (fun k => ?_) (padded_l0 l hl (zerosOf l.length) 0 (l ++ [128]) (by omega) (by simp))
 unfold impl_Padded.f slices_Clone_byte_byte.f
 rw [if_pos (by omega)]
 simp only [Option.bind_some]
 rw [if_pos (by omega)]
end Go.Proofs.YtnlndmoecljicaaGreat.Q
end
section
namespace Go.Proofs.YtnlndmoecljicaaGreat.Q
open Go.RowKit Go.Shelf Go.Proofs.YtnlndmoecljicaaGreatW.PrintWords Go.Proofs.YtnlndmoecljicaaGreatW.PrintLast Go.Proofs.YtnlndmoecljicaaGreatW.PrintMore
set_option linter.unusedVariables false
set_option linter.unusedSimpArgs false
def shaK : List Int := [1116352408, 1899447441, 3049323471, 3921009573, 961987163, 1508970993, 2453635748, 2870763221, 3624381080, 310598401, 607225278, 1426881987, 1925078388, 2162078206, 2614888103, 3248222580, 3835390401, 4022224774, 264347078, 604807628, 770255983, 1249150122, 1555081692, 1996064986, 2554220882, 2821834349, 2952996808, 3210313671, 3336571891, 3584528711, 113926993, 338241895, 666307205, 773529912, 1294757372, 1396182291, 1695183700, 1986661051, 2177026350, 2456956037, 2730485921, 2820302411, 3259730800, 3345764771, 3516065817, 3600352804, 4094571909, 275423344, 430227734, 506948616, 659060556, 883997877, 958139571, 1322822218, 1537002063, 1747873779, 1955562222, 2024104815, 2227730452, 2361852424, 2428436474, 2756734187, 3204031479, 3329325298]
def shaH : List Int := [1779033703, 3144134277, 1013904242, 2773480762, 1359893119, 2600822924, 528734635, 1541459225]
def blockAt (p : List Int) (x : Nat) : List Int := (p.drop x).take 64
def foldAt (p : List Int) (xs : List Nat) : List Int := xs.foldl (fun h x => turned shaK (blockAt p x) h) shaH
theorem foldAt_snoc (p : List Int) (xs : List Nat) (x : Nat) : foldAt p (xs ++ [x]) = turned shaK (blockAt p x) (foldAt p xs) := by simp [foldAt]
theorem turned_length (ks bs hs : List Int) : (turned ks bs hs).length = hs.length := addAt_length _ _ _
theorem foldAt_length (p : List Int) (xs : List Nat) : (foldAt p xs).length = 8 := by
 have main : ∀ (xs : List Nat) (h : List Int), h.length = 8 → (xs.foldl (fun h x => turned shaK (blockAt p x) h) h).length = 8 := by
  intro xs
  induction xs with
  | nil => exact fun h hh => hh
  | cons x xs ih => exact fun h hh => ih _ (by rw [turned_length]; exact hh)
 exact main xs shaH rfl
def wordBytes (x : Int) : List Int := [x / 16777216 % 256, x / 65536 % 256, x / 256 % 256, x % 256]
def outBytes (hs : List Int) (k : Nat) : List Int := (hs.take k).flatMap wordBytes
def shaBytes (l : List Int) : List Int := outBytes (foldAt (padL l) (starts ((padL l).length / 64))) 8
def sha (l : List Int) : ByteArray := strOfNums (shaBytes l)
def impl_Digest.f (l : List Int) : Option (ByteArray) := if l.length ≤ 1099511627776 then some (sha l) else none
set_option maxHeartbeats 2000000 in
set_option maxRecDepth 100000 in
theorem rounds_calls (w : World) : Calls Tryz.prog 156 #[] w fun e w' => ∃ g, e = .returned (.pointer (some ⟨g, 0, none⟩)) ∧ w.heap.size ≤ g ∧ w'.heap[g]? = some (.cells (arrU shaK) 170 (0, 0)) ∧ Below w.heap.size w w' := by
 go_enter Tryz.func156, Tryz.ntmps156
 go_wp2
 go_ret
 exact ⟨_, rfl, Nat.le_refl _, blk_new w _, (Below.refl _ _).alloc (Nat.le_refl _) _⟩
theorem sub_reads {w : World} {b n : Nat} {xs : List Int} (h : Kd.C (Kd.int .u8) w (some ⟨b, 0, none⟩) n xs) (x : Nat) (hx : x + 64 ≤ n) : Kd.C (Kd.int .u8) w (some ⟨b, 0 + x, none⟩) (blockAt xs x).length (blockAt xs x) ∧ (blockAt xs x).length = 64 := by
 have hl := h.1
 have h64 : (blockAt xs x).length = 64 := by simp [blockAt]; omega
 obtain ⟨ad, he, hby⟩ := bytes_at h (by omega)
 obtain rfl := (Option.some.inj he).symm
 refine ⟨⟨rfl, by omega, fun _ => ⟨_, rfl, fun j p hj => ⟨[.int .u8 p], rfl, rfl, fun i u hu => ?_⟩⟩⟩, h64⟩
 have hj64 : j < 64 := by rw [← h64]; exact (List.getElem?_eq_some_iff.1 hj).1
 have hi0 : i = 0 := by
  rcases Nat.eq_zero_or_pos i with hz | hz
  ·exact hz
  ·rw [List.getElem?_eq_none (by simp; omega)] at hu
   cases hu
 subst hi0
 have hu2 : u = .int .u8 p := by simpa using hu.symm
 have hp : xs[x + j]? = some p := by
  rw [blockAt, List.getElem?_take, if_pos hj64, List.getElem?_drop] at hj
  exact hj
 have := hby.2 (x + j) (by omega)
 rw [hu2]
 have hrd : rd xs ((x + j : Nat) : Int) = p := by unfold rd; rw [Int.toNat_natCast]; simp [List.getD_eq_getElem?_getD, hp]
 rw [hrd] at this
 have haddr : (⟨b, 0 + x, none⟩ : Addr).add (j * (Kd.int .u8).sz + 0) = (⟨b, 0, none⟩ : Addr).add (x + j) := by
  rw [show (Kd.int .u8).sz = 1 from rfl, Nat.mul_one, Nat.add_zero]
  unfold Addr.add
  by_cases hj0 : j = 0
  ·by_cases hxx : x = 0
   ·simp [hj0, hxx]
   ·simp [hj0, hxx]
  ·simp [hj0]
 rw [haddr]
 exact this
end Go.Proofs.YtnlndmoecljicaaGreat.Q
end
section
namespace Go.Proofs.YtnlndmoecljicaaGreat.Q
open Go.RowKit Go.Proofs.YtnlndmoecljicaaGreatW.PrintWords Go.Proofs.YtnlndmoecljicaaGreatW.PrintLast Go.Proofs.YtnlndmoecljicaaGreatW.PrintMore
attribute [local go_sem] max2_int min2_int max_two min_two max_three min_three max_four min_four   -- for this text's walks alone
set_option linter.unusedVariables false
set_option linter.unusedSimpArgs false
mutual
def spec_Padded.l0 : Nat → List Int → List Int → Option (List Int)
 | 0, _, _ => none
 | k + 1, x0, x3 => if ((x3.length : Int) % 64) = 56 then (spec_Padded.l1 k x3 (wrap64 ((x0.length : Int) * 8)) 56) else (if x3.length < 140737488355328 then (spec_Padded.l0 k x0 (x3 ++ [0])) else (none))
def spec_Padded.l1 : Nat → List Int → Int → Int → Option (List Int)
 | 0, _, _, _ => none
 | k + 1, x3, x4, x5 => if x5 ≥ 0 then (if 0 ≤ (IntKind.u64.wrap (x5)) then (if x3.length < 140737488355328 then (spec_Padded.l1 k (x3 ++ [(shr .i64 x4 (IntKind.u64.wrap (x5))) % 256]) x4 (wrap64 (x5 - 8))) else (none)) else (none)) else (some x3)
end
def spec_Padded.f (k : Nat) (l0 : List Int) : Option (List Int) := (some (([] : List Int) : List Int)).bind fun y601 => (if y601.length + l0.length < 140737488355328 then ((some (y601 ++ l0 : List Int)).bind fun y604 => (if y604.length < 140737488355328 then (spec_Padded.l0 k l0 (y604 ++ [128])) else (none))) else (none))
set_option maxHeartbeats 8000000 in
set_option maxRecDepth 100000 in
theorem spec_Padded.calls (k : Nat) (A0 : Option Addr) (c0 : Nat) (l0 : List Int) (r : List Int) (w : World) (hr0 : Kd.C (Kd.int .u8) w A0 l0.length l0) (hc0 : l0.length ≤ c0) (h : spec_Padded.f k l0 = some r) :
  Calls Tryz.prog 140 #[.slice A0 l0.length c0] w fun e w' => ∃ v0_ : Value, e = .returned (v0_) ∧ Kd.R (Kd.int .u8) 5 w' w.heap.size (fun _ => True) v0_ r ∧ Below w.heap.size w w' := by
 have HR0 := Aside0.mk hr0
 have HC0 := Aside0.mk hc0
 clear hr0 hc0
 have HB := Aside0.mk (Below.refl w.heap.size w)
 have H : ((some (([] : List Int) : List Int)).bind fun y601 => (if y601.length + l0.length < 140737488355328 then ((some (y601 ++ l0 : List Int)).bind fun y604 => (if y604.length < 140737488355328 then (spec_Padded.l0 k l0 (y604 ++ [128])) else (none))) else (none))) = some r := h
 clear h
 obtain ⟨y601, Ny601, H⟩ := sb_ (([] : List Int)) H
 replace H := ip_ H; obtain ⟨c2, H⟩ := H
 have LMc2 := Aside0.mk c2
 clear c2
 obtain ⟨y604, Ny604, H⟩ := sb_ (y601 ++ l0) H
 replace H := ip_ H; obtain ⟨c3, H⟩ := H
 have LMc3 := Aside0.mk c3
 clear c3
 obtain ⟨y607, hy607⟩ : ∃ y_ : List Int, y_ = (y604 ++ [128]) := ⟨_, rfl⟩
 replace H : (spec_Padded.l0 k l0 y607) = some r := yh_ hy607 H
 have Ny607 := Aside0.mk hy607
 clear hy607
 have H' := Aside0.mk H
 clear H
 go_enter Tryz.func140, Tryz.ntmps140
 go_wp2_with (first | ((with_reducible refine gd_ 6 ?_); refine rl_ (Kd.int .u8) 5 6 ([] : List Int) [] ?_; intro v602 w4 ho5 hb hg_ hnew_; clear hg_ hnew_; (first | rw [← Ny601.out] at ho5 | (simp only [Int.reduceToNat] at ho5; rw [← Ny601.out] at ho5)); have HO603 := Aside0.mk (Kd.R_lower ho5 (sz_ HB)); replace HB := ss_ HB hb; clear hb ho5) | ((with_reducible refine gate_builtin (b := .append) (xs := #[.tmp 6, .tmp 7]) rfl ?_); at_builtin; refine Kd.R_append_rows (Kd.int .u8) (w0 := w) w.heap.size rfl (.tmp 6) (.tmp 7) 27 5 (.int .u8 0) 1 rfl Tryz.underlying27 info5 rfl (by decide) (by omega) v602 y601 l0 _ _ _ (fun _ => True) (fun _ => False) rfl rfl ?aO ?aR (fun _ _ h => h) (fun _ h => h.elim) ?aF ?aB ?aS ?aL ?_; (case aR => exact cb_ HR0 HB); (case aB => exact (bw_ HB)); (case aF => exact (fun _ _ => trivial)); (case aO => exact (kr_ HO603.out)); (case aS => exact (sz_ HB)); (case aL => have := LMc2.out; omega); intro v605 w6 ho hb hg hat; rw [← Ny604.out] at ho; replace HB := Aside0.mk hb; have HO606 := Aside0.mk ho; clear HO603; clear ho hb hg hat) | ((with_reducible refine gate_builtin (b := .append) (xs := #[.tmp 8, .tmp 9]) rfl ?_); at_builtin; refine Kd.R_append (Kd.int .u8) (w0 := w) w.heap.size rfl (.tmp 8) (.tmp 9) 27 5 (.int .u8 0) 1 rfl Tryz.underlying27 info5 rfl (by decide) (by omega) v605 y604 128 [.int .u8 128] (fun _ => True) (fun _ => False) rfl rfl ?aP (fun _ hk => hk.elim) ?aF ?aO ?aB ?aS ?aL ?_; (case aP => exact rfl); (case aB => exact (bw_ HB)); (case aF => exact (fun _ _ => trivial)); (case aO => exact (kr_ HO606.out)); (case aS => exact (sz_ HB)); (case aL => have := LMc3.out; omega); intro v608 w7 ho hb hg hat; rw [← Ny607.out] at ho; replace HB := Aside0.mk hb; have HO609 := Aside0.mk ho; clear HO606; clear ho hb hg hat))
 go_loopg [3] k (fun kq v3 w' => ∃ (x3_1 : List Int), Aside0 (spec_Padded.l0 kq l0 x3_1 = some r) ∧ Aside0 (kq ≤ k) ∧ Aside0 (Kd.R (Kd.int .u8) 5 w' w.heap.size (fun _ => True) v3 x3_1) ∧ Aside0 (Below w.heap.size w w'))
 case atStart => exact ⟨(y607), H', ⟨Nat.le_refl _⟩, ⟨kr_ HO609.out⟩, ⟨bw_ HB⟩⟩
 case round =>
  clear H'
  try clear c2
  try clear c3
  obtain ⟨x3_1, HA, HK1, HO_3, HB⟩ := hrel
  cases gk with
  | zero => exact absurd HA.out (by simp [spec_Padded.l0])
  | succ k1 =>
   have H := HA.out
   clear HA
   simp only [spec_Padded.l0] at H
   replace H := it_ H; obtain ⟨c8, H⟩ | ⟨c8, H⟩ := H
   ·have c8b0 : (((x3_1.length : Int) % 64) == 56) = true := beq_iff_eq.mpr c8
    have c8b1 : (((x3_1.length : Int) % 64) != 56) = false := bne_eq_false_iff_eq.mpr c8
    clear c8
    have H' := Aside0.mk H
    clear H
    obtain ⟨Ao9, co9, eo9⟩ := Kd.R_slice HO_3.out
    subst eo9
    go_wp2
    go_loopg [3, 5] k1 (fun kq v3 v5 w' => ∃ (x3_2 : List Int) (x5_2 : Int), v5 = .int .i64 x5_2 ∧ Aside0 (spec_Padded.l1 kq x3_2 (wrap64 ((l0.length : Int) * 8)) x5_2 = some r) ∧ Aside0 (kq ≤ k1) ∧ Aside0 (Kd.R (Kd.int .u8) 5 w' w.heap.size (fun _ => True) v3 x3_2) ∧ Aside0 (Below w.heap.size w w'))
    case atStart => exact ⟨(x3_1), (56), e1_, H', ⟨Nat.le_refl _⟩, ⟨kr_ HO_3.out⟩, ⟨bw_ HB⟩⟩
    case round =>
     clear H'
     try clear c1
     try clear c2
     try clear p2
     try clear c3
     try clear c8
     try clear c8b0
     try clear c8b1
     obtain ⟨x3_2, x5_2, rfl, HA, HK2, HO_3, HB⟩ := hrel
     cases gk with
     | zero => exact absurd HA.out (by simp [spec_Padded.l1])
     | succ k2 =>
      have H := HA.out
      clear HA
      simp only [spec_Padded.l1] at H
      replace H := it_ H; obtain ⟨c10, H⟩ | ⟨c10, H⟩ := H
      ·have c10b0 : decide (0 ≤ x5_2) = true := decide_eq_true c10
       clear c10
       generalize hji11 : (IntKind.u64.wrap (x5_2)) = ji11 at H
       replace H := ip_ H; obtain ⟨c12, H⟩ := H
       have c12b0 := eq_true c12
       have c12b1 := decide_eq_true c12
       clear c12
       generalize hji13 : (shr .i64 (wrap64 ((l0.length : Int) * 8)) (ji11)) = ji13 at H
       have hji13_ : ((wrap64 ((l0.length : Int) * 8)) / 2 ^ min (ji11).toNat 64) = ji13 := hji13
       have hji13z : (ji11) ≤ 64 → ((wrap64 ((l0.length : Int) * 8)) / 2 ^ (ji11).toNat) = ji13 := shr_small hji13
       replace H := ip_ H; obtain ⟨c14, H⟩ := H
       have LMc14 := Aside0.mk c14
       clear c14
       obtain ⟨y613, hy613⟩ : ∃ y_ : List Int, y_ = (x3_2 ++ [(ji13) % 256]) := ⟨_, rfl⟩
       replace H : (spec_Padded.l1 k2 y613 (wrap64 ((l0.length : Int) * 8)) (wrap64 (x5_2 - 8))) = some r := yh_ hy613 H
       have Ny613 := Aside0.mk hy613
       clear hy613
       have H' := Aside0.mk H
       clear H
       go_wp2_with (first | ((with_reducible refine gate_builtin (b := .append) (xs := #[.tmp 25, .tmp 31]) rfl ?_); at_builtin; refine Kd.R_append (Kd.int .u8) (w0 := w) w.heap.size rfl (.tmp 25) (.tmp 31) 27 5 (.int .u8 0) 1 rfl Tryz.underlying27 info5 rfl (by decide) (by omega) u3 x3_2 ((ji13) % 256) [.int .u8 ((ji13) % 256)] (fun _ => True) (fun _ => False) rfl rfl ?aP (fun _ hk => hk.elim) ?aF ?aO ?aB ?aS ?aL ?_; (case aP => exact rfl); (case aB => exact (bw_ HB)); (case aF => exact (fun _ _ => trivial)); (case aO => exact (kr_ HO_3.out)); (case aS => exact (sz_ HB)); (case aL => have := LMc14.out; omega); intro v614 w15 ho hb hg hat; rw [← Ny613.out] at ho; replace HB := Aside0.mk hb; have HO615 := Aside0.mk ho; clear HO_3; clear ho hb hg hat))
       go_roundg k2
       case measure => have := HK1.out; have := HK2.out; omega
       case rel => exact ⟨(y613), (wrap64 (x5_2 - 8)), e1_, H', ⟨by have := HK1.out; have := HK2.out; omega⟩, ⟨kr_ HO615.out⟩, ⟨bw_ HB⟩⟩
      ·have c10b0 : decide (0 ≤ x5_2) = false := decide_eq_false c10
       clear c10
       obtain rfl := Option.some.inj H
       go_wp2
       go_ret
       exact ⟨_, e2_, kr_ HO_3.out, bw_ HB⟩
   ·have c8b0 : (((x3_1.length : Int) % 64) == 56) = false := beq_eq_false_iff_ne.mpr c8
    have c8b1 : (((x3_1.length : Int) % 64) != 56) = true := bne_iff_ne.mpr c8
    replace H := ip_ H; obtain ⟨c16, H⟩ := H
    have LMc16 := Aside0.mk c16
    clear c16
    obtain ⟨y610, hy610⟩ : ∃ y_ : List Int, y_ = (x3_1 ++ [0]) := ⟨_, rfl⟩
    replace H : (spec_Padded.l0 k1 l0 y610) = some r := yh_ hy610 H
    have Ny610 := Aside0.mk hy610
    clear hy610
    have H' := Aside0.mk H
    clear H
    obtain ⟨Ao17, co17, eo17⟩ := Kd.R_slice HO_3.out
    subst eo17
    go_wp2_with (first | ((with_reducible refine gate_builtin (b := .append) (xs := #[.tmp 15, .tmp 16]) rfl ?_); at_builtin; refine Kd.R_append (Kd.int .u8) (w0 := w) w.heap.size rfl (.tmp 15) (.tmp 16) 27 5 (.int .u8 0) 1 rfl Tryz.underlying27 info5 rfl (by decide) (by omega) (.slice Ao17 x3_1.length co17) x3_1 0 [.int .u8 0] (fun _ => True) (fun _ => False) rfl rfl ?aP (fun _ hk => hk.elim) ?aF ?aO ?aB ?aS ?aL ?_; (case aP => exact rfl); (case aB => exact (bw_ HB)); (case aF => exact (fun _ _ => trivial)); (case aO => exact (kr_ HO_3.out)); (case aS => exact (sz_ HB)); (case aL => have := LMc16.out; omega); intro v611 w18 ho hb hg hat; rw [← Ny610.out] at ho; replace HB := Aside0.mk hb; have HO612 := Aside0.mk ho; clear HO_3; clear ho hb hg hat))
    go_roundg k1
    case measure => have := HK1.out; omega
    case rel => exact ⟨(y610), H', ⟨by have := HK1.out; omega⟩, ⟨kr_ HO612.out⟩, ⟨bw_ HB⟩⟩
def spec_l2K.f  : Option (List Int) := some (([1116352408, 1899447441, 3049323471, 3921009573, 961987163, 1508970993, 2453635748, 2870763221, 3624381080, 310598401, 607225278, 1426881987, 1925078388, 2162078206, 2614888103, 3248222580, 3835390401, 4022224774, 264347078, 604807628, 770255983, 1249150122, 1555081692, 1996064986, 2554220882, 2821834349, 2952996808, 3210313671, 3336571891, 3584528711, 113926993, 338241895, 666307205, 773529912, 1294757372, 1396182291, 1695183700, 1986661051, 2177026350, 2456956037, 2730485921, 2820302411, 3259730800, 3345764771, 3516065817, 3600352804, 4094571909, 275423344, 430227734, 506948616, 659060556, 883997877, 958139571, 1322822218, 1537002063, 1747873779, 1955562222, 2024104815, 2227730452, 2361852424, 2428436474, 2756734187, 3204031479, 3329325298] : List Int))
set_option maxHeartbeats 8000000 in
set_option maxRecDepth 100000 in
theorem spec_l2K.calls  (r : List Int) (w : World) (h : spec_l2K.f  = some r) :
  Calls Tryz.prog 141 #[] w fun e w' => ∃ v0_ : Value, e = .returned (v0_) ∧ Kd.R (Kd.int .i64) 3 w' w.heap.size (fun _ => True) v0_ r ∧ Below w.heap.size w w' := by
 have HB := Aside0.mk (Below.refl w.heap.size w)
 have H : (some (([1116352408, 1899447441, 3049323471, 3921009573, 961987163, 1508970993, 2453635748, 2870763221, 3624381080, 310598401, 607225278, 1426881987, 1925078388, 2162078206, 2614888103, 3248222580, 3835390401, 4022224774, 264347078, 604807628, 770255983, 1249150122, 1555081692, 1996064986, 2554220882, 2821834349, 2952996808, 3210313671, 3336571891, 3584528711, 113926993, 338241895, 666307205, 773529912, 1294757372, 1396182291, 1695183700, 1986661051, 2177026350, 2456956037, 2730485921, 2820302411, 3259730800, 3345764771, 3516065817, 3600352804, 4094571909, 275423344, 430227734, 506948616, 659060556, 883997877, 958139571, 1322822218, 1537002063, 1747873779, 1955562222, 2024104815, 2227730452, 2361852424, 2428436474, 2756734187, 3204031479, 3329325298] : List Int))) = some r := h
 clear h
 obtain ⟨y601, hy601⟩ : ∃ y_ : List Int, y_ = (([1116352408, 1899447441, 3049323471, 3921009573, 961987163, 1508970993, 2453635748, 2870763221, 3624381080, 310598401, 607225278, 1426881987, 1925078388, 2162078206, 2614888103, 3248222580, 3835390401, 4022224774, 264347078, 604807628, 770255983, 1249150122, 1555081692, 1996064986, 2554220882, 2821834349, 2952996808, 3210313671, 3336571891, 3584528711, 113926993, 338241895, 666307205, 773529912, 1294757372, 1396182291, 1695183700, 1986661051, 2177026350, 2456956037, 2730485921, 2820302411, 3259730800, 3345764771, 3516065817, 3600352804, 4094571909, 275423344, 430227734, 506948616, 659060556, 883997877, 958139571, 1322822218, 1537002063, 1747873779, 1955562222, 2024104815, 2227730452, 2361852424, 2428436474, 2756734187, 3204031479, 3329325298] : List Int)) := ⟨_, rfl⟩
 replace H : (some y601) = some r := yh_ hy601 H
 have Ny601 := Aside0.mk hy601
 clear hy601
 obtain rfl := Option.some.inj H
 go_enter Tryz.func141, Tryz.ntmps141
 go_wp2_with (first | ((with_reducible refine gd_ 1 ?_); refine rl_ (Kd.int .i64) 3 1 ([1116352408, 1899447441, 3049323471, 3921009573, 961987163, 1508970993, 2453635748, 2870763221, 3624381080, 310598401, 607225278, 1426881987, 1925078388, 2162078206, 2614888103, 3248222580, 3835390401, 4022224774, 264347078, 604807628, 770255983, 1249150122, 1555081692, 1996064986, 2554220882, 2821834349, 2952996808, 3210313671, 3336571891, 3584528711, 113926993, 338241895, 666307205, 773529912, 1294757372, 1396182291, 1695183700, 1986661051, 2177026350, 2456956037, 2730485921, 2820302411, 3259730800, 3345764771, 3516065817, 3600352804, 4094571909, 275423344, 430227734, 506948616, 659060556, 883997877, 958139571, 1322822218, 1537002063, 1747873779, 1955562222, 2024104815, 2227730452, 2361852424, 2428436474, 2756734187, 3204031479, 3329325298] : List Int) [.int .i64 1116352408, .int .i64 1899447441, .int .i64 3049323471, .int .i64 3921009573, .int .i64 961987163, .int .i64 1508970993, .int .i64 2453635748, .int .i64 2870763221, .int .i64 3624381080, .int .i64 310598401, .int .i64 607225278, .int .i64 1426881987, .int .i64 1925078388, .int .i64 2162078206, .int .i64 2614888103, .int .i64 3248222580, .int .i64 3835390401, .int .i64 4022224774, .int .i64 264347078, .int .i64 604807628, .int .i64 770255983, .int .i64 1249150122, .int .i64 1555081692, .int .i64 1996064986, .int .i64 2554220882, .int .i64 2821834349, .int .i64 2952996808, .int .i64 3210313671, .int .i64 3336571891, .int .i64 3584528711, .int .i64 113926993, .int .i64 338241895, .int .i64 666307205, .int .i64 773529912, .int .i64 1294757372, .int .i64 1396182291, .int .i64 1695183700, .int .i64 1986661051, .int .i64 2177026350, .int .i64 2456956037, .int .i64 2730485921, .int .i64 2820302411, .int .i64 3259730800, .int .i64 3345764771, .int .i64 3516065817, .int .i64 3600352804, .int .i64 4094571909, .int .i64 275423344, .int .i64 430227734, .int .i64 506948616, .int .i64 659060556, .int .i64 883997877, .int .i64 958139571, .int .i64 1322822218, .int .i64 1537002063, .int .i64 1747873779, .int .i64 1955562222, .int .i64 2024104815, .int .i64 2227730452, .int .i64 2361852424, .int .i64 2428436474, .int .i64 2756734187, .int .i64 3204031479, .int .i64 3329325298] ?_; intro v602 w1 ho2 hb hg_ hnew_; clear hg_ hnew_; (first | rw [← Ny601.out] at ho2 | (simp only [Int.reduceToNat] at ho2; rw [← Ny601.out] at ho2)); have HO603 := Aside0.mk (Kd.R_lower ho2 (sz_ HB)); replace HB := ss_ HB hb; clear hb ho2))
 go_ret
 exact ⟨_, e2_, kr_ HO603.out, bw_ HB⟩
def spec_l2Turn.f (a0 : Int) (a1 : Int) : Option (Int) := if 0 ≤ (IntKind.u64.wrap (a1)) then (if 0 ≤ (IntKind.u64.wrap (wrap64 (32 - a1))) then (some (Go.bits .and .i64 (Go.bits .or .i64 (shr .i64 a0 (IntKind.u64.wrap (a1))) (shl .i64 a0 (IntKind.u64.wrap (wrap64 (32 - a1))))) 4294967295)) else (none)) else (none)
set_option maxHeartbeats 8000000 in
set_option maxRecDepth 100000 in
theorem spec_l2Turn.calls (a0 : Int) (a1 : Int) (r : Int) (w : World) (h : spec_l2Turn.f a0 a1 = some r) :
  Calls Tryz.prog 164 #[.int .i64 a0, .int .i64 a1] w fun e w' => e = .returned (.int .i64 r) ∧ Drawn0 w w' := by
 have H : (if 0 ≤ (IntKind.u64.wrap (a1)) then (if 0 ≤ (IntKind.u64.wrap (wrap64 (32 - a1))) then (some (Go.bits .and .i64 (Go.bits .or .i64 (shr .i64 a0 (IntKind.u64.wrap (a1))) (shl .i64 a0 (IntKind.u64.wrap (wrap64 (32 - a1))))) 4294967295)) else (none)) else (none)) = some r := h
 clear h
 generalize hji3 : (IntKind.u64.wrap (a1)) = ji3 at H
 replace H := ip_ H; obtain ⟨c4, H⟩ := H
 have c4b0 := eq_true c4
 have c4b1 := decide_eq_true c4
 clear c4
 generalize hji5 : (shr .i64 a0 (ji3)) = ji5 at H
 have hji5_ : (a0 / 2 ^ min (ji3).toNat 64) = ji5 := hji5
 have hji5z : (ji3) ≤ 64 → (a0 / 2 ^ (ji3).toNat) = ji5 := shr_small hji5
 generalize hji6 : (IntKind.u64.wrap (wrap64 (32 - a1))) = ji6 at H
 replace H := ip_ H; obtain ⟨c7, H⟩ := H
 have c7b0 := eq_true c7
 have c7b1 := decide_eq_true c7
 clear c7
 generalize hji8 : (shl .i64 a0 (ji6)) = ji8 at H
 have hji8_ : (IntKind.i64.wrap (a0 * 2 ^ min (ji6).toNat 64)) = ji8 := hji8
 have hji8z : (ji6) ≤ 64 → (IntKind.i64.wrap (a0 * 2 ^ (ji6).toNat)) = ji8 := shl_small hji8
 have hji8y : (wrap64 (a0 * 2 ^ min (ji6).toNat 64)) = ji8 := (i64_w _).symm.trans hji8_
 have hji8x : (ji6) ≤ 64 → (wrap64 (a0 * 2 ^ (ji6).toNat)) = ji8 := fun h_ => (i64_w _).symm.trans (hji8z h_)
 obtain rfl := Option.some.inj H
 go_enter Tryz.func164, Tryz.ntmps164
 go_wp2
 go_ret
 exact ⟨by first | rfl | (simp; done) | (simp only [← hji3, ← hji5, ← hji6, ← hji8] <;> (first | rfl | simp)) | (simp [*]; done), dw_⟩
mutual
def spec_l2Words.l0 : Nat → List Int → List Int → Int → Option (List Int)
 | 0, _, _, _ => none
 | k + 1, x0, x3, x4 => if x4 < 16 then (if 0 ≤ (wrap64 (4 * x4)) then (if (wrap64 (4 * x4)) < (x0.length : Int) then (if 0 ≤ (wrap64 ((wrap64 (4 * x4)) + 1)) then (if (wrap64 ((wrap64 (4 * x4)) + 1)) < (x0.length : Int) then (if 0 ≤ (wrap64 ((wrap64 (4 * x4)) + 2)) then (if (wrap64 ((wrap64 (4 * x4)) + 2)) < (x0.length : Int) then (if 0 ≤ (wrap64 ((wrap64 (4 * x4)) + 3)) then (if (wrap64 ((wrap64 (4 * x4)) + 3)) < (x0.length : Int) then (if x3.length < 17592186044416 then (spec_l2Words.l0 k x0 (x3 ++ [Go.bits .or .i64 (Go.bits .or .i64 (Go.bits .or .i64 (wrap64 ((wrap64 (rd x0 (wrap64 (4 * x4)))) * 16777216)) (wrap64 ((wrap64 (rd x0 (wrap64 ((wrap64 (4 * x4)) + 1)))) * 65536))) (wrap64 ((wrap64 (rd x0 (wrap64 ((wrap64 (4 * x4)) + 2)))) * 256))) (wrap64 (rd x0 (wrap64 ((wrap64 (4 * x4)) + 3))))]) (wrap64 (x4 + 1))) else (none)) else (none)) else (none)) else (none)) else (none)) else (none)) else (none)) else (none)) else (none)) else (spec_l2Words.l1 k x3 16)
def spec_l2Words.l1 : Nat → List Int → Int → Option (List Int)
 | 0, _, _ => none
 | k + 1, x3, x5 => if x5 < 64 then (if 0 ≤ (wrap64 (x5 - 15)) then (if (wrap64 (x5 - 15)) < (x3.length : Int) then (if 0 ≤ (wrap64 (x5 - 2)) then (if (wrap64 (x5 - 2)) < (x3.length : Int) then ((spec_l2Turn.f (rd x3 (wrap64 (x5 - 15))) 7).bind fun t613 => ((spec_l2Turn.f (rd x3 (wrap64 (x5 - 15))) 18).bind fun t614 => ((spec_l2Turn.f (rd x3 (wrap64 (x5 - 2))) 17).bind fun t615 => ((spec_l2Turn.f (rd x3 (wrap64 (x5 - 2))) 19).bind fun t616 => (if 0 ≤ (wrap64 (x5 - 16)) then (if (wrap64 (x5 - 16)) < (x3.length : Int) then (if 0 ≤ (wrap64 (x5 - 7)) then (if (wrap64 (x5 - 7)) < (x3.length : Int) then (if x3.length < 17592186044416 then (spec_l2Words.l1 k (x3 ++ [Go.bits .and .i64 (wrap64 ((wrap64 ((wrap64 ((rd x3 (wrap64 (x5 - 16))) + (Go.bits .xor .i64 (Go.bits .xor .i64 t613 t614) ((rd x3 (wrap64 (x5 - 15))) / 8)))) + (rd x3 (wrap64 (x5 - 7))))) + (Go.bits .xor .i64 (Go.bits .xor .i64 t615 t616) ((rd x3 (wrap64 (x5 - 2))) / 1024)))) 4294967295]) (wrap64 (x5 + 1))) else (none)) else (none)) else (none)) else (none)) else (none)))))) else (none)) else (none)) else (none)) else (none)) else (some x3)
end
def spec_l2Words.f (k : Nat) (l0 : List Int) : Option (List Int) := spec_l2Words.l0 k l0 (([] : List Int)) 0
def spec_l2Words.T5 : Bool × List (List Nat × List Nat) := (true, [([], []), ([], []), ([], []), ([2], [2]), ([1, 3], [1, 3]), ([4], [4]), ([5], [5]), ([6], [6]), ([], []), ([], []), ([9], [9]), ([10], [10]), ([8, 11], [8, 11]), ([12], [12]), ([13], [13]), ([14], [14]), ([7, 15], [7, 15]), ([], []), ([], []), ([18], [18]), ([19], [19]), ([17, 20], [17, 20]), ([21], [21]), ([22], [22]), ([23], [23]), ([16, 24], [16, 24]), ([], []), ([], []), ([27], [27]), ([28], [28]), ([26, 29], [26, 29]), ([30], [30]), ([31], [31]), ([25, 32], [25, 32]), ([33], [33]), ([0, 34], [0, 34]), ([35, 35, 0, 1, 2, 3, 4, 5, 6, 7, 8, 9, 10, 11, 12, 13, 14, 15, 16, 17, 18, 19, 20, 21, 22, 23, 24, 25, 26, 27, 28, 29, 30, 31, 32, 33, 34, 35], [0, 35])])
def spec_l2Words.B5 : List Nat := [0, 0, 0, 4, 14, 30, 62, 126, 0, 0, 512, 1536, 3840, 7936, 16128, 32512, 65534, 0, 0, 262144, 786432, 1966080, 4063232, 8257536, 16646144, 33554430, 0, 0, 134217728, 402653184, 1006632960, 2080374784, 4227858432, 8589934590, 17179869182, 34359738367, 68719476735]
theorem spec_l2Words.tab5 : rtab .any (opsOf Tryz.f163 5) = spec_l2Words.T5 := by kernel_rfl
theorem spec_l2Words.bits5 : waitsOk spec_l2Words.T5.2 spec_l2Words.B5 = true := by kernel_rfl
def spec_l2Words.T13 : Bool × List (List Nat × List Nat) := (true, [([], []), ([], []), ([], []), ([2], [2]), ([1, 3], [1, 3]), ([4], [4]), ([], []), ([5, 6], [5, 6]), ([], []), ([], []), ([9], [9]), ([8, 10], [8, 10]), ([11], [11]), ([7, 12], [7, 12]), ([], []), ([13, 14], [13, 14]), ([15], [15]), ([16], [16]), ([0, 17], [0, 17]), ([18, 18, 0, 1, 2, 3, 4, 5, 6, 7, 8, 9, 10, 11, 12, 13, 14, 15, 16, 17, 18], [0, 1, 8, 18])])
def spec_l2Words.B13 : List Nat := [0, 0, 0, 4, 14, 30, 0, 126, 0, 0, 512, 1792, 3840, 8190, 0, 32766, 65534, 131070, 262143, 524287]
theorem spec_l2Words.tab13 : rtab .any (opsOf Tryz.f163 13) = spec_l2Words.T13 := by kernel_rfl
theorem spec_l2Words.bits13 : waitsOk spec_l2Words.T13.2 spec_l2Words.B13 = true := by kernel_rfl
set_option maxHeartbeats 8000000 in
set_option maxRecDepth 100000 in
theorem spec_l2Words.calls (k : Nat) (A0 : Option Addr) (c0 : Nat) (l0 : List Int) (r : List Int) (w : World) (hr0 : Kd.C (Kd.int .u8) w A0 l0.length l0) (hc0 : l0.length ≤ c0) (h : spec_l2Words.f k l0 = some r) :
  Calls Tryz.prog 163 #[.slice A0 l0.length c0] w fun e w' => ∃ v0_ : Value, e = .returned (v0_) ∧ Kd.R (Kd.int .i64) 3 w' w.heap.size (fun _ => True) v0_ r ∧ Below w.heap.size w w' := by
 have HR0 := Aside0.mk hr0
 have HC0 := Aside0.mk hc0
 clear hr0 hc0
 have HB := Aside0.mk (Below.refl w.heap.size w)
 have H : (spec_l2Words.l0 k l0 (([] : List Int)) 0) = some r := h
 clear h
 obtain ⟨y601, hy601⟩ : ∃ y_ : List Int, y_ = (([] : List Int)) := ⟨_, rfl⟩
 replace H : (spec_l2Words.l0 k l0 y601 0) = some r := yh_ hy601 H
 have Ny601 := Aside0.mk hy601
 clear hy601
 have H' := Aside0.mk H
 clear H
 go_enter Tryz.func163, Tryz.ntmps163
 go_wp2_with (first | ((with_reducible refine gd_ 10 ?_); refine rl_ (Kd.int .i64) 3 10 ([] : List Int) [] ?_; intro v602 w2 ho3 hb hg_ hnew_; clear hg_ hnew_; (first | rw [← Ny601.out] at ho3 | (simp only [Int.reduceToNat] at ho3; rw [← Ny601.out] at ho3)); have HO603 := Aside0.mk (Kd.R_lower ho3 (sz_ HB)); replace HB := ss_ HB hb; clear hb ho3))
 go_loopg [3, 4] k (fun kq v3 v4 w' => ∃ (x3_1 : List Int) (x4_1 : Int), v4 = .int .i64 x4_1 ∧ Aside0 (spec_l2Words.l0 kq l0 x3_1 x4_1 = some r) ∧ Aside0 (kq ≤ k) ∧ Aside0 (Kd.R (Kd.int .i64) 3 w' w.heap.size (fun _ => True) v3 x3_1) ∧ Aside0 (Below w.heap.size w w'))
 case atStart => exact ⟨(y601), (0), e1_, H', ⟨Nat.le_refl _⟩, ⟨kr_ HO603.out⟩, ⟨bw_ HB⟩⟩
 case round =>
  clear H'
  obtain ⟨x3_1, x4_1, rfl, HA, HK1, HO_3, HB⟩ := hrel
  cases gk with
  | zero => exact absurd HA.out (by simp [spec_l2Words.l0])
  | succ k1 =>
   have H := HA.out
   clear HA
   simp only [spec_l2Words.l0] at H
   replace H := itd_ H; obtain ⟨c4b0, H⟩ | ⟨c4b0, H⟩ := H
   ·generalize hji5 : (wrap64 (4 * x4_1)) = ji5 at H
    have hji5w : (IntKind.i64.wrap (4 * x4_1)) = ji5 := (i64_w _).trans hji5
    replace H := ipd_ H; obtain ⟨c6b0, H⟩ := H
    replace H := ipd_ H; obtain ⟨c7b0, H⟩ := H
    generalize hji8 : (wrap64 ((ji5) + 1)) = ji8 at H
    have hji8w : (IntKind.i64.wrap ((ji5) + 1)) = ji8 := (i64_w _).trans hji8
    replace H := ipd_ H; obtain ⟨c9b0, H⟩ := H
    replace H := ipd_ H; obtain ⟨c10b0, H⟩ := H
    generalize hji11 : (wrap64 ((ji5) + 2)) = ji11 at H
    have hji11w : (IntKind.i64.wrap ((ji5) + 2)) = ji11 := (i64_w _).trans hji11
    replace H := ipd_ H; obtain ⟨c12b0, H⟩ := H
    replace H := ipd_ H; obtain ⟨c13b0, H⟩ := H
    generalize hji14 : (wrap64 ((ji5) + 3)) = ji14 at H
    have hji14w : (IntKind.i64.wrap ((ji5) + 3)) = ji14 := (i64_w _).trans hji14
    replace H := ipd_ H; obtain ⟨c15b0, H⟩ := H
    replace H := ipd_ H; obtain ⟨c16b0, H⟩ := H
    replace H := ip_ H; obtain ⟨c17, H⟩ := H
    have LMc17 := Aside0.mk c17
    clear c17
    obtain ⟨y608, hy608⟩ : ∃ y_ : List Int, y_ = (x3_1 ++ [Go.bits .or .i64 (Go.bits .or .i64 (Go.bits .or .i64 (wrap64 ((wrap64 (rd l0 (ji5))) * 16777216)) (wrap64 ((wrap64 (rd l0 (ji8))) * 65536))) (wrap64 ((wrap64 (rd l0 (ji11))) * 256))) (wrap64 (rd l0 (ji14)))]) := ⟨_, rfl⟩
    replace H : (spec_l2Words.l0 k1 l0 y608 (wrap64 (x4_1 + 1))) = some r := yh_ hy608 H
    have Ny608 := Aside0.mk hy608
    clear hy608
    have H' := Aside0.mk H
    clear H
    try go_wp2
    replace HO_3 := Aside0.mk (Kd.R_drew HO_3.out)
    replace HB := Aside0.mk (below_drew1 HB.out)
    have p604 : 0 ≤ ((ji5) : Int) := of_decide_eq_true as_
    have q604 : (ji5) < (l0.length : Int) := of_decide_eq_true as_
    obtain ⟨ad604, e604, hx604_0⟩ := Kd.at_int HR0.out (ji5) p604 q604
    have hw604_0 := hx604_0
    cases e604
    replace hx604_0 := cw_ HB hx604_0
    replace p604 := eq_true p604
    replace q604 := eq_true q604
    have p605 : 0 ≤ ((ji8) : Int) := of_decide_eq_true as_
    have q605 : (ji8) < (l0.length : Int) := of_decide_eq_true as_
    obtain ⟨ad605, e605, hx605_0⟩ := Kd.at_int HR0.out (ji8) p605 q605
    have hw605_0 := hx605_0
    obtain rfl : ad604 = ad605 := (by injection e605)
    replace hx605_0 := cw_ HB hx605_0
    replace p605 := eq_true p605
    replace q605 := eq_true q605
    have p606 : 0 ≤ ((ji11) : Int) := of_decide_eq_true as_
    have q606 : (ji11) < (l0.length : Int) := of_decide_eq_true as_
    obtain ⟨ad606, e606, hx606_0⟩ := Kd.at_int HR0.out (ji11) p606 q606
    have hw606_0 := hx606_0
    obtain rfl : ad604 = ad606 := (by injection e606)
    replace hx606_0 := cw_ HB hx606_0
    replace p606 := eq_true p606
    replace q606 := eq_true q606
    have p607 : 0 ≤ ((ji14) : Int) := of_decide_eq_true as_
    have q607 : (ji14) < (l0.length : Int) := of_decide_eq_true as_
    obtain ⟨ad607, e607, hx607_0⟩ := Kd.at_int HR0.out (ji14) p607 q607
    have hw607_0 := hx607_0
    obtain rfl : ad604 = ad607 := (by injection e607)
    replace hx607_0 := cw_ HB hx607_0
    replace p607 := eq_true p607
    replace q607 := eq_true q607
    refine start_ (n := 37) (S := fun w' => w'.cell? (ad604.add ((ji5)).toNat) = some (.int .u8 (rd l0 (ji5))) ∧ w'.cell? (ad604.add ((ji8)).toNat) = some (.int .u8 (rd l0 (ji8))) ∧ w'.cell? (ad604.add ((ji11)).toNat) = some (.int .u8 (rd l0 (ji11))) ∧ w'.cell? (ad604.add ((ji14)).toNat) = some (.int .u8 (rd l0 (ji14)))) (ds := []) (lz_ 37 0) (by kernel_rfl) rfl rfl ⟨(cw_ HB hw604_0), (cw_ HB hw605_0), (cw_ HB hw606_0), (cw_ HB hw607_0)⟩ (fun hHeld => ?_); refine with_tabW spec_l2Words.tab5 spec_l2Words.bits5 (fun HT_ HW_ => ?_)
    generalize wr.drew = w18 at HO_3 HB hx604_0 hx605_0 hx606_0 hx607_0 hHeld ⊢
    refine pt_ 0 15 1 ?_
    refine pt_ 1 16 3 ?_
    refine pt_ 2 17 7 ?_
    refine pt_ 3 18 15 ?_
    refine pt_ 4 19 31 ?_
    refine pt_ 8 23 287 ?_
    refine pt_ 9 24 799 ?_
    refine pt_ 10 25 1823 ?_
    refine pt_ 11 26 3871 ?_
    refine pt_ 12 27 7967 ?_
    refine pt_ 17 32 139039 ?_
    refine pt_ 18 33 401183 ?_
    refine pt_ 19 34 925471 ?_
    refine pt_ 20 35 1974047 ?_
    refine pt_ 21 36 4071199 ?_
    refine pt_ 26 41 71180063 ?_
    refine pt_ 27 42 205397791 ?_
    refine pt_ 28 43 473833247 ?_
    refine pt_ 29 44 1010704159 ?_
    refine pt_ 30 45 2084445983 ?_
    refine tt_ 5 20 2084446015 ?_
    refine pt_ 6 21 2084446079 ?_
    refine pt_ 7 22 2084446207 ?_
    refine tt_ 13 28 2084454399 ?_
    refine pt_ 14 29 2084470783 ?_
    refine pt_ 15 30 2084503551 ?_
    refine pt_ 16 31 2084569087 ?_
    refine tt_ 22 37 2088763391 ?_
    refine pt_ 23 38 2097151999 ?_
    refine pt_ 24 39 2113929215 ?_
    refine pt_ 25 40 2147483647 ?_
    refine tt_ 31 46 4294967295 ?_
    refine pt_ 32 47 8589934591 ?_
    refine pt_ 33 48 17179869183 ?_
    refine one_ (i := 34) (N := some 49) (lz_ 37 34359738367) rfl rfl (one_of HT_.out (by kernel_rfl)) (by decide) (fun K hK => ?_)
    refine value_ (w1 := ?_) (v := ?_) (by rfl) rfl ?_ ?_
    rotate_left 2
    ·go_simp
     constructor
     ·rfl
     ·rfl
    refine hK.out _ _ ⟨(World.cell?_alloc_lt _ _ _ (World.block_lt_of_cell? _ _ ((cw_ HB hw604_0)))).trans ((cw_ HB hw604_0)), (World.cell?_alloc_lt _ _ _ (World.block_lt_of_cell? _ _ ((cw_ HB hw605_0)))).trans ((cw_ HB hw605_0)), (World.cell?_alloc_lt _ _ _ (World.block_lt_of_cell? _ _ ((cw_ HB hw606_0)))).trans ((cw_ HB hw606_0)), (World.cell?_alloc_lt _ _ _ (World.block_lt_of_cell? _ _ ((cw_ HB hw607_0)))).trans ((cw_ HB hw607_0))⟩ (fun hHeld => ?_)
    clear hK K
    refine no_ 49 ?_
    refine one_ (i := 35) (N := some 50) (lz_ 37 68719476735) rfl rfl (one_of HT_.out (by kernel_rfl)) (by decide) (fun K hK => ?_)
    refine Kd.R_append_step (Kd.int .i64) (w0 := w) w.heap.size (by rfl) (.tmp 15) (.tmp 49) 84 3 (.int .i64 0) 8 rfl Tryz.underlying84 info3 rfl (by decide) (by omega) u3 x3_1 (Go.bits .or .i64 (Go.bits .or .i64 (Go.bits .or .i64 (wrap64 ((wrap64 (rd l0 (ji5))) * 16777216)) (wrap64 ((wrap64 (rd l0 (ji8))) * 65536))) (wrap64 ((wrap64 (rd l0 (ji11))) * 256))) (wrap64 (rd l0 (ji14)))) [.int .i64 (Go.bits .or .i64 (Go.bits .or .i64 (Go.bits .or .i64 (wrap64 ((wrap64 (rd l0 (ji5))) * 16777216)) (wrap64 ((wrap64 (rd l0 (ji8))) * 65536))) (wrap64 ((wrap64 (rd l0 (ji11))) * 256))) (wrap64 (rd l0 (ji14))))] (fun _ => True) (fun _ => False) rfl rfl ?aP (fun _ hk => hk.elim) ?aF ?aO ?aB ?aS ?aL ?_
    (case aP => exact rfl)
    (case aB => exact (bw_ HB))
    (case aF => exact (fun _ _ => trivial))
    (case aO => exact (kr_ HO_3.out))
    (case aS => exact (sz_ HB))
    (case aL => have := LMc17.out; omega)
    intro v609 w19 ho hb hg hat
    rw [← Ny608.out] at ho
    replace HB := Aside0.mk hb
    have HO610 := Aside0.mk ho
    clear HO_3
    clear ho hb hg hat
    refine hK.out _ _ ⟨(cw_ HB hw604_0), (cw_ HB hw605_0), (cw_ HB hw606_0), (cw_ HB hw607_0)⟩ (fun hHeld => ?_)
    clear hK K
    refine no_ 50 ?_
    refine pt_ 36 3 137438953471 ?_
    refine done_ (done_of HT_.out (by kernel_rfl)) ?_
    try go_wp2
    go_roundg k1
    case measure => have := HK1.out; omega
    case rel => exact ⟨(y608), (wrap64 (x4_1 + 1)), e1_, H', ⟨by have := HK1.out; omega⟩, ⟨kr_ HO610.out⟩, ⟨bw_ HB⟩⟩
   ·have H' := Aside0.mk H
    clear H
    go_wp2
    go_loopg [3, 5] k1 (fun kq v3 v5 w' => ∃ (x3_2 : List Int) (x5_2 : Int), v5 = .int .i64 x5_2 ∧ Aside0 (spec_l2Words.l1 kq x3_2 x5_2 = some r) ∧ Aside0 (kq ≤ k1) ∧ Aside0 (Kd.R (Kd.int .i64) 3 w' w.heap.size (fun _ => True) v3 x3_2) ∧ Aside0 (Below w.heap.size w w'))
    case atStart => exact ⟨(x3_1), (16), e1_, H', ⟨Nat.le_refl _⟩, ⟨kr_ HO_3.out⟩, ⟨bw_ HB⟩⟩
    case round =>
     clear H'
     try clear c1
     try clear p2
     try clear c4b0
     obtain ⟨x3_2, x5_2, rfl, HA, HK2, HO_3, HB⟩ := hrel
     cases gk with
     | zero => exact absurd HA.out (by simp [spec_l2Words.l1])
     | succ k2 =>
      have H := HA.out
      clear HA
      simp only [spec_l2Words.l1] at H
      replace H := itd_ H; obtain ⟨c20b0, H⟩ | ⟨c20b0, H⟩ := H
      ·generalize hji21 : (wrap64 (x5_2 - 15)) = ji21 at H
       have hji21w : (IntKind.i64.wrap (x5_2 - 15)) = ji21 := (i64_w _).trans hji21
       replace H := ipd_ H; obtain ⟨c22b0, H⟩ := H
       replace H := ipd_ H; obtain ⟨c23b0, H⟩ := H
       generalize hji24 : (wrap64 (x5_2 - 2)) = ji24 at H
       have hji24w : (IntKind.i64.wrap (x5_2 - 2)) = ji24 := (i64_w _).trans hji24
       replace H := ipd_ H; obtain ⟨c25b0, H⟩ := H
       replace H := ipd_ H; obtain ⟨c26b0, H⟩ := H
       replace H := bi_ H; obtain ⟨t613, A27, H⟩ := H
       replace H := bi_ H; obtain ⟨t614, A28, H⟩ := H
       replace H := bi_ H; obtain ⟨t615, A29, H⟩ := H
       replace H := bi_ H; obtain ⟨t616, A30, H⟩ := H
       generalize hji31 : (wrap64 (x5_2 - 16)) = ji31 at H
       (try rw [hji31] at A27)
       (try rw [hji31] at A28)
       (try rw [hji31] at A29)
       (try rw [hji31] at A30)
       have hji31w : (IntKind.i64.wrap (x5_2 - 16)) = ji31 := (i64_w _).trans hji31
       replace H := ipd_ H; obtain ⟨c32b0, H⟩ := H
       replace H := ipd_ H; obtain ⟨c33b0, H⟩ := H
       generalize hji34 : (wrap64 (x5_2 - 7)) = ji34 at H
       (try rw [hji34] at A27)
       (try rw [hji34] at A28)
       (try rw [hji34] at A29)
       (try rw [hji34] at A30)
       have hji34w : (IntKind.i64.wrap (x5_2 - 7)) = ji34 := (i64_w _).trans hji34
       replace H := ipd_ H; obtain ⟨c35b0, H⟩ := H
       replace H := ipd_ H; obtain ⟨c36b0, H⟩ := H
       replace H := ip_ H; obtain ⟨c37, H⟩ := H
       have LMc37 := Aside0.mk c37
       clear c37
       obtain ⟨y619, hy619⟩ : ∃ y_ : List Int, y_ = (x3_2 ++ [Go.bits .and .i64 (wrap64 ((wrap64 ((wrap64 ((rd x3_2 (ji31)) + (Go.bits .xor .i64 (Go.bits .xor .i64 t613 t614) ((rd x3_2 (ji21)) / 8)))) + (rd x3_2 (ji34)))) + (Go.bits .xor .i64 (Go.bits .xor .i64 t615 t616) ((rd x3_2 (ji24)) / 1024)))) 4294967295]) := ⟨_, rfl⟩
       replace H : (spec_l2Words.l1 k2 y619 (wrap64 (x5_2 + 1))) = some r := yh_ hy619 H
       have Ny619 := Aside0.mk hy619
       clear hy619
       have H' := Aside0.mk H
       clear H
       obtain ⟨Ao38, co38, eo38⟩ := Kd.R_slice HO_3.out
       subst eo38
       obtain ⟨ad611, e611, hx611_0, p611, q611⟩ := ai_ (Kd.R_reads' HO_3.out).2.2 (ji21)
       cases e611
       have p612 : 0 ≤ ((ji24) : Int) := of_decide_eq_true as_
       have q612 : (ji24) < (x3_2.length : Int) := of_decide_eq_true as_
       obtain ⟨ad612, e612, hx612_0⟩ := Kd.at_int (Kd.R_reads' HO_3.out).2.2 (ji24) p612 q612
       obtain rfl : ad611 = ad612 := (by injection e612)
       replace p612 := eq_true p612
       replace q612 := eq_true q612
       try go_wp2_with (first | ((with_reducible refine gk_ 164 ?_); refine gm_ hji21 66 Tryz.func164 #[.int .i64 (rd x3_2 (ji21)), .int .i64 7] ?_; (with_reducible refine (spec_l2Turn.calls (rd x3_2 (ji21)) 7 t613 _ A27.out).mono ?_); rintro e w' ⟨rfl, ⟨nd, rfl⟩⟩; refine ⟨_, rfl, ?_⟩) | ((with_reducible refine gk_ 164 ?_); refine gm_ hji21 68 Tryz.func164 #[.int .i64 (rd x3_2 (ji21)), .int .i64 18] ?_; (with_reducible refine (spec_l2Turn.calls (rd x3_2 (ji21)) 18 t614 _ A28.out).mono ?_); rintro e w' ⟨rfl, ⟨nd, rfl⟩⟩; refine ⟨_, rfl, ?_⟩) | ((with_reducible refine gk_ 164 ?_); refine gm_ hji24 74 Tryz.func164 #[.int .i64 (rd x3_2 (ji24)), .int .i64 17] ?_; (with_reducible refine (spec_l2Turn.calls (rd x3_2 (ji24)) 17 t615 _ A29.out).mono ?_); rintro e w' ⟨rfl, ⟨nd, rfl⟩⟩; refine ⟨_, rfl, ?_⟩) | ((with_reducible refine gk_ 164 ?_); refine gm_ hji24 76 Tryz.func164 #[.int .i64 (rd x3_2 (ji24)), .int .i64 19] ?_; (with_reducible refine (spec_l2Turn.calls (rd x3_2 (ji24)) 19 t616 _ A30.out).mono ?_); rintro e w' ⟨rfl, ⟨nd, rfl⟩⟩; refine ⟨_, rfl, ?_⟩))
       (try (rw [drewN_self wr]; generalize hq_ : World.drewN wr _ = wr; have n0_ : Aside0 (Kd.R (Kd.int .i64) 3 wr w.heap.size (fun _ => True) (.slice (some ad611) x3_2.length co38) x3_2) := ⟨by rw [← hq_]; exact (kr_ HO_3.out)⟩; have n1_ : Aside0 (Below w.heap.size w wr) := ⟨by rw [← hq_]; exact (bw_ HB)⟩; clear HO_3 HB hq_; have HO_3 := n0_; have HB := n1_; clear n0_ n1_))
       replace HO_3 := Aside0.mk (Kd.R_drew HO_3.out)
       replace HB := Aside0.mk (below_drew1 HB.out)
       have p617 : 0 ≤ ((ji31) : Int) := of_decide_eq_true as_
       have q617 : (ji31) < (x3_2.length : Int) := of_decide_eq_true as_
       obtain ⟨ad617, e617, hx617_0⟩ := Kd.at_int (Kd.R_reads' HO_3.out).2.2 (ji31) p617 q617
       obtain rfl : ad611 = ad617 := (by injection e617)
       replace p617 := eq_true p617
       replace q617 := eq_true q617
       have p618 : 0 ≤ ((ji34) : Int) := of_decide_eq_true as_
       have q618 : (ji34) < (x3_2.length : Int) := of_decide_eq_true as_
       obtain ⟨ad618, e618, hx618_0⟩ := Kd.at_int (Kd.R_reads' HO_3.out).2.2 (ji34) p618 q618
       obtain rfl : ad611 = ad618 := (by injection e618)
       replace p618 := eq_true p618
       replace q618 := eq_true q618
       refine start_ (n := 20) (S := fun w' => w'.cell? (ad611.add ((ji31)).toNat) = some (.int .i64 (rd x3_2 (ji31))) ∧ w'.cell? (ad611.add ((ji34)).toNat) = some (.int .i64 (rd x3_2 (ji34)))) (ds := [17, 18]) (lz_ 20 0) (by kernel_rfl) rfl rfl ⟨hx617_0, hx618_0⟩ (fun hHeld => ?_); refine with_tabW spec_l2Words.tab13 spec_l2Words.bits13 (fun HT_ HW_ => ?_)
       generalize wr.drew = w39 at HO_3 HB hx617_0 hx618_0 hHeld ⊢
       refine pt_ 0 81 1 ?_
       refine pt_ 1 82 3 ?_
       refine pt_ 2 83 7 ?_
       refine pt_ 3 84 15 ?_
       refine pt_ 4 85 31 ?_
       refine pt_ 6 87 95 ?_
       refine pt_ 8 89 351 ?_
       refine pt_ 9 90 863 ?_
       refine pt_ 10 91 1887 ?_
       refine pt_ 11 92 3935 ?_
       refine pt_ 14 95 20319 ?_
       refine tt_ 5 86 20351 ?_
       refine pt_ 7 88 20479 ?_
       refine tt_ 12 93 24575 ?_
       refine pt_ 13 94 32767 ?_
       refine pt_ 15 96 65535 ?_
       refine pt_ 16 97 131071 ?_
       refine last_ (i := 17) (N := some 98) (lz_ 20 262143) rfl rfl (one_of HT_.out (by kernel_rfl)) (by decide) (fun K hK => ?_)
       refine value_ (w1 := ?_) (v := ?_) (by rfl) rfl ?_ ?_
       rotate_left 2
       ·go_simp
        constructor
        ·rfl
        ·rfl
       refine hK.out _ _ ?_
       clear hK K
       refine no_ 98 ?_
       refine last_ (i := 18) (N := some 99) (lz_ 20 524287) rfl rfl (one_of HT_.out (by kernel_rfl)) (by decide) (fun K hK => ?_)
       refine Kd.R_append_step (Kd.int .i64) (w0 := w) w.heap.size (by rfl) (.tmp 81) (.tmp 98) 84 3 (.int .i64 0) 8 rfl Tryz.underlying84 info3 rfl (by decide) (by omega) (.slice (some ad611) x3_2.length co38) x3_2 (Go.bits .and .i64 (wrap64 ((wrap64 ((wrap64 ((rd x3_2 (ji31)) + (Go.bits .xor .i64 (Go.bits .xor .i64 t613 t614) ((rd x3_2 (ji21)) / 8)))) + (rd x3_2 (ji34)))) + (Go.bits .xor .i64 (Go.bits .xor .i64 t615 t616) ((rd x3_2 (ji24)) / 1024)))) 4294967295) [.int .i64 (Go.bits .and .i64 (wrap64 ((wrap64 ((wrap64 ((rd x3_2 (ji31)) + (Go.bits .xor .i64 (Go.bits .xor .i64 t613 t614) ((rd x3_2 (ji21)) / 8)))) + (rd x3_2 (ji34)))) + (Go.bits .xor .i64 (Go.bits .xor .i64 t615 t616) ((rd x3_2 (ji24)) / 1024)))) 4294967295)] (fun _ => True) (fun _ => False) rfl rfl ?aP (fun _ hk => hk.elim) ?aF ?aO ?aB ?aS ?aL ?_
       (case aP => exact rfl)
       (case aB => exact (bw_ HB))
       (case aF => exact (fun _ _ => trivial))
       (case aO => exact (kr_ HO_3.out))
       (case aS => exact (sz_ HB))
       (case aL => have := LMc37.out; omega)
       intro v620 w40 ho hb hg hat
       rw [← Ny619.out] at ho
       replace HB := Aside0.mk hb
       have HO621 := Aside0.mk ho
       clear HO_3
       clear ho hb hg hat
       refine hK.out _ _ ?_
       clear hK K
       refine no_ 99 ?_
       refine pt_ 19 3 1048575 ?_
       refine done_ (done_of HT_.out (by kernel_rfl)) ?_
       try go_wp2
       go_roundg k2
       case measure => have := HK1.out; have := HK2.out; omega
       case rel => exact ⟨(y619), (wrap64 (x5_2 + 1)), e1_, H', ⟨by have := HK1.out; have := HK2.out; omega⟩, ⟨kr_ HO621.out⟩, ⟨bw_ HB⟩⟩
      ·obtain rfl := Option.some.inj H
       go_wp2
       go_ret
       exact ⟨_, e2_, kr_ HO_3.out, bw_ HB⟩
mutual
def spec_l2Block.l0 : Nat → List Int → List Int → List Int → List Int → Int → Option (List Int)
 | 0, _, _, _, _, _ => none
 | k + 1, x0, x2, x7, x8, x9 => if x9 < 64 then (if 4 < (x8.length : Int) then ((spec_l2Turn.f (rd x8 4) 6).bind fun t611 => ((spec_l2Turn.f (rd x8 4) 11).bind fun t612 => ((spec_l2Turn.f (rd x8 4) 25).bind fun t613 => (if 5 < (x8.length : Int) then (if 6 < (x8.length : Int) then (if 7 < (x8.length : Int) then (if 0 ≤ x9 then (if x9 < (x2.length : Int) then (if x9 < (x7.length : Int) then (if 0 < (x8.length : Int) then ((spec_l2Turn.f (rd x8 0) 2).bind fun t620 => ((spec_l2Turn.f (rd x8 0) 13).bind fun t621 => ((spec_l2Turn.f (rd x8 0) 22).bind fun t622 => (if 1 < (x8.length : Int) then (if 2 < (x8.length : Int) then (if 3 < (x8.length : Int) then (spec_l2Block.l0 k x0 x2 x7 (([Go.bits .and .i64 (wrap64 ((wrap64 ((wrap64 ((wrap64 ((wrap64 ((rd x8 7) + (Go.bits .xor .i64 (Go.bits .xor .i64 t611 t612) t613))) + (Go.bits .xor .i64 (Go.bits .and .i64 (rd x8 4) (rd x8 5)) (Go.bits .and .i64 (Go.bits .xor .i64 4294967295 (rd x8 4)) (rd x8 6))))) + (rd x2 x9))) + (rd x7 x9))) + (wrap64 ((Go.bits .xor .i64 (Go.bits .xor .i64 t620 t621) t622) + (Go.bits .xor .i64 (Go.bits .xor .i64 (Go.bits .and .i64 (rd x8 0) (rd x8 1)) (Go.bits .and .i64 (rd x8 0) (rd x8 2))) (Go.bits .and .i64 (rd x8 1) (rd x8 2))))))) 4294967295, rd x8 0, rd x8 1, rd x8 2, Go.bits .and .i64 (wrap64 ((rd x8 3) + (wrap64 ((wrap64 ((wrap64 ((wrap64 ((rd x8 7) + (Go.bits .xor .i64 (Go.bits .xor .i64 t611 t612) t613))) + (Go.bits .xor .i64 (Go.bits .and .i64 (rd x8 4) (rd x8 5)) (Go.bits .and .i64 (Go.bits .xor .i64 4294967295 (rd x8 4)) (rd x8 6))))) + (rd x2 x9))) + (rd x7 x9))))) 4294967295, rd x8 4, rd x8 5, rd x8 6] : List Int)) (wrap64 (x9 + 1))) else (none)) else (none)) else (none))))) else (none)) else (none)) else (none)) else (none)) else (none)) else (none)) else (none))))) else (none)) else (spec_l2Block.l1 k x0 x8 0)
def spec_l2Block.l1 : Nat → List Int → List Int → Int → Option (List Int)
 | 0, _, _, _ => none
 | k + 1, x0, x8, x18 => if x18 < 8 then (if 0 ≤ x18 then (if x18 < (x8.length : Int) then (if x18 < (x0.length : Int) then (spec_l2Block.l1 k x0 (x8.set (x18 : Int).toNat (Go.bits .and .i64 (wrap64 ((rd x8 x18) + (rd x0 x18))) 4294967295)) (wrap64 (x18 + 1))) else (none)) else (none)) else (none)) else (some x8)
end
def spec_l2Block.f (k : Nat) (l0 : List Int) (l1 : List Int) (l2 : List Int) : Option (List Int) := (spec_l2Words.f k l1).bind fun t601 => ((some (([] : List Int) : List Int)).bind fun y604 => (if y604.length + l0.length < 17592186044416 then (spec_l2Block.l0 k l0 l2 t601 (y604 ++ l0) 0) else (none)))
def spec_l2Block.T8 : Bool × List (List Nat × List Nat) := (true, [([], []), ([], []), ([1], [1]), ([2], [2]), ([0, 3], [0, 3]), ([], []), ([5], [5]), ([], []), ([7], [7]), ([8], [8]), ([6, 9], [6, 9]), ([4, 10], [4, 10]), ([11, 0, 1, 2, 3, 4, 5, 6, 7, 8, 9, 10, 11], [11])])
def spec_l2Block.B8 : List Nat := [0, 0, 2, 6, 15, 0, 32, 0, 128, 384, 992, 2047, 4095]
theorem spec_l2Block.tab8 : rtab .any (opsOf Tryz.f142 8) = spec_l2Block.T8 := by kernel_rfl
theorem spec_l2Block.bits8 : waitsOk spec_l2Block.T8.2 spec_l2Block.B8 = true := by kernel_rfl
def spec_l2Block.T9 : Bool × List (List Nat × List Nat) := (true, [([], []), ([0], [0]), ([1], [1]), ([], []), ([2, 3], [2, 3]), ([], []), ([4, 5], [4, 5]), ([], []), ([], []), ([7, 8], [7, 8]), ([9], [9]), ([6, 10], [6, 10]), ([], []), ([], []), ([12, 13], [12, 13]), ([14], [14]), ([11, 15], [11, 15]), ([16, 0, 1, 2, 3, 4, 5, 6, 7, 8, 9, 10, 11, 12, 13, 14, 15, 16], [16])])
def spec_l2Block.B9 : List Nat := [0, 1, 3, 0, 15, 0, 63, 0, 0, 384, 896, 2047, 0, 0, 12288, 28672, 65535, 131071]
theorem spec_l2Block.tab9 : rtab .any (opsOf Tryz.f142 9) = spec_l2Block.T9 := by kernel_rfl
theorem spec_l2Block.bits9 : waitsOk spec_l2Block.T9.2 spec_l2Block.B9 = true := by kernel_rfl
def spec_l2Block.T12 : Bool × List (List Nat × List Nat) := (true, [([], []), ([], []), ([1], [1]), ([2], [2]), ([0, 3], [0, 3]), ([], []), ([], []), ([6], [6]), ([7], [7]), ([5, 8], [5, 8]), ([4, 9], [4, 9]), ([], []), ([11], [11]), ([12], [12]), ([], []), ([14], [14]), ([15], [15]), ([13, 16], [13, 16]), ([10, 17], [10, 17]), ([18, 0, 1, 2, 3, 4, 5, 6, 7, 8, 9, 10, 11, 12, 13, 14, 15, 16, 17, 18], [18])])
def spec_l2Block.B12 : List Nat := [0, 0, 2, 6, 15, 0, 0, 64, 192, 480, 1023, 0, 2048, 6144, 0, 16384, 49152, 129024, 262143, 524287]
theorem spec_l2Block.tab12 : rtab .any (opsOf Tryz.f142 12) = spec_l2Block.T12 := by kernel_rfl
theorem spec_l2Block.bits12 : waitsOk spec_l2Block.T12.2 spec_l2Block.B12 = true := by kernel_rfl
def spec_l2Block.T14 : Bool × List (List Nat × List Nat) := (true, [([], []), ([], []), ([0, 1], [0, 1]), ([2], [2]), ([], []), ([], []), ([5], [5]), ([6], [6]), ([], []), ([8], [8]), ([9], [9]), ([], []), ([11], [11]), ([12], [12]), ([], []), ([13, 14], [13, 14]), ([15], [15]), ([], []), ([], []), ([18], [18]), ([19], [19]), ([], []), ([21], [21]), ([22], [22]), ([3, 4, 7, 10, 16, 17, 20, 23], [3, 4, 7, 10, 16, 17, 20, 23]), ([24, 0, 1, 2, 3, 4, 5, 6, 7, 8, 9, 10, 11, 12, 13, 14, 15, 16, 17, 18, 19, 20, 21, 22, 23, 24], [5, 8, 11, 18, 21, 24])])
def spec_l2Block.B14 : List Nat := [0, 0, 3, 7, 0, 0, 32, 96, 0, 256, 768, 0, 2048, 6144, 0, 30720, 63488, 0, 0, 262144, 786432, 0, 2097152, 6291456, 16777215, 33554431]
theorem spec_l2Block.tab14 : rtab .any (opsOf Tryz.f142 14) = spec_l2Block.T14 := by kernel_rfl
theorem spec_l2Block.bits14 : waitsOk spec_l2Block.T14.2 spec_l2Block.B14 = true := by kernel_rfl
def spec_l2Block.T18 : Bool × List (List Nat × List Nat) := (true, [([], []), ([], []), ([], []), ([], []), ([2, 3], [2, 3]), ([4], [4]), ([], []), ([], []), ([6, 7], [6, 7]), ([8], [8]), ([5, 9], [5, 9]), ([10], [10]), ([0, 1, 0, 1, 2, 3, 4, 5, 6, 7, 8, 9, 10, 11], [0, 1]), ([12, 11, 0, 1, 2, 3, 4, 5, 6, 7, 8, 9, 10, 11], [11, 12])])
def spec_l2Block.B18 : List Nat := [0, 0, 0, 0, 12, 28, 0, 0, 192, 448, 1020, 2044, 4095, 8191]
theorem spec_l2Block.tab18 : rtab .any (opsOf Tryz.f142 18) = spec_l2Block.T18 := by kernel_rfl
theorem spec_l2Block.bits18 : waitsOk spec_l2Block.T18.2 spec_l2Block.B18 = true := by kernel_rfl
set_option maxHeartbeats 8000000 in
set_option maxRecDepth 100000 in
theorem spec_l2Block.calls (k : Nat) (A0 : Option Addr) (c0 : Nat) (l0 : List Int) (A1 : Option Addr) (c1 : Nat) (l1 : List Int) (A2 : Option Addr) (c2 : Nat) (l2 : List Int) (r : List Int) (w : World) (hr0 : Kd.C (Kd.int .i64) w A0 l0.length l0) (hc0 : l0.length ≤ c0) (hr1 : Kd.C (Kd.int .u8) w A1 l1.length l1) (hc1 : l1.length ≤ c1) (hr2 : Kd.C (Kd.int .i64) w A2 l2.length l2) (hc2 : l2.length ≤ c2) (h : spec_l2Block.f k l0 l1 l2 = some r) :
  Calls Tryz.prog 142 #[.slice A0 l0.length c0, .slice A1 l1.length c1, .slice A2 l2.length c2] w fun e w' => ∃ v0_ : Value, e = .returned (v0_) ∧ Kd.R (Kd.int .i64) 3 w' w.heap.size (fun _ => True) v0_ r ∧ Below w.heap.size w w' := by
 have HR0 := Aside0.mk hr0
 have HC0 := Aside0.mk hc0
 clear hr0 hc0
 have HR1 := Aside0.mk hr1
 have HC1 := Aside0.mk hc1
 clear hr1 hc1
 have HR2 := Aside0.mk hr2
 have HC2 := Aside0.mk hc2
 clear hr2 hc2
 have HB := Aside0.mk (Below.refl w.heap.size w)
 have H : ((spec_l2Words.f k l1).bind fun t601 => ((some (([] : List Int) : List Int)).bind fun y604 => (if y604.length + l0.length < 17592186044416 then (spec_l2Block.l0 k l0 l2 t601 (y604 ++ l0) 0) else (none)))) = some r := h
 clear h
 replace H := bi_ H; obtain ⟨t601, A4, H⟩ := H
 obtain ⟨y604, Ny604, H⟩ := sb_ (([] : List Int)) H
 replace H := ip_ H; obtain ⟨c5, H⟩ := H
 have LMc5 := Aside0.mk c5
 clear c5
 obtain ⟨y607, hy607⟩ : ∃ y_ : List Int, y_ = (y604 ++ l0) := ⟨_, rfl⟩
 replace H : (spec_l2Block.l0 k l0 l2 t601 y607 0) = some r := yh_ hy607 H
 have Ny607 := Aside0.mk hy607
 clear hy607
 have H' := Aside0.mk H
 clear H
 go_enter Tryz.func142, Tryz.ntmps142
 go_wp2_with (first | ((with_reducible refine gq_ 163 20 ?_); refine gc_ 20 Tryz.func163 (spec_l2Words.calls k _ _ l1 t601 _ (cr_ HR1.out) HC1.out A4.out) ?_; rintro e w6 ⟨v602, rfl, ho0, hb⟩; refine ⟨_, rfl, ?_⟩; have HO603 := Aside0.mk (Kd.R_lower ho0 (sz_ HB)); replace HB := ss_ HB hb; clear hb ho0) | ((with_reducible refine gd_ 21 ?_); refine rl_ (Kd.int .i64) 3 21 ([] : List Int) [] ?_; intro v605 w7 ho8 hb hg_ hnew_; clear hg_ hnew_; (first | rw [← Ny604.out] at ho8 | (simp only [Int.reduceToNat] at ho8; rw [← Ny604.out] at ho8)); have HO606 := Aside0.mk (Kd.R_lower (Kd.R_new' ho8 (lt_ HO603)) (sz_ HB)); replace HO603 := re_ HO603 ho8 hb; replace HB := ss_ HB hb; clear hb ho8) | ((with_reducible refine gate_builtin (b := .append) (xs := #[.tmp 21, .tmp 22]) rfl ?_); at_builtin; refine Kd.R_append_rows (Kd.int .i64) (w0 := w) w.heap.size rfl (.tmp 21) (.tmp 22) 84 3 (.int .i64 0) 8 rfl Tryz.underlying84 info3 rfl (by decide) (by omega) v605 y604 l0 _ _ _ (fun k_ => some k_ ≠ (v602 : Value).ownBlock) (fun _ => False) rfl rfl ?aO ?aR (fun _ _ h => h) (fun _ h => h.elim) ?aF ?aB ?aS ?aL ?_; (case aR => exact cb_ HR0 HB); (case aB => exact (bw_ HB)); (case aF => exact (fun k_ hk => Kd.fresh' (lt_ HO603) k_ hk)); (case aO => exact (kr_ (Kd.R_mono HO606.out (fun _ hk => hk.2)))); (case aS => exact (sz_ HB)); (case aL => have := LMc5.out; omega); intro v608 w9 ho hb hg hat; rw [← Ny607.out] at ho; replace HO603 := Aside0.mk (Kd.R_after (ok := (fun _ => True)) (kr_ HO603.out) hg hat); replace HB := Aside0.mk hb; have HO609 := Aside0.mk ho; clear HO606; clear ho hb hg hat))
 go_loopg [8, 9] k (fun kq v8 v9 w' => ∃ (x8_1 : List Int) (x9_1 : Int), v9 = .int .i64 x9_1 ∧ Aside0 (spec_l2Block.l0 kq l0 l2 t601 x8_1 x9_1 = some r) ∧ Aside0 (kq ≤ k) ∧ Aside0 (Kd.R (Kd.int .i64) 3 w' w.heap.size (fun k_ => some k_ ≠ (v8 : Value).ownBlock) v602 t601) ∧ Aside0 (Kd.R (Kd.int .i64) 3 w' w.heap.size (fun k_ => some k_ ≠ (v602 : Value).ownBlock) v8 x8_1) ∧ Aside0 (Below w.heap.size w w'))
 case atStart => exact ⟨(y607), (0), e1_, H', ⟨Nat.le_refl _⟩, ⟨by (with_reducible repeat (first | apply Kd.R_alloc | apply Kd.R_drewN | apply Kd.R_drew)); exact Kd.R_mono HO603.out (fun _ hk => hk.2)⟩, ⟨kr_ HO609.out⟩, ⟨bw_ HB⟩⟩
 case round =>
  clear H'
  try clear c5
  obtain ⟨x8_1, x9_1, rfl, HA, HK1, HO_7, HO_8, HB⟩ := hrel
  cases gk with
  | zero => exact absurd HA.out (by simp [spec_l2Block.l0])
  | succ k1 =>
   have H := HA.out
   clear HA
   simp only [spec_l2Block.l0] at H
   replace H := itd_ H; obtain ⟨c10b0, H⟩ | ⟨c10b0, H⟩ := H
   ·replace H := ip_ H; obtain ⟨c11, H⟩ := H
    have c11b0 := decide_eq_true c11
    have c11b1 : decide (4 < x8_1.length) = true := decide_eq_true (by omega)
    clear c11
    replace H := bi_ H; obtain ⟨t611, A12, H⟩ := H
    replace H := bi_ H; obtain ⟨t612, A13, H⟩ := H
    replace H := bi_ H; obtain ⟨t613, A14, H⟩ := H
    replace H := ip_ H; obtain ⟨c15, H⟩ := H
    have c15b0 := decide_eq_true c15
    have c15b1 : decide (5 < x8_1.length) = true := decide_eq_true (by omega)
    clear c15
    replace H := ip_ H; obtain ⟨c16, H⟩ := H
    have c16b0 := decide_eq_true c16
    have c16b1 : decide (6 < x8_1.length) = true := decide_eq_true (by omega)
    clear c16
    replace H := ip_ H; obtain ⟨c17, H⟩ := H
    have c17b0 := decide_eq_true c17
    have c17b1 : decide (7 < x8_1.length) = true := decide_eq_true (by omega)
    clear c17
    replace H := ipd_ H; obtain ⟨c18b0, H⟩ := H
    replace H := ipd_ H; obtain ⟨c19b0, H⟩ := H
    replace H := ipd_ H; obtain ⟨c20b0, H⟩ := H
    replace H := ip_ H; obtain ⟨c21, H⟩ := H
    have c21b0 := decide_eq_true c21
    have c21b1 : decide (0 < x8_1.length) = true := decide_eq_true (by omega)
    clear c21
    replace H := bi_ H; obtain ⟨t620, A22, H⟩ := H
    replace H := bi_ H; obtain ⟨t621, A23, H⟩ := H
    replace H := bi_ H; obtain ⟨t622, A24, H⟩ := H
    replace H := ip_ H; obtain ⟨c25, H⟩ := H
    have c25b0 := decide_eq_true c25
    have c25b1 : decide (1 < x8_1.length) = true := decide_eq_true (by omega)
    clear c25
    replace H := ip_ H; obtain ⟨c26, H⟩ := H
    have c26b0 := decide_eq_true c26
    have c26b1 : decide (2 < x8_1.length) = true := decide_eq_true (by omega)
    clear c26
    replace H := ip_ H; obtain ⟨c27, H⟩ := H
    have c27b0 := decide_eq_true c27
    have c27b1 : decide (3 < x8_1.length) = true := decide_eq_true (by omega)
    clear c27
    obtain ⟨y632, hy632⟩ : ∃ y_ : List Int, y_ = (([Go.bits .and .i64 (wrap64 ((wrap64 ((wrap64 ((wrap64 ((wrap64 ((rd x8_1 7) + (Go.bits .xor .i64 (Go.bits .xor .i64 t611 t612) t613))) + (Go.bits .xor .i64 (Go.bits .and .i64 (rd x8_1 4) (rd x8_1 5)) (Go.bits .and .i64 (Go.bits .xor .i64 4294967295 (rd x8_1 4)) (rd x8_1 6))))) + (rd l2 x9_1))) + (rd t601 x9_1))) + (wrap64 ((Go.bits .xor .i64 (Go.bits .xor .i64 t620 t621) t622) + (Go.bits .xor .i64 (Go.bits .xor .i64 (Go.bits .and .i64 (rd x8_1 0) (rd x8_1 1)) (Go.bits .and .i64 (rd x8_1 0) (rd x8_1 2))) (Go.bits .and .i64 (rd x8_1 1) (rd x8_1 2))))))) 4294967295, rd x8_1 0, rd x8_1 1, rd x8_1 2, Go.bits .and .i64 (wrap64 ((rd x8_1 3) + (wrap64 ((wrap64 ((wrap64 ((wrap64 ((rd x8_1 7) + (Go.bits .xor .i64 (Go.bits .xor .i64 t611 t612) t613))) + (Go.bits .xor .i64 (Go.bits .and .i64 (rd x8_1 4) (rd x8_1 5)) (Go.bits .and .i64 (Go.bits .xor .i64 4294967295 (rd x8_1 4)) (rd x8_1 6))))) + (rd l2 x9_1))) + (rd t601 x9_1))))) 4294967295, rd x8_1 4, rd x8_1 5, rd x8_1 6] : List Int)) := ⟨_, rfl⟩
    replace H : (spec_l2Block.l0 k1 l0 l2 t601 y632 (wrap64 (x9_1 + 1))) = some r := yh_ hy632 H
    have Ny632 := Aside0.mk hy632
    clear hy632
    have H' := Aside0.mk H
    clear H
    obtain ⟨Ao28, co28, eo28⟩ := Kd.R_slice HO_8.out
    subst eo28
    have p610 : 0 ≤ (4 : Int) := (by omega)
    have q610 : 4 < (x8_1.length : Int) := of_decide_eq_true as_
    obtain ⟨ad610, e610, hx610_0⟩ := Kd.at_int (Kd.R_reads' HO_8.out).2.2 4 p610 q610
    cases e610
    (try simp only [show (4 : Int).toNat = 4 from rfl, Nat.reduceMul, Nat.reduceEqDiff, Go.Addr.add, ↓reduceIte] at hx610_0)
    have qi610 : (4 < x8_1.length) = True := eq_true (by omega)
    (try rw [show ((4 : Int)).toNat = 4 from rfl] at hx610_0)
    replace p610 := eq_true p610
    replace q610 := eq_true q610
    try go_wp2_with (first | ((with_reducible refine gq_ 164 32 ?_); refine gc_ 32 Tryz.func164 (spec_l2Turn.calls (rd x8_1 4) 6 t611 _ A12.out) ?_; rintro e w' ⟨rfl, ⟨nd, rfl⟩⟩; refine ⟨_, rfl, ?_⟩) | ((with_reducible refine gq_ 164 34 ?_); refine gc_ 34 Tryz.func164 (spec_l2Turn.calls (rd x8_1 4) 11 t612 _ A13.out) ?_; rintro e w' ⟨rfl, ⟨nd, rfl⟩⟩; refine ⟨_, rfl, ?_⟩) | ((with_reducible refine gq_ 164 37 ?_); refine gc_ 37 Tryz.func164 (spec_l2Turn.calls (rd x8_1 4) 25 t613 _ A14.out) ?_; rintro e w' ⟨rfl, ⟨nd, rfl⟩⟩; refine ⟨_, rfl, ?_⟩))
    (try (rw [drewN_self wr]; generalize hq_ : World.drewN wr _ = wr; have n0_ : Aside0 (Kd.R (Kd.int .i64) 3 wr w.heap.size (fun k_ => some k_ ≠ (.slice (some ad610) x8_1.length co28 : Value).ownBlock) v602 t601) := ⟨by rw [← hq_]; exact (kr_ HO_7.out)⟩; have n1_ : Aside0 (Kd.R (Kd.int .i64) 3 wr w.heap.size (fun k_ => some k_ ≠ (v602 : Value).ownBlock) (.slice (some ad610) x8_1.length co28) x8_1) := ⟨by rw [← hq_]; exact (kr_ HO_8.out)⟩; have n2_ : Aside0 (Below w.heap.size w wr) := ⟨by rw [← hq_]; exact (bw_ HB)⟩; clear HO_7 HO_8 HB hq_; have HO_7 := n0_; have HO_8 := n1_; have HB := n2_; clear n0_ n1_ n2_))
    replace HO_7 := Aside0.mk (Kd.R_drew HO_7.out)
    replace HO_8 := Aside0.mk (Kd.R_drew HO_8.out)
    replace HB := Aside0.mk (below_drew1 HB.out)
    have p614 : 0 ≤ (5 : Int) := (by omega)
    have q614 : 5 < (x8_1.length : Int) := of_decide_eq_true as_
    obtain ⟨ad614, e614, hx614_0⟩ := Kd.at_int (Kd.R_reads' HO_8.out).2.2 5 p614 q614
    obtain rfl : ad610 = ad614 := (by injection e614)
    (try simp only [show (5 : Int).toNat = 5 from rfl, Nat.reduceMul, Nat.reduceEqDiff, Go.Addr.add, ↓reduceIte] at hx614_0)
    have qi614 : (5 < x8_1.length) = True := eq_true (by omega)
    (try rw [show ((5 : Int)).toNat = 5 from rfl] at hx614_0)
    replace p614 := eq_true p614
    replace q614 := eq_true q614
    have p615 : 0 ≤ (6 : Int) := (by omega)
    have q615 : 6 < (x8_1.length : Int) := of_decide_eq_true as_
    obtain ⟨ad615, e615, hx615_0⟩ := Kd.at_int (Kd.R_reads' HO_8.out).2.2 6 p615 q615
    obtain rfl : ad610 = ad615 := (by injection e615)
    (try simp only [show (6 : Int).toNat = 6 from rfl, Nat.reduceMul, Nat.reduceEqDiff, Go.Addr.add, ↓reduceIte] at hx615_0)
    have qi615 : (6 < x8_1.length) = True := eq_true (by omega)
    (try rw [show ((6 : Int)).toNat = 6 from rfl] at hx615_0)
    replace p615 := eq_true p615
    replace q615 := eq_true q615
    refine start_ (n := 13) (S := fun w' => w'.cell? ⟨ad610.block, ad610.off + 5, none⟩ = some (.int .i64 (rd x8_1 5)) ∧ w'.cell? ⟨ad610.block, ad610.off + 6, none⟩ = some (.int .i64 (rd x8_1 6))) (ds := []) (lz_ 13 0) (by kernel_rfl) rfl rfl ⟨hx614_0, hx615_0⟩ (fun hHeld => ?_); refine with_tabW spec_l2Block.tab8 spec_l2Block.bits8 (fun HT_ HW_ => ?_)
    generalize wr.drew = w29 at HO_7 HO_8 HB hx614_0 hx615_0 hHeld ⊢
    refine pt_ 0 39 1 ?_
    refine pt_ 1 40 3 ?_
    refine pt_ 2 41 7 ?_
    refine pt_ 5 44 39 ?_
    refine pt_ 6 45 103 ?_
    refine pt_ 7 46 231 ?_
    refine pt_ 8 47 487 ?_
    refine tt_ 3 42 495 ?_
    refine pt_ 4 43 511 ?_
    refine tt_ 9 48 1023 ?_
    refine pt_ 10 49 2047 ?_
    refine pt_ 11 50 4095 ?_
    refine pt_ 12 12 8191 ?_
    refine done_ (done_of HT_.out (by kernel_rfl)) ?_
    try go_wp2
    replace HO_7 := Aside0.mk (Kd.R_drew HO_7.out)
    replace HO_8 := Aside0.mk (Kd.R_drew HO_8.out)
    replace HB := Aside0.mk (below_drew1 HB.out)
    have p616 : 0 ≤ (7 : Int) := (by omega)
    have q616 : 7 < (x8_1.length : Int) := of_decide_eq_true as_
    obtain ⟨ad616, e616, hx616_0⟩ := Kd.at_int (Kd.R_reads' HO_8.out).2.2 7 p616 q616
    obtain rfl : ad610 = ad616 := (by injection e616)
    (try simp only [show (7 : Int).toNat = 7 from rfl, Nat.reduceMul, Nat.reduceEqDiff, Go.Addr.add, ↓reduceIte] at hx616_0)
    have qi616 : (7 < x8_1.length) = True := eq_true (by omega)
    (try rw [show ((7 : Int)).toNat = 7 from rfl] at hx616_0)
    replace p616 := eq_true p616
    replace q616 := eq_true q616
    have p617 : 0 ≤ (x9_1 : Int) := of_decide_eq_true as_
    have q617 : x9_1 < (l2.length : Int) := of_decide_eq_true as_
    obtain ⟨ad617, e617, hx617_0⟩ := Kd.at_int HR2.out x9_1 p617 q617
    have hw617_0 := hx617_0
    cases e617
    replace hx617_0 := cw_ HB hx617_0
    replace p617 := eq_true p617
    replace q617 := eq_true q617
    obtain ⟨Ao31, co31, eo31⟩ := Kd.R_slice HO_7.out
    (first | subst eo31 | (injection eo31 with f1_ f2_ f3_; have f4_ := f1_.symm; have f5_ := f3_.symm; clear f1_ f2_ f3_; subst f4_; subst f5_))
    obtain ⟨ad618, e618, hx618_0, p618, q618⟩ := ai_ (Kd.R_reads' HO_7.out).2.2 x9_1
    cases e618
    refine start_ (n := 18) (S := fun w' => w'.cell? ⟨ad610.block, ad610.off + 7, none⟩ = some (.int .i64 (rd x8_1 7)) ∧ w'.cell? (ad617.add (x9_1).toNat) = some (.int .i64 (rd l2 x9_1)) ∧ w'.cell? (ad618.add (x9_1).toNat) = some (.int .i64 (rd t601 x9_1))) (ds := []) (lz_ 18 0) (by kernel_rfl) rfl rfl ⟨hx616_0, (cw_ HB hw617_0), hx618_0⟩ (fun hHeld => ?_); refine with_tabW spec_l2Block.tab9 spec_l2Block.bits9 (fun HT_ HW_ => ?_)
    generalize w29.drew = w30 at HO_7 HO_8 HB hx616_0 hx617_0 hx618_0 hHeld ⊢
    refine pt_ 0 51 1 ?_
    refine pt_ 1 52 3 ?_
    refine pt_ 3 54 11 ?_
    refine pt_ 5 56 43 ?_
    refine pt_ 7 58 171 ?_
    refine pt_ 8 59 427 ?_
    refine pt_ 9 60 939 ?_
    refine pt_ 12 63 5035 ?_
    refine pt_ 13 64 13227 ?_
    refine pt_ 14 65 29611 ?_
    refine tt_ 2 53 29615 ?_
    refine pt_ 4 55 29631 ?_
    refine pt_ 6 57 29695 ?_
    refine tt_ 10 61 30719 ?_
    refine pt_ 11 62 32767 ?_
    refine tt_ 15 66 65535 ?_
    refine pt_ 16 67 131071 ?_
    refine pt_ 17 13 262143 ?_
    refine done_ (done_of HT_.out (by kernel_rfl)) ?_
    have p619 : 0 ≤ (0 : Int) := (by omega)
    have q619 : 0 < (x8_1.length : Int) := of_decide_eq_true as_
    obtain ⟨ad619, e619, hx619_0⟩ := Kd.at_int (Kd.R_reads' HO_8.out).2.2 0 p619 q619
    obtain rfl : ad610 = ad619 := (by injection e619)
    have qi619 : (0 < x8_1.length) = True := eq_true (by omega)
    (try rw [show ((0 : Int)).toNat = 0 from rfl] at hx619_0)
    (try rw [Addr.add_zero'] at hx619_0)
    replace p619 := eq_true p619
    replace q619 := eq_true q619
    try go_wp2_with (first | ((with_reducible refine gq_ 164 72 ?_); refine gc_ 72 Tryz.func164 (spec_l2Turn.calls (rd x8_1 0) 2 t620 _ A22.out) ?_; rintro e w' ⟨rfl, ⟨nd, rfl⟩⟩; refine ⟨_, rfl, ?_⟩) | ((with_reducible refine gq_ 164 74 ?_); refine gc_ 74 Tryz.func164 (spec_l2Turn.calls (rd x8_1 0) 13 t621 _ A23.out) ?_; rintro e w' ⟨rfl, ⟨nd, rfl⟩⟩; refine ⟨_, rfl, ?_⟩) | ((with_reducible refine gq_ 164 77 ?_); refine gc_ 77 Tryz.func164 (spec_l2Turn.calls (rd x8_1 0) 22 t622 _ A24.out) ?_; rintro e w' ⟨rfl, ⟨nd, rfl⟩⟩; refine ⟨_, rfl, ?_⟩))
    (try (rw [drewN_self w30]; generalize hq_ : World.drewN w30 _ = w30; have n0_ : Aside0 (Kd.R (Kd.int .i64) 3 w30 w.heap.size (fun k_ => some k_ ≠ (.slice (some ad610) x8_1.length co28 : Value).ownBlock) (.slice (some ad618) t601.length co31) t601) := ⟨by rw [← hq_]; exact (kr_ HO_7.out)⟩; have n1_ : Aside0 (Kd.R (Kd.int .i64) 3 w30 w.heap.size (fun k_ => some k_ ≠ (.slice (some ad618) t601.length co31 : Value).ownBlock) (.slice (some ad610) x8_1.length co28) x8_1) := ⟨by rw [← hq_]; exact (kr_ HO_8.out)⟩; have n2_ : Aside0 (Below w.heap.size w w30) := ⟨by rw [← hq_]; exact (bw_ HB)⟩; clear HO_7 HO_8 HB hq_; have HO_7 := n0_; have HO_8 := n1_; have HB := n2_; clear n0_ n1_ n2_))
    replace HO_7 := Aside0.mk (Kd.R_drew HO_7.out)
    replace HO_8 := Aside0.mk (Kd.R_drew HO_8.out)
    replace HB := Aside0.mk (below_drew1 HB.out)
    have p623 : 0 ≤ (1 : Int) := (by omega)
    have q623 : 1 < (x8_1.length : Int) := of_decide_eq_true as_
    obtain ⟨ad623, e623, hx623_0⟩ := Kd.at_int (Kd.R_reads' HO_8.out).2.2 1 p623 q623
    obtain rfl : ad610 = ad623 := (by injection e623)
    (try simp only [show (1 : Int).toNat = 1 from rfl, Nat.reduceMul, Nat.reduceEqDiff, Go.Addr.add, ↓reduceIte] at hx623_0)
    have qi623 : (1 < x8_1.length) = True := eq_true (by omega)
    (try rw [show ((1 : Int)).toNat = 1 from rfl] at hx623_0)
    replace p623 := eq_true p623
    replace q623 := eq_true q623
    have p624 : 0 ≤ (2 : Int) := (by omega)
    have q624 : 2 < (x8_1.length : Int) := of_decide_eq_true as_
    obtain ⟨ad624, e624, hx624_0⟩ := Kd.at_int (Kd.R_reads' HO_8.out).2.2 2 p624 q624
    obtain rfl : ad610 = ad624 := (by injection e624)
    (try simp only [show (2 : Int).toNat = 2 from rfl, Nat.reduceMul, Nat.reduceEqDiff, Go.Addr.add, ↓reduceIte] at hx624_0)
    have qi624 : (2 < x8_1.length) = True := eq_true (by omega)
    (try rw [show ((2 : Int)).toNat = 2 from rfl] at hx624_0)
    replace p624 := eq_true p624
    replace q624 := eq_true q624
    have p625 : 0 ≤ (1 : Int) := (by omega)
    have q625 : 1 < (x8_1.length : Int) := of_decide_eq_true as_
    obtain ⟨ad625, e625, hx625_0⟩ := Kd.at_int (Kd.R_reads' HO_8.out).2.2 1 p625 q625
    obtain rfl : ad610 = ad625 := (by injection e625)
    (try simp only [show (1 : Int).toNat = 1 from rfl, Nat.reduceMul, Nat.reduceEqDiff, Go.Addr.add, ↓reduceIte] at hx625_0)
    have qi625 : (1 < x8_1.length) = True := eq_true (by omega)
    (try rw [show ((1 : Int)).toNat = 1 from rfl] at hx625_0)
    replace p625 := eq_true p625
    replace q625 := eq_true q625
    have p626 : 0 ≤ (2 : Int) := (by omega)
    have q626 : 2 < (x8_1.length : Int) := of_decide_eq_true as_
    obtain ⟨ad626, e626, hx626_0⟩ := Kd.at_int (Kd.R_reads' HO_8.out).2.2 2 p626 q626
    obtain rfl : ad610 = ad626 := (by injection e626)
    (try simp only [show (2 : Int).toNat = 2 from rfl, Nat.reduceMul, Nat.reduceEqDiff, Go.Addr.add, ↓reduceIte] at hx626_0)
    have qi626 : (2 < x8_1.length) = True := eq_true (by omega)
    (try rw [show ((2 : Int)).toNat = 2 from rfl] at hx626_0)
    replace p626 := eq_true p626
    replace q626 := eq_true q626
    refine start_ (n := 20) (S := fun w' => w'.cell? ⟨ad610.block, ad610.off + 1, none⟩ = some (.int .i64 (rd x8_1 1)) ∧ w'.cell? ⟨ad610.block, ad610.off + 2, none⟩ = some (.int .i64 (rd x8_1 2)) ∧ w'.cell? ⟨ad610.block, ad610.off + 1, none⟩ = some (.int .i64 (rd x8_1 1)) ∧ w'.cell? ⟨ad610.block, ad610.off + 2, none⟩ = some (.int .i64 (rd x8_1 2))) (ds := []) (lz_ 20 0) (by kernel_rfl) rfl rfl ⟨hx623_0, hx624_0, hx625_0, hx626_0⟩ (fun hHeld => ?_); refine with_tabW spec_l2Block.tab12 spec_l2Block.bits12 (fun HT_ HW_ => ?_)
    generalize w30.drew = w32 at HO_7 HO_8 HB hx623_0 hx624_0 hx625_0 hx626_0 hHeld ⊢
    refine pt_ 0 79 1 ?_
    refine pt_ 1 80 3 ?_
    refine pt_ 2 81 7 ?_
    refine pt_ 5 84 39 ?_
    refine pt_ 6 85 103 ?_
    refine pt_ 7 86 231 ?_
    refine pt_ 11 90 2279 ?_
    refine pt_ 12 91 6375 ?_
    refine pt_ 14 93 22759 ?_
    refine pt_ 15 94 55527 ?_
    refine tt_ 3 82 55535 ?_
    refine pt_ 4 83 55551 ?_
    refine tt_ 8 87 55807 ?_
    refine pt_ 9 88 56319 ?_
    refine pt_ 10 89 57343 ?_
    refine tt_ 13 92 65535 ?_
    refine tt_ 16 95 131071 ?_
    refine pt_ 17 96 262143 ?_
    refine pt_ 18 97 524287 ?_
    refine pt_ 19 16 1048575 ?_
    refine done_ (done_of HT_.out (by kernel_rfl)) ?_
    try go_wp2
    replace HO_7 := Aside0.mk (Kd.R_drew HO_7.out)
    replace HO_8 := Aside0.mk (Kd.R_drew HO_8.out)
    replace HB := Aside0.mk (below_drew1 HB.out)
    have p627 : 0 ≤ (1 : Int) := (by omega)
    have q627 : 1 < (x8_1.length : Int) := of_decide_eq_true as_
    obtain ⟨ad627, e627, hx627_0⟩ := Kd.at_int (Kd.R_reads' HO_8.out).2.2 1 p627 q627
    obtain rfl : ad610 = ad627 := (by injection e627)
    (try simp only [show (1 : Int).toNat = 1 from rfl, Nat.reduceMul, Nat.reduceEqDiff, Go.Addr.add, ↓reduceIte] at hx627_0)
    have qi627 : (1 < x8_1.length) = True := eq_true (by omega)
    (try rw [show ((1 : Int)).toNat = 1 from rfl] at hx627_0)
    replace p627 := eq_true p627
    replace q627 := eq_true q627
    have p628 : 0 ≤ (2 : Int) := (by omega)
    have q628 : 2 < (x8_1.length : Int) := of_decide_eq_true as_
    obtain ⟨ad628, e628, hx628_0⟩ := Kd.at_int (Kd.R_reads' HO_8.out).2.2 2 p628 q628
    obtain rfl : ad610 = ad628 := (by injection e628)
    (try simp only [show (2 : Int).toNat = 2 from rfl, Nat.reduceMul, Nat.reduceEqDiff, Go.Addr.add, ↓reduceIte] at hx628_0)
    have qi628 : (2 < x8_1.length) = True := eq_true (by omega)
    (try rw [show ((2 : Int)).toNat = 2 from rfl] at hx628_0)
    replace p628 := eq_true p628
    replace q628 := eq_true q628
    have p629 : 0 ≤ (3 : Int) := (by omega)
    have q629 : 3 < (x8_1.length : Int) := of_decide_eq_true as_
    obtain ⟨ad629, e629, hx629_0⟩ := Kd.at_int (Kd.R_reads' HO_8.out).2.2 3 p629 q629
    obtain rfl : ad610 = ad629 := (by injection e629)
    (try simp only [show (3 : Int).toNat = 3 from rfl, Nat.reduceMul, Nat.reduceEqDiff, Go.Addr.add, ↓reduceIte] at hx629_0)
    have qi629 : (3 < x8_1.length) = True := eq_true (by omega)
    (try rw [show ((3 : Int)).toNat = 3 from rfl] at hx629_0)
    replace p629 := eq_true p629
    replace q629 := eq_true q629
    have p630 : 0 ≤ (5 : Int) := (by omega)
    have q630 : 5 < (x8_1.length : Int) := of_decide_eq_true as_
    obtain ⟨ad630, e630, hx630_0⟩ := Kd.at_int (Kd.R_reads' HO_8.out).2.2 5 p630 q630
    obtain rfl : ad610 = ad630 := (by injection e630)
    (try simp only [show (5 : Int).toNat = 5 from rfl, Nat.reduceMul, Nat.reduceEqDiff, Go.Addr.add, ↓reduceIte] at hx630_0)
    have qi630 : (5 < x8_1.length) = True := eq_true (by omega)
    (try rw [show ((5 : Int)).toNat = 5 from rfl] at hx630_0)
    replace p630 := eq_true p630
    replace q630 := eq_true q630
    have p631 : 0 ≤ (6 : Int) := (by omega)
    have q631 : 6 < (x8_1.length : Int) := of_decide_eq_true as_
    obtain ⟨ad631, e631, hx631_0⟩ := Kd.at_int (Kd.R_reads' HO_8.out).2.2 6 p631 q631
    obtain rfl : ad610 = ad631 := (by injection e631)
    (try simp only [show (6 : Int).toNat = 6 from rfl, Nat.reduceMul, Nat.reduceEqDiff, Go.Addr.add, ↓reduceIte] at hx631_0)
    have qi631 : (6 < x8_1.length) = True := eq_true (by omega)
    (try rw [show ((6 : Int)).toNat = 6 from rfl] at hx631_0)
    replace p631 := eq_true p631
    replace q631 := eq_true q631
    refine start_ (n := 26) (S := fun w' => w'.cell? ⟨ad610.block, ad610.off + 1, none⟩ = some (.int .i64 (rd x8_1 1)) ∧ w'.cell? ⟨ad610.block, ad610.off + 2, none⟩ = some (.int .i64 (rd x8_1 2)) ∧ w'.cell? ⟨ad610.block, ad610.off + 3, none⟩ = some (.int .i64 (rd x8_1 3)) ∧ w'.cell? ⟨ad610.block, ad610.off + 5, none⟩ = some (.int .i64 (rd x8_1 5)) ∧ w'.cell? ⟨ad610.block, ad610.off + 6, none⟩ = some (.int .i64 (rd x8_1 6))) (ds := []) (lz_ 26 0) (by kernel_rfl) rfl rfl ⟨hx627_0, hx628_0, hx629_0, hx630_0, hx631_0⟩ (fun hHeld => ?_); refine with_tabW spec_l2Block.tab14 spec_l2Block.bits14 (fun HT_ HW_ => ?_)
    generalize w32.drew = w33 at HO_7 HO_8 HB hx627_0 hx628_0 hx629_0 hx630_0 hx631_0 hHeld ⊢
    refine pt_ 0 101 1 ?_
    refine pt_ 1 102 3 ?_
    refine pt_ 2 103 7 ?_
    refine pt_ 3 104 15 ?_
    refine pt_ 4 105 31 ?_
    refine pt_ 5 106 63 ?_
    refine pt_ 6 107 127 ?_
    refine pt_ 8 109 383 ?_
    refine pt_ 9 110 895 ?_
    refine pt_ 11 112 2943 ?_
    refine pt_ 12 113 7039 ?_
    refine pt_ 14 115 23423 ?_
    refine pt_ 17 118 154495 ?_
    refine pt_ 18 119 416639 ?_
    refine pt_ 19 120 940927 ?_
    refine pt_ 21 122 3038079 ?_
    refine pt_ 22 123 7232383 ?_
    refine tt_ 7 108 7232511 ?_
    refine tt_ 10 111 7233535 ?_
    refine tt_ 13 114 7241727 ?_
    refine pt_ 15 116 7274495 ?_
    refine pt_ 16 117 7340031 ?_
    refine tt_ 20 121 8388607 ?_
    refine tt_ 23 124 16777215 ?_
    refine one_ (i := 24) (N := some 125) (lz_ 26 33554431) rfl rfl (one_of HT_.out (by kernel_rfl)) (by decide) (fun K hK => ?_)
    refine Kd.R_lit_step (Kd.int .i64) _ 3 ?hg (N := 125) ?hd (xs := ([Go.bits .and .i64 (wrap64 ((wrap64 ((wrap64 ((wrap64 ((wrap64 ((rd x8_1 7) + (Go.bits .xor .i64 (Go.bits .xor .i64 t611 t612) t613))) + (Go.bits .xor .i64 (Go.bits .and .i64 (rd x8_1 4) (rd x8_1 5)) (Go.bits .and .i64 (Go.bits .xor .i64 4294967295 (rd x8_1 4)) (rd x8_1 6))))) + (rd l2 x9_1))) + (rd t601 x9_1))) + (wrap64 ((Go.bits .xor .i64 (Go.bits .xor .i64 t620 t621) t622) + (Go.bits .xor .i64 (Go.bits .xor .i64 (Go.bits .and .i64 (rd x8_1 0) (rd x8_1 1)) (Go.bits .and .i64 (rd x8_1 0) (rd x8_1 2))) (Go.bits .and .i64 (rd x8_1 1) (rd x8_1 2))))))) 4294967295, rd x8_1 0, rd x8_1 1, rd x8_1 2, Go.bits .and .i64 (wrap64 ((rd x8_1 3) + (wrap64 ((wrap64 ((wrap64 ((wrap64 ((rd x8_1 7) + (Go.bits .xor .i64 (Go.bits .xor .i64 t611 t612) t613))) + (Go.bits .xor .i64 (Go.bits .and .i64 (rd x8_1 4) (rd x8_1 5)) (Go.bits .and .i64 (Go.bits .xor .i64 4294967295 (rd x8_1 4)) (rd x8_1 6))))) + (rd l2 x9_1))) + (rd t601 x9_1))))) 4294967295, rd x8_1 4, rd x8_1 5, rd x8_1 6] : List Int)) (inner := [.int .i64 (Go.bits .and .i64 (wrap64 ((wrap64 ((wrap64 ((wrap64 ((wrap64 ((rd x8_1 7) + (Go.bits .xor .i64 (Go.bits .xor .i64 t611 t612) t613))) + (Go.bits .xor .i64 (Go.bits .and .i64 (rd x8_1 4) (rd x8_1 5)) (Go.bits .and .i64 (Go.bits .xor .i64 4294967295 (rd x8_1 4)) (rd x8_1 6))))) + (rd l2 x9_1))) + (rd t601 x9_1))) + (wrap64 ((Go.bits .xor .i64 (Go.bits .xor .i64 t620 t621) t622) + (Go.bits .xor .i64 (Go.bits .xor .i64 (Go.bits .and .i64 (rd x8_1 0) (rd x8_1 1)) (Go.bits .and .i64 (rd x8_1 0) (rd x8_1 2))) (Go.bits .and .i64 (rd x8_1 1) (rd x8_1 2))))))) 4294967295), .int .i64 (rd x8_1 0), .int .i64 (rd x8_1 1), .int .i64 (rd x8_1 2), .int .i64 (Go.bits .and .i64 (wrap64 ((rd x8_1 3) + (wrap64 ((wrap64 ((wrap64 ((wrap64 ((rd x8_1 7) + (Go.bits .xor .i64 (Go.bits .xor .i64 t611 t612) t613))) + (Go.bits .xor .i64 (Go.bits .and .i64 (rd x8_1 4) (rd x8_1 5)) (Go.bits .and .i64 (Go.bits .xor .i64 4294967295 (rd x8_1 4)) (rd x8_1 6))))) + (rd l2 x9_1))) + (rd t601 x9_1))))) 4294967295), .int .i64 (rd x8_1 4), .int .i64 (rd x8_1 5), .int .i64 (rd x8_1 6)]) (ok := fun _ => True) (okp := fun _ => True) ?hr ?hp (fun _ hk => hk) trivial (Below.refl _ _) (Nat.le_refl _) (by simp) ?_; (case hd => rfl); (case hg => rfl); (case hr => first | (go_simp; done) | (go_simp; rfl)); (case hp => exact (Reps.one (show Kd.M (Kd.int .i64) _ _ _ (Go.bits .and .i64 (wrap64 ((wrap64 ((wrap64 ((wrap64 ((wrap64 ((rd x8_1 7) + (Go.bits .xor .i64 (Go.bits .xor .i64 t611 t612) t613))) + (Go.bits .xor .i64 (Go.bits .and .i64 (rd x8_1 4) (rd x8_1 5)) (Go.bits .and .i64 (Go.bits .xor .i64 4294967295 (rd x8_1 4)) (rd x8_1 6))))) + (rd l2 x9_1))) + (rd t601 x9_1))) + (wrap64 ((Go.bits .xor .i64 (Go.bits .xor .i64 t620 t621) t622) + (Go.bits .xor .i64 (Go.bits .xor .i64 (Go.bits .and .i64 (rd x8_1 0) (rd x8_1 1)) (Go.bits .and .i64 (rd x8_1 0) (rd x8_1 2))) (Go.bits .and .i64 (rd x8_1 1) (rd x8_1 2))))))) 4294967295) [.int .i64 (Go.bits .and .i64 (wrap64 ((wrap64 ((wrap64 ((wrap64 ((wrap64 ((rd x8_1 7) + (Go.bits .xor .i64 (Go.bits .xor .i64 t611 t612) t613))) + (Go.bits .xor .i64 (Go.bits .and .i64 (rd x8_1 4) (rd x8_1 5)) (Go.bits .and .i64 (Go.bits .xor .i64 4294967295 (rd x8_1 4)) (rd x8_1 6))))) + (rd l2 x9_1))) + (rd t601 x9_1))) + (wrap64 ((Go.bits .xor .i64 (Go.bits .xor .i64 t620 t621) t622) + (Go.bits .xor .i64 (Go.bits .xor .i64 (Go.bits .and .i64 (rd x8_1 0) (rd x8_1 1)) (Go.bits .and .i64 (rd x8_1 0) (rd x8_1 2))) (Go.bits .and .i64 (rd x8_1 1) (rd x8_1 2))))))) 4294967295)] from rfl) (Reps.one (show Kd.M (Kd.int .i64) _ _ _ (rd x8_1 0) [.int .i64 (rd x8_1 0)] from rfl) (Reps.one (show Kd.M (Kd.int .i64) _ _ _ (rd x8_1 1) [.int .i64 (rd x8_1 1)] from rfl) (Reps.one (show Kd.M (Kd.int .i64) _ _ _ (rd x8_1 2) [.int .i64 (rd x8_1 2)] from rfl) (Reps.one (show Kd.M (Kd.int .i64) _ _ _ (Go.bits .and .i64 (wrap64 ((rd x8_1 3) + (wrap64 ((wrap64 ((wrap64 ((wrap64 ((rd x8_1 7) + (Go.bits .xor .i64 (Go.bits .xor .i64 t611 t612) t613))) + (Go.bits .xor .i64 (Go.bits .and .i64 (rd x8_1 4) (rd x8_1 5)) (Go.bits .and .i64 (Go.bits .xor .i64 4294967295 (rd x8_1 4)) (rd x8_1 6))))) + (rd l2 x9_1))) + (rd t601 x9_1))))) 4294967295) [.int .i64 (Go.bits .and .i64 (wrap64 ((rd x8_1 3) + (wrap64 ((wrap64 ((wrap64 ((wrap64 ((rd x8_1 7) + (Go.bits .xor .i64 (Go.bits .xor .i64 t611 t612) t613))) + (Go.bits .xor .i64 (Go.bits .and .i64 (rd x8_1 4) (rd x8_1 5)) (Go.bits .and .i64 (Go.bits .xor .i64 4294967295 (rd x8_1 4)) (rd x8_1 6))))) + (rd l2 x9_1))) + (rd t601 x9_1))))) 4294967295)] from rfl) (Reps.one (show Kd.M (Kd.int .i64) _ _ _ (rd x8_1 4) [.int .i64 (rd x8_1 4)] from rfl) (Reps.one (show Kd.M (Kd.int .i64) _ _ _ (rd x8_1 5) [.int .i64 (rd x8_1 5)] from rfl) (Reps.one (show Kd.M (Kd.int .i64) _ _ _ (rd x8_1 6) [.int .i64 (rd x8_1 6)] from rfl) (Reps.none _ _))))))))))
    intro v633 w34 ho35 hb hg_ hnew_
    have HS0_ := (hb.cell (World.block_lt_of_cell? _ _ (hHeld.1))).trans (hHeld.1)
    have HS1_ := (hb.cell (World.block_lt_of_cell? _ _ (hHeld.2.1))).trans (hHeld.2.1)
    have HS2_ := (hb.cell (World.block_lt_of_cell? _ _ (hHeld.2.2.1))).trans (hHeld.2.2.1)
    have HS3_ := (hb.cell (World.block_lt_of_cell? _ _ (hHeld.2.2.2.1))).trans (hHeld.2.2.2.1)
    have HS4_ := (hb.cell (World.block_lt_of_cell? _ _ (hHeld.2.2.2.2))).trans (hHeld.2.2.2.2)
    clear hg_ hnew_
    (first | rw [← Ny632.out] at ho35 | (simp only [Int.reduceToNat] at ho35; rw [← Ny632.out] at ho35))
    have HO634 := Aside0.mk (Kd.R_lower (Kd.R_new' (Kd.R_new' ho35 (lt_ HO_7)) (lt_ HO_8)) (sz_ HB))
    replace HO_7 := re_ HO_7 ho35 hb
    replace HO_8 := re_ HO_8 ho35 hb
    replace HB := ss_ HB hb
    clear hb ho35
    refine hK.out _ _ ⟨HS0_, HS1_, HS2_, HS3_, HS4_⟩ (fun hHeld => ?_)
    clear hK K
    refine no_ 125 ?_
    refine pt_ 25 8 67108863 ?_
    refine done_ (done_of HT_.out (by kernel_rfl)) ?_
    try go_wp2
    go_roundg k1
    case measure => have := HK1.out; omega
    case rel => exact ⟨(y632), (wrap64 (x9_1 + 1)), e1_, H', ⟨by have := HK1.out; omega⟩, ⟨by (with_reducible repeat (first | apply Kd.R_alloc | apply Kd.R_drewN | apply Kd.R_drew)); exact Kd.R_mono HO_7.out (fun _ hk => hk.2)⟩, ⟨by (with_reducible repeat (first | apply Kd.R_alloc | apply Kd.R_drewN | apply Kd.R_drew)); exact Kd.R_mono HO634.out (fun _ hk => hk.1.2)⟩, ⟨bw_ HB⟩⟩
   ·have H' := Aside0.mk H
    clear H
    go_wp2
    go_loopg [18] k1 (fun kq v18 w' => ∃ (x8_2 : List Int) (x18_2 : Int), v18 = .int .i64 x18_2 ∧ Aside0 (spec_l2Block.l1 kq l0 x8_2 x18_2 = some r) ∧ Aside0 (kq ≤ k1) ∧ Aside0 (Kd.R (Kd.int .i64) 3 w' w.heap.size (fun _ => True) u8 x8_2) ∧ Aside0 (Below w.heap.size w w'))
    case atStart => exact ⟨(x8_1), (0), e1_, H', ⟨Nat.le_refl _⟩, ⟨by (with_reducible repeat (first | apply Kd.R_alloc | apply Kd.R_drewN | apply Kd.R_drew)); exact Kd.R_mono HO_8.out (fun _ hk => trivial)⟩, ⟨bw_ HB⟩⟩
    case round =>
     clear H'
     try clear c1
     try clear c2
     try clear p2
     try clear c10b0
     obtain ⟨x8_2, x18_2, rfl, HA, HK2, HO_8, HB⟩ := hrel
     cases gk with
     | zero => exact absurd HA.out (by simp [spec_l2Block.l1])
     | succ k2 =>
      have H := HA.out
      clear HA
      simp only [spec_l2Block.l1] at H
      replace H := itd_ H; obtain ⟨c36b0, H⟩ | ⟨c36b0, H⟩ := H
      ·replace H := ipd_ H; obtain ⟨c37b0, H⟩ := H
       replace H := ipd_ H; obtain ⟨c38b0, H⟩ := H
       replace H := ipd_ H; obtain ⟨c39b0, H⟩ := H
       obtain ⟨y637, hy637⟩ : ∃ y_ : List Int, y_ = (x8_2.set (x18_2 : Int).toNat (Go.bits .and .i64 (wrap64 ((rd x8_2 x18_2) + (rd l0 x18_2))) 4294967295)) := ⟨_, rfl⟩
       replace H : (spec_l2Block.l1 k2 l0 y637 (wrap64 (x18_2 + 1))) = some r := yh_ hy637 H
       have Ny637 := Aside0.mk hy637
       clear hy637
       have H' := Aside0.mk H
       clear H
       try go_wp2
       replace HO_8 := Aside0.mk (Kd.R_drew HO_8.out)
       replace HB := Aside0.mk (below_drew1 HB.out)
       obtain ⟨Ao42, co42, eo42⟩ := Kd.R_slice HO_8.out
       (first | subst eo42 | (injection eo42 with f1_ f2_ f3_; have f4_ := f1_.symm; have f5_ := f3_.symm; clear f1_ f2_ f3_; subst f4_; subst f5_))
       obtain ⟨ad635, e635, hx635_0, p635, q635⟩ := ai_ (Kd.R_reads' HO_8.out).2.2 x18_2
       cases e635
       have p636 : 0 ≤ (x18_2 : Int) := of_decide_eq_true as_
       have q636 : x18_2 < (l0.length : Int) := of_decide_eq_true as_
       obtain ⟨ad636, e636, hx636_0⟩ := Kd.at_int HR0.out x18_2 p636 q636
       have hw636_0 := hx636_0
       cases e636
       replace hx636_0 := cw_ HB hx636_0
       replace p636 := eq_true p636
       replace q636 := eq_true q636
       have p40 : 0 ≤ (x18_2 : Int) := of_decide_eq_true as_
       have q40 : (x18_2 : Int) < ((x8_2.length : Int) : Int) := of_decide_eq_true as_
       obtain ⟨go40, co40, eo40, gb40, gl40, cl40, HG40⟩ := Kd.R_form HO_8.out (by omega)
       (first | cases eo40 | (injection eo40 with ea_ en_ ec_; (first | subst ea_ | (injection ea_ with ea_; subst ea_)); subst ec_; clear en_))
       have GB40 := Aside0.mk gb40
       have GG40 := Aside0.mk HG40
       clear gb40 gl40 HG40
       (first | simp only [add_plain] at hx635_0 | skip)
       obtain ⟨hx40_0, hf40_0⟩ := Kd.R_celln 0 HO_8.out (x18_2 : Int) p40 q40
       replace p40 := eq_true p40
       replace q40 := eq_true q40
       have HP43 := Kd.R_putn HO_8.out (x18_2 : Int) (Go.bits .and .i64 (wrap64 ((rd x8_2 x18_2) + (rd l0 x18_2))) 4294967295)
       rw [← Ny637.out] at HP43
       have HQ43 := Aside0.mk HP43
       clear HP43
       refine start_ (n := 14) (S := fun w' => w'.cell? ⟨go40, (x18_2).toNat, none⟩ = some (.int .i64 (rd x8_2 x18_2)) ∧ w'.cell? (ad636.add (x18_2).toNat) = some (.int .i64 (rd l0 x18_2))) (ds := [13]) (lz_ 14 0) (by kernel_rfl) rfl rfl ⟨hx635_0, (cw_ HB hw636_0)⟩ (fun hHeld => ?_); refine with_tabW spec_l2Block.tab18 spec_l2Block.bits18 (fun HT_ HW_ => ?_)
       generalize wr.drew = w41 at HO_8 HB GG40 HQ43 hf40_0 hx40_0 hx635_0 hx636_0 hHeld ⊢
       refine pt_ 0 130 1 ?_
       refine pt_ 1 131 3 ?_
       refine pt_ 2 132 7 ?_
       refine pt_ 3 133 15 ?_
       refine pt_ 4 134 31 ?_
       refine pt_ 6 136 95 ?_
       refine pt_ 7 137 223 ?_
       refine pt_ 8 138 479 ?_
       refine tt_ 5 135 511 ?_
       refine tt_ 9 139 1023 ?_
       refine pt_ 10 140 2047 ?_
       refine pt_ 11 141 4095 ?_
       refine pt_ 12 142 8191 ?_
       refine last_ (i := 13) (N := none) (lz_ 14 16383) rfl rfl (one_of HT_.out (by kernel_rfl)) (by decide) (fun K hK => ?_)
       refine skip_ (w1 := ?_) (by rfl) rfl ?_ ?_
       rotate_left
       ·go_simp
        rfl
       refine hK.out _ _ ?_
       clear hK K
       refine done_ (done_of HT_.out (by kernel_rfl)) ?_
       try go_wp2
       go_roundg k2
       case measure => have := HK1.out; have := HK2.out; omega
       case rel => exact ⟨(y637), (wrap64 (x18_2 + 1)), e1_, H', ⟨by have := HK1.out; have := HK2.out; omega⟩, ⟨kr_ HQ43.out⟩, ⟨bw_ HB⟩⟩
      ·obtain rfl := Option.some.inj H
       go_wp2
       go_ret
       exact ⟨_, e2_, kr_ HO_8.out, bw_ HB⟩
mutual
def spec_Digest.l0 : Nat → List Int → List Int → List Int → Int → Option (ByteArray)
 | 0, _, _, _, _ => none
 | k + 1, x3, x4, x5, x6 => if x6 < (x3.length : Int) then (if 0 ≤ x6 then (if x6 ≤ (wrap64 (x6 + 64)) then (if (wrap64 (x6 + 64)) ≤ (x3.length : Int) then ((spec_l2Block.f k x4 ((x3.take ((wrap64 (x6 + 64)) : Int).toNat).drop (x6 : Int).toNat) x5).bind fun t614 => (spec_Digest.l0 k x3 t614 x5 (wrap64 (x6 + 64)))) else (none)) else (none)) else (none)) else (spec_Digest.l1 k x4 (([] : List Int)) 0)
def spec_Digest.l1 : Nat → List Int → List Int → Int → Option (ByteArray)
 | 0, _, _, _ => none
 | k + 1, x4, x7, x8 => if x8 < 8 then (if 0 ≤ x8 then (if x8 < (x4.length : Int) then ((some (([((rd x4 x8) / 16777216) % 256, ((rd x4 x8) / 65536) % 256, ((rd x4 x8) / 256) % 256, (rd x4 x8) % 256] : List Int) : List Int)).bind fun y624 => (if x7.length + y624.length < 140737488355328 then (spec_Digest.l1 k x4 (x7 ++ y624) (wrap64 (x8 + 1))) else (none))) else (none)) else (none)) else (some (strOfNums x7))
end
def spec_Digest.f (k : Nat) (l0 : List Int) : Option (ByteArray) := (spec_Padded.f k l0).bind fun t601 => ((spec_l2K.f).bind fun t607 => (spec_Digest.l0 k t601 (([1779033703, 3144134277, 1013904242, 2773480762, 1359893119, 2600822924, 528734635, 1541459225] : List Int)) t607 0))
def spec_Digest.T12 : Bool × List (List Nat × List Nat) := (true, [([], []), ([], []), ([], []), ([1, 2], [1, 2]), ([3], [3]), ([4], [4]), ([5], [5]), ([], []), ([], []), ([7, 8], [7, 8]), ([9], [9]), ([10], [10]), ([11], [11]), ([], []), ([], []), ([13, 14], [13, 14]), ([15], [15]), ([16], [16]), ([17], [17]), ([], []), ([], []), ([19, 20], [19, 20]), ([21], [21]), ([22], [22]), ([6, 12, 18, 23], [6, 12, 18, 23]), ([0, 24], [0, 24]), ([25, 25, 0, 1, 2, 3, 4, 5, 6, 7, 8, 9, 10, 11, 12, 13, 14, 15, 16, 17, 18, 19, 20, 21, 22, 23, 24, 25], [0, 25])])
def spec_Digest.B12 : List Nat := [0, 0, 0, 6, 14, 30, 62, 0, 0, 384, 896, 1920, 3968, 0, 0, 24576, 57344, 122880, 253952, 0, 0, 1572864, 3670016, 7864320, 16777214, 33554431, 67108863]
theorem spec_Digest.tab12 : rtab .any (opsOf Tryz.f119 12) = spec_Digest.T12 := by kernel_rfl
theorem spec_Digest.bits12 : waitsOk spec_Digest.T12.2 spec_Digest.B12 = true := by kernel_rfl
set_option maxHeartbeats 8000000 in
set_option maxRecDepth 100000 in
theorem spec_Digest.calls (k : Nat) (A0 : Option Addr) (c0 : Nat) (l0 : List Int) (r : ByteArray) (w : World) (hr0 : Kd.C (Kd.int .u8) w A0 l0.length l0) (hc0 : l0.length ≤ c0) (h : spec_Digest.f k l0 = some r) :
  Calls Tryz.prog 119 #[.slice A0 l0.length c0] w fun e w' => e = .returned (.string r) ∧ Below w.heap.size w w' := by
 have HR0 := Aside0.mk hr0
 have HC0 := Aside0.mk hc0
 clear hr0 hc0
 have HB := Aside0.mk (Below.refl w.heap.size w)
 have H : ((spec_Padded.f k l0).bind fun t601 => ((spec_l2K.f).bind fun t607 => (spec_Digest.l0 k t601 (([1779033703, 3144134277, 1013904242, 2773480762, 1359893119, 2600822924, 528734635, 1541459225] : List Int)) t607 0))) = some r := h
 clear h
 replace H := bi_ H; obtain ⟨t601, A2, H⟩ := H
 obtain ⟨y604, hy604⟩ : ∃ y_ : List Int, y_ = (([1779033703, 3144134277, 1013904242, 2773480762, 1359893119, 2600822924, 528734635, 1541459225] : List Int)) := ⟨_, rfl⟩
 replace H : ((spec_l2K.f).bind fun t607 => (spec_Digest.l0 k t601 y604 t607 0)) = some r := yh_ hy604 H
 have Ny604 := Aside0.mk hy604
 clear hy604
 replace H := bi_ H; obtain ⟨t607, A3, H⟩ := H
 have H' := Aside0.mk H
 clear H
 go_enter Tryz.func119, Tryz.ntmps119
 go_wp2_with (first | ((with_reducible refine gq_ 140 10 ?_); refine gc_ 10 Tryz.func140 (spec_Padded.calls k _ _ l0 t601 _ (cr_ HR0.out) HC0.out A2.out) ?_; rintro e w4 ⟨v602, rfl, ho0, hb⟩; refine ⟨_, rfl, ?_⟩; have HO603 := Aside0.mk (Kd.R_lower ho0 (sz_ HB)); replace HB := ss_ HB hb; clear hb ho0) | ((with_reducible refine gd_ 11 ?_); refine rl_ (Kd.int .i64) 3 11 ([1779033703, 3144134277, 1013904242, 2773480762, 1359893119, 2600822924, 528734635, 1541459225] : List Int) [.int .i64 1779033703, .int .i64 3144134277, .int .i64 1013904242, .int .i64 2773480762, .int .i64 1359893119, .int .i64 2600822924, .int .i64 528734635, .int .i64 1541459225] ?_; intro v605 w5 ho6 hb hg_ hnew_; clear hg_ hnew_; (first | rw [← Ny604.out] at ho6 | (simp only [Int.reduceToNat] at ho6; rw [← Ny604.out] at ho6)); replace HO603 := rb_ HO603 hb; have HO606 := Aside0.mk (Kd.R_lower ho6 (sz_ HB)); replace HB := ss_ HB hb; clear hb ho6) | ((with_reducible refine gq_ 141 12 ?_); refine gc_ 12 Tryz.func141 (spec_l2K.calls  t607 _ A3.out) ?_; rintro e w7 ⟨v608, rfl, ho0, hb⟩; refine ⟨_, rfl, ?_⟩; replace HO603 := rb_ HO603 hb; have HO609 := Aside0.mk (Kd.R_lower (Kd.R_new' ho0 (lt_ HO606)) (sz_ HB)); replace HO606 := re_ HO606 ho0 hb; replace HB := ss_ HB hb; clear hb ho0))
 go_loopg [4, 6] k (fun kq v4 v6 w' => ∃ (x4_1 : List Int) (x6_1 : Int), v6 = .int .i64 x6_1 ∧ Aside0 (spec_Digest.l0 kq t601 x4_1 t607 x6_1 = some r) ∧ Aside0 (kq ≤ k) ∧ Aside0 (Kd.R (Kd.int .u8) 5 w' w.heap.size (fun _ => True) v602 t601) ∧ Aside0 (Kd.R (Kd.int .i64) 3 w' w.heap.size (fun k_ => some k_ ≠ (v608 : Value).ownBlock) v4 x4_1) ∧ Aside0 (Kd.R (Kd.int .i64) 3 w' w.heap.size (fun k_ => some k_ ≠ (v4 : Value).ownBlock) v608 t607) ∧ Aside0 (Below w.heap.size w w'))
 case atStart => exact ⟨(y604), (0), e1_, H', ⟨Nat.le_refl _⟩, ⟨kr_ HO603.out⟩, ⟨by (with_reducible repeat (first | apply Kd.R_alloc | apply Kd.R_drewN | apply Kd.R_drew)); exact Kd.R_mono HO606.out (fun _ hk => hk.2)⟩, ⟨by (with_reducible repeat (first | apply Kd.R_alloc | apply Kd.R_drewN | apply Kd.R_drew)); exact Kd.R_mono HO609.out (fun _ hk => hk.2)⟩, ⟨bw_ HB⟩⟩
 case round =>
  clear H'
  obtain ⟨x4_1, x6_1, rfl, HA, HK1, HO_3, HO_4, HO_5, HB⟩ := hrel
  cases gk with
  | zero => exact absurd HA.out (by simp [spec_Digest.l0])
  | succ k1 =>
   have H := HA.out
   clear HA
   simp only [spec_Digest.l0] at H
   replace H := itd_ H; obtain ⟨c8b0, H⟩ | ⟨c8b0, H⟩ := H
   ·replace H := ip_ H; obtain ⟨c9, H⟩ := H
    have c9b0 := eq_true c9
    have c9b1 := decide_eq_true c9
    clear c9
    replace H := ip_ H; obtain ⟨c10, H⟩ := H
    have c10b0 := eq_true c10
    have c10b1 := decide_eq_true c10
    replace H := ip_ H; obtain ⟨c11, H⟩ := H
    have c11b0 := eq_true c11
    have c11b1 := decide_eq_true c11
    obtain ⟨y610, hy610⟩ : ∃ y_ : List Int, y_ = ((t601.take ((wrap64 (x6_1 + 64)) : Int).toNat).drop (x6_1 : Int).toNat) := ⟨_, rfl⟩
    replace H : ((spec_l2Block.f k1 x4_1 y610 t607).bind fun t614 => (spec_Digest.l0 k1 t601 t614 t607 (wrap64 (x6_1 + 64)))) = some r := yh_ hy610 H
    have Ny610 := Aside0.mk hy610
    clear hy610
    replace H := bi_ H; obtain ⟨t614, A12, H⟩ := H
    have H' := Aside0.mk H
    clear H
    obtain ⟨Ao13, co13, eo13⟩ := Kd.R_slice HO_3.out
    subst eo13
    have q14 : ((wrap64 (x6_1 + 64)) : Int) ≤ ((t601.length : Int) : Int) := of_decide_eq_true as_
    obtain ⟨i014, hi014, _, hsz14, _⟩ := info_parts info5
    have hroom14 : t601.length ≤ co13 := (cl_ HO_3)
    have hC14 : Kd.C (Kd.int .u8) _ Ao13 t601.length t601 := (Kd.R_reads' HO_3.out).2.2
    have ql14 : (x6_1 : Int) ≤ ((wrap64 (x6_1 + 64)) : Int) := of_decide_eq_true as_
    have q014 : (0 : Int) ≤ (x6_1 : Int) := of_decide_eq_true as_
    have hcut14 := cut_mid (P := Tryz.prog) 27 5 .i64 .i64 Tryz.underlying27 hi014 1 hsz14 Ao13 t601.length co13 x6_1 (wrap64 (x6_1 + 64)) q014 ql14 q14 hroom14
    have hr14 := Kd.C_mid (lo := (x6_1 : Int).toNat) (hi := ((wrap64 (x6_1 + 64)) : Int).toNat) (c := co13) hC14 (by omega) (by omega) hroom14
    obtain ⟨A14, hA14⟩ : ∃ A1, A1 = (if co13 = (x6_1 : Int).toNat then Ao13 else (Ao13 : Option Addr).map (·.add ((x6_1 : Int).toNat * 1))) := ⟨_, rfl⟩
    obtain ⟨c14, hc14⟩ : ∃ c1, c1 = co13 - (x6_1 : Int).toNat := ⟨_, rfl⟩
    have hy14 : y610.length = ((wrap64 (x6_1 + 64)) : Int).toNat - (x6_1 : Int).toNat := (by rw [Ny610.out, List.length_drop, List.length_take] <;> omega)
    rw [show ((t601).take ((wrap64 (x6_1 + 64)) : Int).toNat).drop (x6_1 : Int).toNat = y610 from Ny610.out.symm] at hr14
    replace hr14 : Kd.C (Kd.int .u8) _ A14 y610.length y610 := (by rw [hA14]; exact hr14)
    rw [← hy14, ← hA14, ← hc14] at hcut14
    have HR613 := Aside0.mk hr14
    have HC613 := Aside0.mk (show y610.length ≤ c14 from by rw [hy14, hc14]; exact Nat.sub_le_sub_right (Nat.le_trans (by omega) hroom14) _)
    clear hr14 hC14 hroom14 hi014 hsz14 hc14
    have KY14 := Aside0.mk hy14
    have KA14 := Aside0.mk hA14
    clear hy14 hA14
    have KL14 := Aside0.mk (show ((wrap64 (x6_1 + 64)) : Int).toNat ≤ t601.length from by omega)
    have KM14 := Aside0.mk (show (x6_1 : Int).toNat ≤ ((wrap64 (x6_1 + 64)) : Int).toNat from by omega)
    replace q14 := eq_true q14
    obtain ⟨Ao15, co15, eo15⟩ := Kd.R_slice HO_4.out
    subst eo15
    obtain ⟨Ao16, co16, eo16⟩ := Kd.R_slice HO_5.out
    subst eo16
    go_wp2_with (first | ((with_reducible refine gk_ 142 ?_); refine gl_ 26 Tryz.func142 #[.slice Ao15 x4_1.length co15, .slice A14 y610.length c14, .slice Ao16 t607.length co16] ?_; (with_reducible refine (spec_l2Block.calls k1 _ _ x4_1 _ _ y610 _ _ t607 t614 _ ?side1 ?side2 ?side3 ?side4 ?side5 ?side6 A12.out).mono ?_); (case side1 => exact ch_ HO_4); (case side2 => exact (cl_ HO_4)); (case side3 => exact cr_ (by repeat (first | (with_reducible exact HR613.out) | (with_reducible refine Kd.C_alloc ?_ _) | (with_reducible refine Kd.C_drewN ?_ _) | (with_reducible refine Kd.C_drew ?_) | exact HR613.out))); (case side4 => exact HC613.out); (case side5 => exact ch_ HO_5); (case side6 => exact (cl_ HO_5)); rintro e w17 ⟨v615, rfl, ho0, hb⟩; refine ⟨_, rfl, ?_⟩; replace HO_3 := rb_ HO_3 hb; have HO616 := Aside0.mk (Kd.R_lower (Kd.R_new' (Kd.R_new' ho0 (lt_ HO_4)) (lt_ HO_5)) (sz_ HB)); replace HO_4 := re_ HO_4 ho0 hb; replace HO_5 := re_ HO_5 ho0 hb; replace HR613 := Aside0.mk (Kd.C_below (by repeat (first | (with_reducible exact HR613.out) | (with_reducible refine Kd.C_alloc ?_ _) | (with_reducible refine Kd.C_drewN ?_ _) | (with_reducible refine Kd.C_drew ?_) | exact HR613.out)) hb); replace HB := ss_ HB hb; clear hb ho0))
    go_roundg k1
    case measure => have := HK1.out; omega
    case rel => exact ⟨(t614), (wrap64 (x6_1 + 64)), e1_, H', ⟨by have := HK1.out; omega⟩, ⟨kr_ HO_3.out⟩, ⟨by (with_reducible repeat (first | apply Kd.R_alloc | apply Kd.R_drewN | apply Kd.R_drew)); exact Kd.R_mono HO616.out (fun _ hk => hk.2)⟩, ⟨by (with_reducible repeat (first | apply Kd.R_alloc | apply Kd.R_drewN | apply Kd.R_drew)); exact Kd.R_mono HO_5.out (fun _ hk => hk.2)⟩, ⟨bw_ HB⟩⟩
   ·obtain ⟨y617, hy617⟩ : ∃ y_ : List Int, y_ = (([] : List Int)) := ⟨_, rfl⟩
    replace H : (spec_Digest.l1 k1 x4_1 y617 0) = some r := yh_ hy617 H
    have Ny617 := Aside0.mk hy617
    clear hy617
    have H' := Aside0.mk H
    clear H
    obtain ⟨Ao18, co18, eo18⟩ := Kd.R_slice HO_3.out
    subst eo18
    go_wp2_with (first | ((with_reducible refine gd_ 27 ?_); refine rl_ (Kd.int .u8) 5 27 ([] : List Int) [] ?_; intro v618 w19 ho20 hb hg_ hnew_; clear hg_ hnew_; (first | rw [← Ny617.out] at ho20 | (simp only [Int.reduceToNat] at ho20; rw [← Ny617.out] at ho20)); replace HO_4 := rb_ HO_4 hb; replace HO_5 := rb_ HO_5 hb; have HO619 := Aside0.mk (Kd.R_lower (Kd.R_new' ho20 (lt_ HO_3)) (sz_ HB)); replace HO_3 := re_ HO_3 ho20 hb; replace HB := ss_ HB hb; clear hb ho20))
    go_loopg [7, 8] k1 (fun kq v7 v8 w' => ∃ (x7_2 : List Int) (x8_2 : Int), v8 = .int .i64 x8_2 ∧ Aside0 (spec_Digest.l1 kq x4_1 x7_2 x8_2 = some r) ∧ Aside0 (kq ≤ k1) ∧ Aside0 (Kd.R (Kd.int .i64) 3 w' w.heap.size (fun _ => True) u4 x4_1) ∧ Aside0 (Kd.R (Kd.int .u8) 5 w' w.heap.size (fun _ => True) v7 x7_2) ∧ Aside0 (Below w.heap.size w w'))
    case atStart => exact ⟨(y617), (0), e1_, H', ⟨Nat.le_refl _⟩, ⟨by (with_reducible repeat (first | apply Kd.R_alloc | apply Kd.R_drewN | apply Kd.R_drew)); exact Kd.R_mono HO_4.out (fun _ hk => trivial)⟩, ⟨by (with_reducible repeat (first | apply Kd.R_alloc | apply Kd.R_drewN | apply Kd.R_drew)); exact Kd.R_mono HO619.out (fun _ hk => trivial)⟩, ⟨bw_ HB⟩⟩
    case round =>
     clear H'
     try clear c1
     try clear p2
     try clear c8b0
     obtain ⟨x7_2, x8_2, rfl, HA, HK2, HO_4, HO_7, HB⟩ := hrel
     cases gk with
     | zero => exact absurd HA.out (by simp [spec_Digest.l1])
     | succ k2 =>
      have H := HA.out
      clear HA
      simp only [spec_Digest.l1] at H
      replace H := itd_ H; obtain ⟨c21b0, H⟩ | ⟨c21b0, H⟩ := H
      ·replace H := ipd_ H; obtain ⟨c22b0, H⟩ := H
       replace H := ipd_ H; obtain ⟨c23b0, H⟩ := H
       obtain ⟨y624, Ny624, H⟩ := sb_ (([((rd x4_1 x8_2) / 16777216) % 256, ((rd x4_1 x8_2) / 65536) % 256, ((rd x4_1 x8_2) / 256) % 256, (rd x4_1 x8_2) % 256] : List Int)) H
       replace H := ip_ H; obtain ⟨c24, H⟩ := H
       have LMc24 := Aside0.mk c24
       clear c24
       obtain ⟨y627, hy627⟩ : ∃ y_ : List Int, y_ = (x7_2 ++ y624) := ⟨_, rfl⟩
       replace H : (spec_Digest.l1 k2 x4_1 y627 (wrap64 (x8_2 + 1))) = some r := yh_ hy627 H
       have Ny627 := Aside0.mk hy627
       clear hy627
       have H' := Aside0.mk H
       clear H
       try go_wp2
       replace HO_4 := Aside0.mk (Kd.R_drew HO_4.out)
       replace HO_7 := Aside0.mk (Kd.R_drew HO_7.out)
       replace HB := Aside0.mk (below_drew1 HB.out)
       obtain ⟨Ao26, co26, eo26⟩ := Kd.R_slice HO_4.out
       (first | subst eo26 | (injection eo26 with f1_ f2_ f3_; have f4_ := f1_.symm; have f5_ := f3_.symm; clear f1_ f2_ f3_; subst f4_; subst f5_))
       obtain ⟨ad620, e620, hx620_0, p620, q620⟩ := ai_ (Kd.R_reads' HO_4.out).2.2 x8_2
       cases e620
       have p621 : 0 ≤ (x8_2 : Int) := of_decide_eq_true as_
       have q621 : x8_2 < (x4_1.length : Int) := of_decide_eq_true as_
       obtain ⟨ad621, e621, hx621_0⟩ := Kd.at_int (Kd.R_reads' HO_4.out).2.2 x8_2 p621 q621
       obtain rfl : ad620 = ad621 := (by injection e621)
       replace p621 := eq_true p621
       replace q621 := eq_true q621
       have p622 : 0 ≤ (x8_2 : Int) := of_decide_eq_true as_
       have q622 : x8_2 < (x4_1.length : Int) := of_decide_eq_true as_
       obtain ⟨ad622, e622, hx622_0⟩ := Kd.at_int (Kd.R_reads' HO_4.out).2.2 x8_2 p622 q622
       obtain rfl : ad620 = ad622 := (by injection e622)
       replace p622 := eq_true p622
       replace q622 := eq_true q622
       have p623 : 0 ≤ (x8_2 : Int) := of_decide_eq_true as_
       have q623 : x8_2 < (x4_1.length : Int) := of_decide_eq_true as_
       obtain ⟨ad623, e623, hx623_0⟩ := Kd.at_int (Kd.R_reads' HO_4.out).2.2 x8_2 p623 q623
       obtain rfl : ad620 = ad623 := (by injection e623)
       replace p623 := eq_true p623
       replace q623 := eq_true q623
       refine start_ (n := 27) (S := fun w' => w'.cell? (ad620.add (x8_2).toNat) = some (.int .i64 (rd x4_1 x8_2)) ∧ w'.cell? (ad620.add (x8_2).toNat) = some (.int .i64 (rd x4_1 x8_2)) ∧ w'.cell? (ad620.add (x8_2).toNat) = some (.int .i64 (rd x4_1 x8_2)) ∧ w'.cell? (ad620.add (x8_2).toNat) = some (.int .i64 (rd x4_1 x8_2))) (ds := [25]) (lz_ 27 0) (by kernel_rfl) rfl rfl ⟨hx620_0, hx621_0, hx622_0, hx623_0⟩ (fun hHeld => ?_); refine with_tabW spec_Digest.tab12 spec_Digest.bits12 (fun HT_ HW_ => ?_)
       generalize wr.drew = w25 at HO_4 HO_7 HB hx620_0 hx621_0 hx622_0 hx623_0 hHeld ⊢
       refine pt_ 0 32 1 ?_
       refine pt_ 1 33 3 ?_
       refine pt_ 2 34 7 ?_
       refine pt_ 3 35 15 ?_
       refine pt_ 7 39 143 ?_
       refine pt_ 8 40 399 ?_
       refine pt_ 9 41 911 ?_
       refine pt_ 13 45 9103 ?_
       refine pt_ 14 46 25487 ?_
       refine pt_ 15 47 58255 ?_
       refine pt_ 19 51 582543 ?_
       refine pt_ 20 52 1631119 ?_
       refine pt_ 21 53 3728271 ?_
       refine tt_ 4 36 3728287 ?_
       refine pt_ 5 37 3728319 ?_
       refine pt_ 6 38 3728383 ?_
       refine tt_ 10 42 3729407 ?_
       refine pt_ 11 43 3731455 ?_
       refine pt_ 12 44 3735551 ?_
       refine tt_ 16 48 3801087 ?_
       refine pt_ 17 49 3932159 ?_
       refine pt_ 18 50 4194303 ?_
       refine tt_ 22 54 8388607 ?_
       refine pt_ 23 55 16777215 ?_
       refine one_ (i := 24) (N := some 56) (lz_ 27 33554431) rfl rfl (one_of HT_.out (by kernel_rfl)) (by decide) (fun K hK => ?_)
       refine Kd.R_lit_step (Kd.int .u8) _ 5 ?hg (N := 56) ?hd (xs := ([((rd x4_1 x8_2) / 16777216) % 256, ((rd x4_1 x8_2) / 65536) % 256, ((rd x4_1 x8_2) / 256) % 256, (rd x4_1 x8_2) % 256] : List Int)) (inner := [.int .u8 (((rd x4_1 x8_2) / 16777216) % 256), .int .u8 (((rd x4_1 x8_2) / 65536) % 256), .int .u8 (((rd x4_1 x8_2) / 256) % 256), .int .u8 ((rd x4_1 x8_2) % 256)]) (ok := fun _ => True) (okp := fun _ => True) ?hr ?hp (fun _ hk => hk) trivial (Below.refl _ _) (Nat.le_refl _) (by simp) ?_; (case hd => rfl); (case hg => rfl); (case hr => first | (go_simp; done) | (go_simp; rfl)); (case hp => exact (Reps.one (show Kd.M (Kd.int .u8) _ _ _ (((rd x4_1 x8_2) / 16777216) % 256) [.int .u8 (((rd x4_1 x8_2) / 16777216) % 256)] from rfl) (Reps.one (show Kd.M (Kd.int .u8) _ _ _ (((rd x4_1 x8_2) / 65536) % 256) [.int .u8 (((rd x4_1 x8_2) / 65536) % 256)] from rfl) (Reps.one (show Kd.M (Kd.int .u8) _ _ _ (((rd x4_1 x8_2) / 256) % 256) [.int .u8 (((rd x4_1 x8_2) / 256) % 256)] from rfl) (Reps.one (show Kd.M (Kd.int .u8) _ _ _ ((rd x4_1 x8_2) % 256) [.int .u8 ((rd x4_1 x8_2) % 256)] from rfl) (Reps.none _ _))))))
       intro v625 w27 ho28 hb hg_ hnew_
       have HS0_ := (hb.cell (World.block_lt_of_cell? _ _ (hHeld.1))).trans (hHeld.1)
       have HS1_ := (hb.cell (World.block_lt_of_cell? _ _ (hHeld.2.1))).trans (hHeld.2.1)
       have HS2_ := (hb.cell (World.block_lt_of_cell? _ _ (hHeld.2.2.1))).trans (hHeld.2.2.1)
       have HS3_ := (hb.cell (World.block_lt_of_cell? _ _ (hHeld.2.2.2))).trans (hHeld.2.2.2)
       clear hg_ hnew_
       (first | rw [← Ny624.out] at ho28 | (simp only [Int.reduceToNat] at ho28; rw [← Ny624.out] at ho28))
       replace HO_4 := rb_ HO_4 hb
       have HO626 := Aside0.mk (Kd.R_lower (Kd.R_new' ho28 (lt_ HO_7)) (sz_ HB))
       replace HO_7 := re_ HO_7 ho28 hb
       replace HB := ss_ HB hb
       clear hb ho28
       obtain ⟨Ao30, co30, eo30⟩ := Kd.R_slice HO626.out
       (first | subst eo30 | (injection eo30 with f1_ f2_ f3_; have f4_ := f1_.symm; have f5_ := f3_.symm; clear f1_ f2_ f3_; subst f4_; subst f5_))
       refine hK.out _ _ ⟨HS0_, HS1_, HS2_, HS3_⟩ (fun hHeld => ?_)
       clear hK K
       refine no_ 56 ?_
       refine last_ (i := 25) (N := some 57) (lz_ 27 67108863) rfl rfl (one_of HT_.out (by kernel_rfl)) (by decide) (fun K hK => ?_)
       refine Kd.R_append_rows_step (Kd.int .u8) (w0 := w) w.heap.size (by rfl) (.tmp 32) (.tmp 56) 27 5 (.int .u8 0) 1 rfl Tryz.underlying27 info5 rfl (by decide) (by omega) u7 x7_2 y624 _ _ _ (fun k_ => some k_ ≠ (.slice Ao30 y624.length co30 : Value).ownBlock) (fun _ => False) rfl rfl ?aO ?aR (fun _ _ h => h) (fun _ h => h.elim) ?aF ?aB ?aS ?aL ?_
       (case aR => repeat (first | exact (Kd.R_reads' HO626.out).2.2 | (with_reducible refine Kd.C_alloc ?_ _) | (with_reducible refine Kd.C_drewN ?_ _) | (with_reducible refine Kd.C_drew ?_)))
       (case aB => exact (bw_ HB))
       (case aF => exact (fun k_ hk => Kd.fresh' (lt_ HO626) k_ hk))
       (case aO => exact (kr_ (Kd.R_mono HO_7.out (fun _ hk => hk.2))))
       (case aS => exact (sz_ HB))
       (case aL => have := LMc24.out; omega)
       intro v628 w29 ho hb hg hat
       rw [← Ny627.out] at ho
       replace HO_4 := Aside0.mk (Kd.R_over' (kr_ HO_4.out) (Kd.R_typed (kr_ HO_7.out)) (by decide) hg)
       replace HO626 := Aside0.mk (Kd.R_after (ok := (fun _ => True)) (kr_ HO626.out) hg hat)
       replace HB := Aside0.mk hb
       have HO629 := Aside0.mk ho
       clear HO_7
       clear ho hb hg hat
       refine hK.out _ _ ?_
       clear hK K
       refine no_ 57 ?_
       refine pt_ 26 7 134217727 ?_
       refine done_ (done_of HT_.out (by kernel_rfl)) ?_
       try go_wp2
       go_roundg k2
       case measure => have := HK1.out; have := HK2.out; omega
       case rel => exact ⟨(y627), (wrap64 (x8_2 + 1)), e1_, H', ⟨by have := HK1.out; have := HK2.out; omega⟩, ⟨kr_ HO_4.out⟩, ⟨by (with_reducible repeat (first | apply Kd.R_alloc | apply Kd.R_drewN | apply Kd.R_drew)); exact Kd.R_mono HO629.out (fun _ hk => trivial)⟩, ⟨bw_ HB⟩⟩
      ·obtain rfl := Option.some.inj H
       have hcv31 := own_string (P := Tryz.prog) Tryz.underlying27 Tryz.underlying5 Tryz.underlying9 (Kd.own_of_R HO_7.out)
       go_wp2
       go_ret
       exact ⟨e2_, bw_ HB⟩
end Go.Proofs.YtnlndmoecljicaaGreat.Q
end
