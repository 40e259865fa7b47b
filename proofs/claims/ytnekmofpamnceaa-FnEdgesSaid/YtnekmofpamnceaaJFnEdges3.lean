-- Joined by a program of this session (wip/tools/merge.py): texts of mine and of pp.sh.
import Derived.Test.YtnekmofpamnceaaJFnEdges2
import Derived.Test.YtnekmofpamnceaaJB3
section
-- Written by a program of this session (wip/tools/pp.sh) over the print of the kit.
namespace Go.Proofs.Ytnekmofpamnceaa.Q
open Go.RowKit Go.Proofs.YtnekmofpamnceaaW.PrintWords Go.Proofs.YtnekmofpamnceaaW.PrintLast Go.Proofs.YtnekmofpamnceaaW.PrintMore
attribute [local go_sem] max2_int min2_int max_two min_two max_three min_three max_four min_four   -- for this text's walks alone
set_option linter.unusedVariables false
set_option linter.unusedSimpArgs false

/-! ### laws_FnEdges: function 5 -/
def laws_FnEdges.j0 : Nat → List ByteArray → Bool → Int → List ByteArray → Int → List ByteArray → Option (Bool)
  | 0, _, _, _, _, _, _ => none
  | k + 1, x3, x74, x611000, x611001, x635000, x635001 => if x74 = true then (none) else ((impl_EdgeRoot.f k x635000 x635001).bind fun t639 => ((some (([] : List ByteArray) : List ByteArray)).bind fun y640 => (if y640.length + x3.length < 8796093022208 then ((some (y640 ++ x3 : List ByteArray)).bind fun y643 => (if y643.length < 8796093022208 then ((impl_RootOf.f k (y643 ++ [(⟨#[120]⟩ : ByteArray)])).bind fun t649 => (if t639.toList = t649.toList then (some (decide ((x611001.length : Int) ≤ 8))) else (none))) else (none))) else (none))))
def laws_FnEdges.f (k : Nat) (l0 : List Int) : Option (Bool) := (laws_big.f l0).bind fun t601 => (if t601 = true then (some true) else ((spec_DrawLeaves.f k l0).bind fun bt602 => ((impl_EdgeOf.f bt602.1).bind fun bt606 => (if 0 ≤ bt602.2 then (if bt602.2 ≤ (bt602.1.length : Int) then ((impl_EdgeOf.f (bt602.1.take (bt602.2 : Int).toNat)).bind fun bt615 => ((impl_EdgeAll.f k bt615.1 bt615.2 (bt602.1.drop (bt602.2 : Int).toNat)).bind fun bt623 => ((impl_EdgeAdd.f bt606.1 bt606.2 (⟨#[120]⟩ : ByteArray)).bind fun bt629 => (if bt623.2.2 = true then (if bt629.2.2 = true then ((impl_EdgeOk.f k bt606.1 bt606.2).bind fun t635 => (if t635 = true then (if bt606.1 = (bt602.1.length : Int) then ((impl_EdgeRoot.f k bt606.1 bt606.2).bind fun t636 => ((impl_RootOf.f k bt602.1).bind fun t637 => (if t636.toList = t637.toList then (if bt623.1 = bt606.1 then ((laws_sameTexts.f k bt623.2.1 bt606.2).bind fun t638 => (laws_FnEdges.j0 k bt602.1 (!t638) bt606.1 bt606.2 bt629.1 bt629.2.1)) else (laws_FnEdges.j0 k bt602.1 true bt606.1 bt606.2 bt629.1 bt629.2.1)) else (laws_FnEdges.j0 k bt602.1 true bt606.1 bt606.2 bt629.1 bt629.2.1)))) else (laws_FnEdges.j0 k bt602.1 true bt606.1 bt606.2 bt629.1 bt629.2.1)) else (laws_FnEdges.j0 k bt602.1 true bt606.1 bt606.2 bt629.1 bt629.2.1))) else (laws_FnEdges.j0 k bt602.1 true bt606.1 bt606.2 bt629.1 bt629.2.1)) else (laws_FnEdges.j0 k bt602.1 true bt606.1 bt606.2 bt629.1 bt629.2.1))))) else (none)) else (none)))))
theorem laws_FnEdges.mono_l : ∀ k, (∀ y0 y1 y2 y3 y4 y5, LeO (laws_FnEdges.j0 k y0 y1 y2 y3 y4 y5) (laws_FnEdges.j0 (k + 1) y0 y1 y2 y3 y4 y5))
  | 0 => fun _ _ _ _ _ _ r h => by simp [laws_FnEdges.j0] at h
  | k + 1 => by
    have ih0 := laws_FnEdges.mono_l k
    · intro y0 y1 y2 y3 y4 y5
      unfold laws_FnEdges.j0
      repeat' first
      | (with_reducible exact ih0 _ _ _ _ _ _)
      | (with_reducible exact impl_EdgeAll.mono _ _ _ _)
      | (with_reducible exact impl_EdgeOk.mono _ _ _)
      | (with_reducible exact impl_EdgeRoot.mono _ _ _)
      | (with_reducible exact impl_RootOf.mono _ _)
      | (with_reducible exact laws_sameTexts.mono _ _ _)
      | (with_reducible exact spec_DrawLeaves.mono _ _)
      | (with_reducible exact LeO.refl _)
      | (with_reducible exact LeO.none _)
      | (with_reducible refine LeO.ite ?_ ?_)
      | (with_reducible refine LeO.bind ?_ (fun _ => ?_))
      | exact ih0 _ _ _ _ _ _
      | exact impl_EdgeAll.mono _ _ _ _
      | exact impl_EdgeOk.mono _ _ _
      | exact impl_EdgeRoot.mono _ _ _
      | exact impl_RootOf.mono _ _
      | exact laws_sameTexts.mono _ _ _
      | exact spec_DrawLeaves.mono _ _
      | exact LeO.none _
      | refine LeO.ite ?_ ?_
      | refine LeO.bind ?_ (fun _ => ?_)
theorem laws_FnEdges.mono : ∀ a0 k, LeO (laws_FnEdges.f k a0) (laws_FnEdges.f (k + 1) a0) := by
  intro a0 k
  have ih0 := laws_FnEdges.mono_l k
  unfold laws_FnEdges.f
  repeat' first
      | (with_reducible exact ih0 _ _ _ _ _ _)
      | (with_reducible exact impl_EdgeAll.mono _ _ _ _)
      | (with_reducible exact impl_EdgeOk.mono _ _ _)
      | (with_reducible exact impl_EdgeRoot.mono _ _ _)
      | (with_reducible exact impl_RootOf.mono _ _)
      | (with_reducible exact laws_sameTexts.mono _ _ _)
      | (with_reducible exact spec_DrawLeaves.mono _ _)
      | (with_reducible exact LeO.refl _)
      | (with_reducible exact LeO.none _)
      | (with_reducible refine LeO.ite ?_ ?_)
      | (with_reducible refine LeO.bind ?_ (fun _ => ?_))
      | exact ih0 _ _ _ _ _ _
      | exact impl_EdgeAll.mono _ _ _ _
      | exact impl_EdgeOk.mono _ _ _
      | exact impl_EdgeRoot.mono _ _ _
      | exact impl_RootOf.mono _ _
      | exact laws_sameTexts.mono _ _ _
      | exact spec_DrawLeaves.mono _ _
      | exact LeO.none _
      | refine LeO.ite ?_ ?_
      | refine LeO.bind ?_ (fun _ => ?_)
def laws_FnEdges.T5 : Bool × List (List Nat × List Nat) := (true, [([], []), ([], []), ([0, 1], [0, 1]), ([2], [2]), ([], []), ([], []), ([4, 5], [4, 5]), ([3, 6, 3], [3, 6]), ([7], [7]), ([8], [8]), ([8], [8]), ([], []), ([11, 9, 7, 0, 1, 2, 3, 4, 5, 6, 7, 8, 9, 11], [9, 11]), ([10, 12, 0, 1, 2, 3, 4, 5, 6, 7, 8, 9, 10, 11, 12], [10])])
def laws_FnEdges.B5 : List Nat := [0, 0, 3, 7, 0, 0, 48, 127, 255, 511, 511, 0, 3071, 8191]
theorem laws_FnEdges.tab5 : rtab .any (opsOf Try.f5 5) = laws_FnEdges.T5 := by kernel_rfl
theorem laws_FnEdges.bits5 : waitsOk laws_FnEdges.T5.2 laws_FnEdges.B5 = true := by kernel_rfl
set_option maxHeartbeats 8000000 in
set_option maxRecDepth 100000 in
theorem laws_FnEdges.calls (k : Nat) (A0 : Option Addr) (c0 : Nat) (l0 : List Int) (r : Bool) (w : World) (hr0 : Kd.C (Kd.int .u8) w A0 l0.length l0) (hc0 : l0.length ≤ c0) (h : laws_FnEdges.f k l0 = some r) :
    Calls Try.prog 5 #[.slice A0 l0.length c0] w fun e w' => e = .returned (.bool r) ∧ Below w.heap.size w w' := by
  have hu32 := Try.underlying32
  have HR0 := Aside0.mk hr0
  have HC0 := Aside0.mk hc0
  clear hr0 hc0
  have HB := Aside0.mk (Below.refl w.heap.size w)
  have H : ((laws_big.f l0).bind fun t601 => (if t601 = true then (some true) else ((spec_DrawLeaves.f k l0).bind fun bt602 => ((impl_EdgeOf.f bt602.1).bind fun bt606 => (if 0 ≤ bt602.2 then (if bt602.2 ≤ (bt602.1.length : Int) then ((impl_EdgeOf.f (bt602.1.take (bt602.2 : Int).toNat)).bind fun bt615 => ((impl_EdgeAll.f k bt615.1 bt615.2 (bt602.1.drop (bt602.2 : Int).toNat)).bind fun bt623 => ((impl_EdgeAdd.f bt606.1 bt606.2 (⟨#[120]⟩ : ByteArray)).bind fun bt629 => (if bt623.2.2 = true then (if bt629.2.2 = true then ((impl_EdgeOk.f k bt606.1 bt606.2).bind fun t635 => (if t635 = true then (if bt606.1 = (bt602.1.length : Int) then ((impl_EdgeRoot.f k bt606.1 bt606.2).bind fun t636 => ((impl_RootOf.f k bt602.1).bind fun t637 => (if t636.toList = t637.toList then (if bt623.1 = bt606.1 then ((laws_sameTexts.f k bt623.2.1 bt606.2).bind fun t638 => (laws_FnEdges.j0 k bt602.1 (!t638) bt606.1 bt606.2 bt629.1 bt629.2.1)) else (laws_FnEdges.j0 k bt602.1 true bt606.1 bt606.2 bt629.1 bt629.2.1)) else (laws_FnEdges.j0 k bt602.1 true bt606.1 bt606.2 bt629.1 bt629.2.1)))) else (laws_FnEdges.j0 k bt602.1 true bt606.1 bt606.2 bt629.1 bt629.2.1)) else (laws_FnEdges.j0 k bt602.1 true bt606.1 bt606.2 bt629.1 bt629.2.1))) else (laws_FnEdges.j0 k bt602.1 true bt606.1 bt606.2 bt629.1 bt629.2.1)) else (laws_FnEdges.j0 k bt602.1 true bt606.1 bt606.2 bt629.1 bt629.2.1))))) else (none)) else (none)))))) = some r := h
  clear h
  replace H := Option.bind_eq_some_iff.mp H
  obtain ⟨t601, A20, H⟩ := H
  replace H : (if t601 = true then (some true) else ((spec_DrawLeaves.f k l0).bind fun bt602 => ((impl_EdgeOf.f bt602.1).bind fun bt606 => (if 0 ≤ bt602.2 then (if bt602.2 ≤ (bt602.1.length : Int) then ((impl_EdgeOf.f (bt602.1.take (bt602.2 : Int).toNat)).bind fun bt615 => ((impl_EdgeAll.f k bt615.1 bt615.2 (bt602.1.drop (bt602.2 : Int).toNat)).bind fun bt623 => ((impl_EdgeAdd.f bt606.1 bt606.2 (⟨#[120]⟩ : ByteArray)).bind fun bt629 => (if bt623.2.2 = true then (if bt629.2.2 = true then ((impl_EdgeOk.f k bt606.1 bt606.2).bind fun t635 => (if t635 = true then (if bt606.1 = (bt602.1.length : Int) then ((impl_EdgeRoot.f k bt606.1 bt606.2).bind fun t636 => ((impl_RootOf.f k bt602.1).bind fun t637 => (if t636.toList = t637.toList then (if bt623.1 = bt606.1 then ((laws_sameTexts.f k bt623.2.1 bt606.2).bind fun t638 => (laws_FnEdges.j0 k bt602.1 (!t638) bt606.1 bt606.2 bt629.1 bt629.2.1)) else (laws_FnEdges.j0 k bt602.1 true bt606.1 bt606.2 bt629.1 bt629.2.1)) else (laws_FnEdges.j0 k bt602.1 true bt606.1 bt606.2 bt629.1 bt629.2.1)))) else (laws_FnEdges.j0 k bt602.1 true bt606.1 bt606.2 bt629.1 bt629.2.1)) else (laws_FnEdges.j0 k bt602.1 true bt606.1 bt606.2 bt629.1 bt629.2.1))) else (laws_FnEdges.j0 k bt602.1 true bt606.1 bt606.2 bt629.1 bt629.2.1)) else (laws_FnEdges.j0 k bt602.1 true bt606.1 bt606.2 bt629.1 bt629.2.1))))) else (none)) else (none))))) = some r := H
  have A2 := Aside0.mk A20
  clear A20
  by_cases c3 : t601 = true
  · subst c3
    have H1 : (some true) = some r := by rw [if_pos rfl] at H; exact H
    clear H
    have H := H1
    clear H1
    obtain rfl := Option.some.inj H
    go_enter Try.func5, Try.ntmps5
    go_wp2_with (first | ((with_reducible refine gate_callee (f := 27) rfl ?_); refine goesL_ (some 11) rfl rfl Try.func27 (by kernel_rfl) rfl #[.slice A0 l0.length c0] rfl (by (try simp only [List.map_toArray, List.map_cons, List.map_nil]); first | done | rfl | (simp only [List.length_drop, List.length_take]; rfl)) ?_; (with_reducible refine (laws_big.calls _ _ l0 true _ ?side1 ?side2 A2.out).mono ?_); (case side1 => repeat (first | exact HR0.out | (with_reducible refine Kd.C_alloc ?_ _) | (with_reducible refine Kd.C_drewN ?_ _) | (with_reducible refine Kd.C_drew ?_))); (case side2 => exact HC0.out); rintro e w' ⟨rfl, ⟨nd, rfl⟩⟩; refine ⟨_, rfl, ?_⟩))
    go_ret
    exact ⟨by first | rfl | (simp [errW_none, errW_some] <;> rfl) | (simp [*, errW_none, errW_some] <;> rfl), by repeat (first | (with_reducible first | exact HB.out | apply below_alloc | apply pw_below_drewN | apply below_drew1) | exact HB.out)⟩
  · replace c3 := Bool.eq_false_iff.mpr c3
    subst c3
    have H1 : ((spec_DrawLeaves.f k l0).bind fun bt602 => ((impl_EdgeOf.f bt602.1).bind fun bt606 => (if 0 ≤ bt602.2 then (if bt602.2 ≤ (bt602.1.length : Int) then ((impl_EdgeOf.f (bt602.1.take (bt602.2 : Int).toNat)).bind fun bt615 => ((impl_EdgeAll.f k bt615.1 bt615.2 (bt602.1.drop (bt602.2 : Int).toNat)).bind fun bt623 => ((impl_EdgeAdd.f bt606.1 bt606.2 (⟨#[120]⟩ : ByteArray)).bind fun bt629 => (if bt623.2.2 = true then (if bt629.2.2 = true then ((impl_EdgeOk.f k bt606.1 bt606.2).bind fun t635 => (if t635 = true then (if bt606.1 = (bt602.1.length : Int) then ((impl_EdgeRoot.f k bt606.1 bt606.2).bind fun t636 => ((impl_RootOf.f k bt602.1).bind fun t637 => (if t636.toList = t637.toList then (if bt623.1 = bt606.1 then ((laws_sameTexts.f k bt623.2.1 bt606.2).bind fun t638 => (laws_FnEdges.j0 k bt602.1 (!t638) bt606.1 bt606.2 bt629.1 bt629.2.1)) else (laws_FnEdges.j0 k bt602.1 true bt606.1 bt606.2 bt629.1 bt629.2.1)) else (laws_FnEdges.j0 k bt602.1 true bt606.1 bt606.2 bt629.1 bt629.2.1)))) else (laws_FnEdges.j0 k bt602.1 true bt606.1 bt606.2 bt629.1 bt629.2.1)) else (laws_FnEdges.j0 k bt602.1 true bt606.1 bt606.2 bt629.1 bt629.2.1))) else (laws_FnEdges.j0 k bt602.1 true bt606.1 bt606.2 bt629.1 bt629.2.1)) else (laws_FnEdges.j0 k bt602.1 true bt606.1 bt606.2 bt629.1 bt629.2.1))))) else (none)) else (none)))) = some r := by rw [if_neg (show ¬ (false = true) by decide)] at H; exact H
    clear H
    have H := H1
    clear H1
    replace H := Option.bind_eq_some_iff.mp H
    obtain ⟨⟨t602, t603⟩, A40, H⟩ := H
    replace H : ((impl_EdgeOf.f t602).bind fun bt606 => (if 0 ≤ t603 then (if t603 ≤ (t602.length : Int) then ((impl_EdgeOf.f (t602.take (t603 : Int).toNat)).bind fun bt615 => ((impl_EdgeAll.f k bt615.1 bt615.2 (t602.drop (t603 : Int).toNat)).bind fun bt623 => ((impl_EdgeAdd.f bt606.1 bt606.2 (⟨#[120]⟩ : ByteArray)).bind fun bt629 => (if bt623.2.2 = true then (if bt629.2.2 = true then ((impl_EdgeOk.f k bt606.1 bt606.2).bind fun t635 => (if t635 = true then (if bt606.1 = (t602.length : Int) then ((impl_EdgeRoot.f k bt606.1 bt606.2).bind fun t636 => ((impl_RootOf.f k t602).bind fun t637 => (if t636.toList = t637.toList then (if bt623.1 = bt606.1 then ((laws_sameTexts.f k bt623.2.1 bt606.2).bind fun t638 => (laws_FnEdges.j0 k t602 (!t638) bt606.1 bt606.2 bt629.1 bt629.2.1)) else (laws_FnEdges.j0 k t602 true bt606.1 bt606.2 bt629.1 bt629.2.1)) else (laws_FnEdges.j0 k t602 true bt606.1 bt606.2 bt629.1 bt629.2.1)))) else (laws_FnEdges.j0 k t602 true bt606.1 bt606.2 bt629.1 bt629.2.1)) else (laws_FnEdges.j0 k t602 true bt606.1 bt606.2 bt629.1 bt629.2.1))) else (laws_FnEdges.j0 k t602 true bt606.1 bt606.2 bt629.1 bt629.2.1)) else (laws_FnEdges.j0 k t602 true bt606.1 bt606.2 bt629.1 bt629.2.1))))) else (none)) else (none))) = some r := H
    have A4 := Aside0.mk A40
    clear A40
    replace H := Option.bind_eq_some_iff.mp H
    obtain ⟨⟨t606, t607⟩, A50, H⟩ := H
    replace H : (if 0 ≤ t603 then (if t603 ≤ (t602.length : Int) then ((impl_EdgeOf.f (t602.take (t603 : Int).toNat)).bind fun bt615 => ((impl_EdgeAll.f k bt615.1 bt615.2 (t602.drop (t603 : Int).toNat)).bind fun bt623 => ((impl_EdgeAdd.f t606 t607 (⟨#[120]⟩ : ByteArray)).bind fun bt629 => (if bt623.2.2 = true then (if bt629.2.2 = true then ((impl_EdgeOk.f k t606 t607).bind fun t635 => (if t635 = true then (if t606 = (t602.length : Int) then ((impl_EdgeRoot.f k t606 t607).bind fun t636 => ((impl_RootOf.f k t602).bind fun t637 => (if t636.toList = t637.toList then (if bt623.1 = t606 then ((laws_sameTexts.f k bt623.2.1 t607).bind fun t638 => (laws_FnEdges.j0 k t602 (!t638) t606 t607 bt629.1 bt629.2.1)) else (laws_FnEdges.j0 k t602 true t606 t607 bt629.1 bt629.2.1)) else (laws_FnEdges.j0 k t602 true t606 t607 bt629.1 bt629.2.1)))) else (laws_FnEdges.j0 k t602 true t606 t607 bt629.1 bt629.2.1)) else (laws_FnEdges.j0 k t602 true t606 t607 bt629.1 bt629.2.1))) else (laws_FnEdges.j0 k t602 true t606 t607 bt629.1 bt629.2.1)) else (laws_FnEdges.j0 k t602 true t606 t607 bt629.1 bt629.2.1))))) else (none)) else (none)) = some r := H
    have A5 := Aside0.mk A50
    clear A50
    by_cases c6 : 0 ≤ t603
    · rw [if_pos c6] at H
      have c6b0 := eq_true c6
      have c6b1 : decide (0 ≤ t603) = true := decide_eq_true c6
      clear c6
      by_cases c7 : t603 ≤ (t602.length : Int)
      · rw [if_pos c7] at H
        have c7b0 := eq_true c7
        have c7b1 : decide (t603 ≤ (t602.length : Int)) = true := decide_eq_true c7
        clear c7
        obtain ⟨y611, hy611⟩ : ∃ y_ : List ByteArray, y_ = (t602.take (t603 : Int).toNat) := ⟨_, rfl⟩
        replace H : ((impl_EdgeOf.f y611).bind fun bt615 => ((impl_EdgeAll.f k bt615.1 bt615.2 (t602.drop (t603 : Int).toNat)).bind fun bt623 => ((impl_EdgeAdd.f t606 t607 (⟨#[120]⟩ : ByteArray)).bind fun bt629 => (if bt623.2.2 = true then (if bt629.2.2 = true then ((impl_EdgeOk.f k t606 t607).bind fun t635 => (if t635 = true then (if t606 = (t602.length : Int) then ((impl_EdgeRoot.f k t606 t607).bind fun t636 => ((impl_RootOf.f k t602).bind fun t637 => (if t636.toList = t637.toList then (if bt623.1 = t606 then ((laws_sameTexts.f k bt623.2.1 t607).bind fun t638 => (laws_FnEdges.j0 k t602 (!t638) t606 t607 bt629.1 bt629.2.1)) else (laws_FnEdges.j0 k t602 true t606 t607 bt629.1 bt629.2.1)) else (laws_FnEdges.j0 k t602 true t606 t607 bt629.1 bt629.2.1)))) else (laws_FnEdges.j0 k t602 true t606 t607 bt629.1 bt629.2.1)) else (laws_FnEdges.j0 k t602 true t606 t607 bt629.1 bt629.2.1))) else (laws_FnEdges.j0 k t602 true t606 t607 bt629.1 bt629.2.1)) else (laws_FnEdges.j0 k t602 true t606 t607 bt629.1 bt629.2.1))))) = some r := by first | (rw [hy611]; with_reducible exact H) | (have H2_ := (Option.bind_some _ _).symm.trans H; rw [hy611]; with_reducible exact H2_) | (have H2_ := (Option.bind_some _ _).symm.trans H; with_reducible exact H2_) | with_reducible exact H | (rw [hy611]; exact H) | exact H
        have Ny611 := Aside0.mk hy611
        clear hy611
        replace H := Option.bind_eq_some_iff.mp H
        obtain ⟨⟨t615, t616⟩, A80, H⟩ := H
        replace H : ((impl_EdgeAll.f k t615 t616 (t602.drop (t603 : Int).toNat)).bind fun bt623 => ((impl_EdgeAdd.f t606 t607 (⟨#[120]⟩ : ByteArray)).bind fun bt629 => (if bt623.2.2 = true then (if bt629.2.2 = true then ((impl_EdgeOk.f k t606 t607).bind fun t635 => (if t635 = true then (if t606 = (t602.length : Int) then ((impl_EdgeRoot.f k t606 t607).bind fun t636 => ((impl_RootOf.f k t602).bind fun t637 => (if t636.toList = t637.toList then (if bt623.1 = t606 then ((laws_sameTexts.f k bt623.2.1 t607).bind fun t638 => (laws_FnEdges.j0 k t602 (!t638) t606 t607 bt629.1 bt629.2.1)) else (laws_FnEdges.j0 k t602 true t606 t607 bt629.1 bt629.2.1)) else (laws_FnEdges.j0 k t602 true t606 t607 bt629.1 bt629.2.1)))) else (laws_FnEdges.j0 k t602 true t606 t607 bt629.1 bt629.2.1)) else (laws_FnEdges.j0 k t602 true t606 t607 bt629.1 bt629.2.1))) else (laws_FnEdges.j0 k t602 true t606 t607 bt629.1 bt629.2.1)) else (laws_FnEdges.j0 k t602 true t606 t607 bt629.1 bt629.2.1)))) = some r := H
        have A8 := Aside0.mk A80
        clear A80
        have c9b0 := eq_true (of_decide_eq_true (by first | (with_reducible assumption) | assumption) : 0 ≤ t603)
        have c10b0 := eq_true (of_decide_eq_true (by first | (with_reducible assumption) | assumption) : t603 ≤ (t602.length : Int))
        obtain ⟨y619, hy619⟩ : ∃ y_ : List ByteArray, y_ = (t602.drop (t603 : Int).toNat) := ⟨_, rfl⟩
        replace H : ((impl_EdgeAll.f k t615 t616 y619).bind fun bt623 => ((impl_EdgeAdd.f t606 t607 (⟨#[120]⟩ : ByteArray)).bind fun bt629 => (if bt623.2.2 = true then (if bt629.2.2 = true then ((impl_EdgeOk.f k t606 t607).bind fun t635 => (if t635 = true then (if t606 = (t602.length : Int) then ((impl_EdgeRoot.f k t606 t607).bind fun t636 => ((impl_RootOf.f k t602).bind fun t637 => (if t636.toList = t637.toList then (if bt623.1 = t606 then ((laws_sameTexts.f k bt623.2.1 t607).bind fun t638 => (laws_FnEdges.j0 k t602 (!t638) t606 t607 bt629.1 bt629.2.1)) else (laws_FnEdges.j0 k t602 true t606 t607 bt629.1 bt629.2.1)) else (laws_FnEdges.j0 k t602 true t606 t607 bt629.1 bt629.2.1)))) else (laws_FnEdges.j0 k t602 true t606 t607 bt629.1 bt629.2.1)) else (laws_FnEdges.j0 k t602 true t606 t607 bt629.1 bt629.2.1))) else (laws_FnEdges.j0 k t602 true t606 t607 bt629.1 bt629.2.1)) else (laws_FnEdges.j0 k t602 true t606 t607 bt629.1 bt629.2.1)))) = some r := by first | (rw [hy619]; with_reducible exact H) | (have H2_ := (Option.bind_some _ _).symm.trans H; rw [hy619]; with_reducible exact H2_) | (have H2_ := (Option.bind_some _ _).symm.trans H; with_reducible exact H2_) | with_reducible exact H | (rw [hy619]; exact H) | exact H
        have Ny619 := Aside0.mk hy619
        clear hy619
        replace H := Option.bind_eq_some_iff.mp H
        obtain ⟨⟨t623, t624, t627⟩, A110, H⟩ := H
        replace H : ((impl_EdgeAdd.f t606 t607 (⟨#[120]⟩ : ByteArray)).bind fun bt629 => (if t627 = true then (if bt629.2.2 = true then ((impl_EdgeOk.f k t606 t607).bind fun t635 => (if t635 = true then (if t606 = (t602.length : Int) then ((impl_EdgeRoot.f k t606 t607).bind fun t636 => ((impl_RootOf.f k t602).bind fun t637 => (if t636.toList = t637.toList then (if t623 = t606 then ((laws_sameTexts.f k t624 t607).bind fun t638 => (laws_FnEdges.j0 k t602 (!t638) t606 t607 bt629.1 bt629.2.1)) else (laws_FnEdges.j0 k t602 true t606 t607 bt629.1 bt629.2.1)) else (laws_FnEdges.j0 k t602 true t606 t607 bt629.1 bt629.2.1)))) else (laws_FnEdges.j0 k t602 true t606 t607 bt629.1 bt629.2.1)) else (laws_FnEdges.j0 k t602 true t606 t607 bt629.1 bt629.2.1))) else (laws_FnEdges.j0 k t602 true t606 t607 bt629.1 bt629.2.1)) else (laws_FnEdges.j0 k t602 true t606 t607 bt629.1 bt629.2.1))) = some r := H
        have A11 := Aside0.mk A110
        clear A110
        replace H := Option.bind_eq_some_iff.mp H
        obtain ⟨⟨t629, t630, t633⟩, A120, H⟩ := H
        replace H : (if t627 = true then (if t633 = true then ((impl_EdgeOk.f k t606 t607).bind fun t635 => (if t635 = true then (if t606 = (t602.length : Int) then ((impl_EdgeRoot.f k t606 t607).bind fun t636 => ((impl_RootOf.f k t602).bind fun t637 => (if t636.toList = t637.toList then (if t623 = t606 then ((laws_sameTexts.f k t624 t607).bind fun t638 => (laws_FnEdges.j0 k t602 (!t638) t606 t607 t629 t630)) else (laws_FnEdges.j0 k t602 true t606 t607 t629 t630)) else (laws_FnEdges.j0 k t602 true t606 t607 t629 t630)))) else (laws_FnEdges.j0 k t602 true t606 t607 t629 t630)) else (laws_FnEdges.j0 k t602 true t606 t607 t629 t630))) else (laws_FnEdges.j0 k t602 true t606 t607 t629 t630)) else (laws_FnEdges.j0 k t602 true t606 t607 t629 t630)) = some r := H
        have A12 := Aside0.mk A120
        clear A120
        have HC13 := Aside0.mk H
        clear H
        go_enter Try.func5, Try.ntmps5
        try go_wp2_with (first | ((with_reducible refine gate_callee (f := 27) rfl ?_); refine goesL_ (some 11) rfl rfl Try.func27 (by kernel_rfl) rfl #[.slice A0 l0.length c0] rfl (by (try simp only [List.map_toArray, List.map_cons, List.map_nil]); first | done | rfl | (simp only [List.length_drop, List.length_take]; rfl)) ?_; (with_reducible refine (laws_big.calls _ _ l0 false _ ?side1 ?side2 A2.out).mono ?_); (case side1 => repeat (first | exact HR0.out | (with_reducible refine Kd.C_alloc ?_ _) | (with_reducible refine Kd.C_drewN ?_ _) | (with_reducible refine Kd.C_drew ?_))); (case side2 => exact HC0.out); rintro e w' ⟨rfl, ⟨nd, rfl⟩⟩; refine ⟨_, rfl, ?_⟩) | ((with_reducible refine gate_callee (f := 28) rfl ?_); refine goesL_ (some 14) rfl rfl Try.func28 (by kernel_rfl) rfl #[.slice A0 l0.length c0] rfl (by (try simp only [List.map_toArray, List.map_cons, List.map_nil]); first | done | rfl | (simp only [List.length_drop, List.length_take]; rfl)) ?_; (with_reducible refine (spec_DrawLeaves.calls k _ _ l0 t602 t603 _ ?side1 ?side2 A4.out).mono ?_); (case side1 => repeat (first | exact HR0.out | (with_reducible refine Kd.C_alloc ?_ _) | (with_reducible refine Kd.C_drewN ?_ _) | (with_reducible refine Kd.C_drew ?_))); (case side2 => exact HC0.out); rintro e w14 ⟨v604, rfl, ho0, hb⟩; refine ⟨_, rfl, ?_⟩; have n0_ := Aside0.mk (Kd.R_lower ho0 (below_size (by repeat (first | (with_reducible first | exact HB.out | apply below_alloc | apply pw_below_drewN | apply below_drew1) | exact HB.out)))); have n1_ := Aside0.mk (below_step (by repeat (first | (with_reducible first | exact HB.out | apply below_alloc | apply pw_below_drewN | apply below_drew1) | exact HB.out)) hb); clear HB; have HO605 := n0_; have HB := n1_; clear n0_ n1_; (try clear hb); (try clear hb2); (try clear hk); (try clear hi); (try clear ho0); obtain ⟨Ao15, co15, eo15⟩ := Kd.R_slice HO605.out; subst eo15) | ((with_reducible refine gate_callee (f := 22) rfl ?_); refine goesL_ (some 18) rfl rfl Try.func22 (by kernel_rfl) rfl #[.slice Ao15 t602.length co15] rfl (by (try simp only [List.map_toArray, List.map_cons, List.map_nil]); first | done | rfl | (simp only [List.length_drop, List.length_take]; rfl)) ?_; (with_reducible refine (impl_EdgeOf.calls _ _ t602 t606 t607 _ ?side1 ?side2 A5.out).mono ?_); (case side1 => repeat (first | exact (Kd.R_reads' HO605.out).2.2 | (with_reducible refine Kd.C_alloc ?_ _) | (with_reducible refine Kd.C_drewN ?_ _) | (with_reducible refine Kd.C_drew ?_))); (case side2 => exact (Kd.R_reads' HO605.out).2.1); rintro e w16 ⟨v608, rfl, ho0, hb⟩; refine ⟨_, rfl, ?_⟩; have n0_ := Aside0.mk (Kd.R_elder' (by (with_reducible repeat (first | apply Kd.R_alloc | apply Kd.R_drewN | apply Kd.R_drew)); exact HO605.out) (Kd.R_base ho0) hb); have n1_ := Aside0.mk (Kd.R_lower (Kd.R_new' ho0 (Kd.R_lt (by (with_reducible repeat (first | apply Kd.R_alloc | apply Kd.R_drewN | apply Kd.R_drew)); exact HO605.out))) (below_size (by repeat (first | (with_reducible first | exact HB.out | apply below_alloc | apply pw_below_drewN | apply below_drew1) | exact HB.out)))); have n2_ := Aside0.mk (below_step (by repeat (first | (with_reducible first | exact HB.out | apply below_alloc | apply pw_below_drewN | apply below_drew1) | exact HB.out)) hb); clear HO605; clear HB; have HO605 := n0_; have HO609 := n1_; have HB := n2_; clear n0_ n1_ n2_; (try clear hb); (try clear hb2); (try clear hk); (try clear hi); (try clear ho0)) | ((with_reducible refine gate_dst (N := 5) rfl ?_); (try (refine gate_guard (by rfl) ?_; dsimp only)); refine box_event ?hg (N := 5) ?hd (cs := #[.int .i64 0, .slice none 0 0]) (t := 32) ?hr ?_; (case hd => rfl); (case hg => rfl); (case hr => first | (go_simp; done) | (go_simp; rfl)); intro gb610 hg w17 hbox hb; have n0_ := Aside0.mk (Kd.R_below (by (with_reducible repeat (first | apply Kd.R_alloc | apply Kd.R_drewN | apply Kd.R_drew)); exact HO605.out) hb); have n1_ := Aside0.mk (Kd.R_below (by (with_reducible repeat (first | apply Kd.R_alloc | apply Kd.R_drewN | apply Kd.R_drew)); exact HO609.out) hb); have n2_ := Aside0.mk (below_step (by repeat (first | (with_reducible first | exact HB.out | apply below_alloc | apply pw_below_drewN | apply below_drew1) | exact HB.out)) hb); have n3_ := Aside0.mk (hbox); have n4_ := Aside0.mk ((by rw [hg]; exact (below_size (by repeat (first | (with_reducible first | exact HB.out | apply below_alloc | apply pw_below_drewN | apply below_drew1) | exact HB.out))) : w.heap.size ≤ gb610)); have n5_ := Aside0.mk ((by rw [hg]; exact (below_size (by repeat (first | (with_reducible first | exact HB.out | apply below_alloc | apply pw_below_drewN | apply below_drew1) | exact HB.out))) : w.heap.size ≤ gb610)); clear HO605; clear HO609; clear HB; have HO605 := n0_; have HO609 := n1_; have HB := n2_; have BK610 := n3_; have GW610 := n4_; have GE610 := n5_; clear n0_ n1_ n2_ n3_ n4_ n5_; clear hb hbox hg; have hcz18_0 : w17.cell? ⟨gb610, 0, none⟩ = some (.int .i64 0) := (blk_cell BK610.out 0).trans rfl; have hcz18_1 : w17.cell? ⟨gb610, 1, none⟩ = some (.slice none 0 0) := (blk_cell BK610.out 1).trans rfl; have hfz18_0 := blk_frozen BK610.out 0; have hfz18_1 := blk_frozen BK610.out 1; obtain ⟨Ao19, co19, eo19⟩ := Kd.R_slice HO609.out; subst eo19))
        have n0_ : Aside0 (Kd.R Kd.string 9 ((w17.setCell ⟨gb610, 0, none⟩ (.int .i64 t606)).setCell ⟨gb610, 1, none⟩ (.slice Ao19 t607.length co19)) w.heap.size (fun k_ => some k_ ≠ (.slice Ao19 t607.length co19 : Value).ownBlock) (.slice Ao15 t602.length co15) t602) := ⟨by (with_reducible repeat (first | apply Kd.R_alloc | apply Kd.R_drewN | apply Kd.R_drew)); exact Kd.R_mono (Kd.R_far (p := ⟨gb610, 1, none⟩) (Kd.R_far (p := ⟨gb610, 0, none⟩) (Kd.R_types HO605.out BK610.out (by decide)) (fun _ hk => hk.2) (.int .i64 t606)) (fun _ hk => hk.2) (.slice Ao19 t607.length co19)) (fun _ hk => hk.1.2)⟩
        have n1_ : Aside0 (Kd.R Kd.string 9 ((w17.setCell ⟨gb610, 0, none⟩ (.int .i64 t606)).setCell ⟨gb610, 1, none⟩ (.slice Ao19 t607.length co19)) w.heap.size (fun k_ => some k_ ≠ (.slice Ao15 t602.length co15 : Value).ownBlock) (.slice Ao19 t607.length co19) t607) := ⟨by (with_reducible repeat (first | apply Kd.R_alloc | apply Kd.R_drewN | apply Kd.R_drew)); exact Kd.R_mono (Kd.R_far (p := ⟨gb610, 1, none⟩) (Kd.R_far (p := ⟨gb610, 0, none⟩) (Kd.R_types HO609.out BK610.out (by decide)) (fun _ hk => hk.2) (.int .i64 t606)) (fun _ hk => hk.2) (.slice Ao19 t607.length co19)) (fun _ hk => hk.1.2)⟩
        have n2_ : Aside0 (((w17.setCell ⟨gb610, 0, none⟩ (.int .i64 t606)).setCell ⟨gb610, 1, none⟩ (.slice Ao19 t607.length co19)).heap[gb610]? = some (.cells #[.int .i64 t606, .slice Ao19 t607.length co19] 32 (0, 0))) := ⟨by (with_reducible repeat (first | refine blk_drewN ?_ _ | refine blk_drew ?_ | refine blk_alloc ?_ _)); refine blk_put (cs := #[.int .i64 t606, .slice none 0 0]) ?_ 1 _ rfl; (with_reducible repeat (first | refine blk_drewN ?_ _ | refine blk_drew ?_ | refine blk_alloc ?_ _)); refine blk_put (cs := #[.int .i64 0, .slice none 0 0]) ?_ 0 _ rfl; (with_reducible repeat (first | refine blk_drewN ?_ _ | refine blk_drew ?_ | refine blk_alloc ?_ _)); exact BK610.out⟩
        have n3_ : Aside0 (Below w.heap.size w ((w17.setCell ⟨gb610, 0, none⟩ (.int .i64 t606)).setCell ⟨gb610, 1, none⟩ (.slice Ao19 t607.length co19))) := ⟨by repeat (first | (with_reducible first | exact HB.out | apply below_alloc | apply pw_below_drewN | apply below_drew1 | refine below_set ?_ GE610.out) | exact HB.out)⟩
        (try clear HO605)
        (try clear HO609)
        (try clear BK610)
        (try clear HB)
        generalize ((w17.setCell ⟨gb610, 0, none⟩ (.int .i64 t606)).setCell ⟨gb610, 1, none⟩ (.slice Ao19 t607.length co19)) = w20 at n0_ n1_ n2_ n3_ ⊢
        have HO605 := n0_
        have HO609 := n1_
        have BK610 := n2_
        have HB := n3_
        clear n0_ n1_ n2_ n3_
        have n0_ := Aside0.mk (Kd.R_drew HO605.out)
        have n1_ := Aside0.mk (Kd.R_drew HO609.out)
        have n2_ := Aside0.mk (blk_drew BK610.out)
        have n3_ := Aside0.mk (below_drew1 HB.out)
        clear HO605
        clear HO609
        clear BK610
        clear HB
        have HO605 := n0_
        have HO609 := n1_
        have BK610 := n2_
        have HB := n3_
        clear n0_ n1_ n2_ n3_
        have q22 : (t603 : Int) ≤ ((t602.length : Int) : Int) := of_decide_eq_true (by first | (with_reducible assumption) | assumption)
        obtain ⟨i022, hi022, _, hsz22, _⟩ := info_parts info9
        have hroom22 : t602.length ≤ co15 := (Kd.R_reads' HO605.out).2.1
        have hC22 : Kd.C Kd.string _ Ao15 t602.length t602 := (Kd.R_reads' HO605.out).2.2
        have hcut22 := cut_to (P := Try.prog) 22 9 .i64 Try.underlying22 hi022 Ao15 t602.length co15 t603 (of_decide_eq_true (by first | (with_reducible assumption) | assumption)) q22 hroom22
        have hr22 := Kd.C_take (m := (t603 : Int).toNat) hC22 (by omega)
        have hy22 : y611.length = (t603 : Int).toNat := (by rw [Ny611.out, List.length_take]; omega)
        rw [← Ny611.out] at hr22
        rw [← hy22] at hcut22
        have HR614 := Aside0.mk hr22
        have HC614 := Aside0.mk (show y611.length ≤ co15 from by omega)
        clear hr22 hC22 hroom22 hi022 hsz22
        have KY22 := Aside0.mk hy22
        clear hy22
        have KL22 := Aside0.mk (show (t603 : Int).toNat ≤ t602.length from by omega)
        replace q22 := eq_true q22
        have q23 : (t603 : Int) ≤ ((t602.length : Int) : Int) := of_decide_eq_true (by first | (with_reducible assumption) | assumption)
        obtain ⟨i023, hi023, _, hsz23, _⟩ := info_parts info9
        have hroom23 : t602.length ≤ co15 := (Kd.R_reads' HO605.out).2.1
        have hC23 : Kd.C Kd.string _ Ao15 t602.length t602 := (Kd.R_reads' HO605.out).2.2
        have q023 : (0 : Int) ≤ (t603 : Int) := of_decide_eq_true (by first | (with_reducible assumption) | assumption)
        have hcut23 := cut_from (P := Try.prog) 22 9 .i64 Try.underlying22 hi023 1 hsz23 Ao15 t602.length co15 t603 q023 q23
        have hr23 := Kd.C_drop (m := (t603 : Int).toNat) (c := co15) hC23 (by omega) hroom23
        obtain ⟨A23, hA23⟩ : ∃ A1, A1 = (if co15 = (t603 : Int).toNat then Ao15 else (Ao15 : Option Addr).map (·.add ((t603 : Int).toNat * 1))) := ⟨_, rfl⟩
        obtain ⟨c23, hc23⟩ : ∃ c1, c1 = co15 - (t603 : Int).toNat := ⟨_, rfl⟩
        have hy23 : y619.length = t602.length - (t603 : Int).toNat := (by rw [Ny619.out, List.length_drop] <;> omega)
        rw [show (t602).drop (t603 : Int).toNat = y619 from Ny619.out.symm] at hr23
        replace hr23 : Kd.C Kd.string _ A23 y619.length y619 := (by rw [hA23]; exact hr23)
        rw [← hy23, ← hA23, ← hc23] at hcut23
        have HR622 := Aside0.mk hr23
        have HC622 := Aside0.mk (show y619.length ≤ c23 from by rw [hy23, hc23]; exact Nat.sub_le_sub_right hroom23 _)
        clear hr23 hC23 hroom23 hi023 hsz23 hc23
        have KY23 := Aside0.mk hy23
        have KA23 := Aside0.mk hA23
        clear hy23 hA23
        have KL23 := Aside0.mk (show (t603 : Int).toNat ≤ t602.length from by omega)
        replace q23 := eq_true q23
        refine start_ (n := 14) (S := fun w' => True) (ds := []) #[false, false, false, false, false, false, false, false, false, false, false, false, false, false] (by kernel_rfl) rfl rfl trivial (fun hHeld => ?_); refine with_tabW laws_FnEdges.tab5 laws_FnEdges.bits5 (fun HT_ HW_ => ?_)
        generalize w20.drew = w21 at HO605 HO609 BK610 HB HR614 HR622 hHeld ⊢
        refine pure_ (i := 0) (N := some 20) (v := ?_) (a' := ?_) #[true, false, false, false, false, false, false, false, false, false, false, false, false, false] rfl rfl (any_of HT_.out (by kernel_rfl)) (fun _ _ _ h => h) (Or.inl ⟨by rfl, ?_⟩) ?_ ?_
        rotate_left
        · intro w'
          go_simp
          with_reducible rfl
        rotate_left
        · simp only [Act.put, List.setIfInBounds_toArray, List.set_cons_zero, List.set_cons_succ, i64_w, i32_w]
          rfl
        refine pure_ (i := 1) (N := some 21) (v := ?_) (a' := ?_) #[true, true, false, false, false, false, false, false, false, false, false, false, false, false] rfl rfl (any_of HT_.out (by kernel_rfl)) (fun _ _ _ h => h) (Or.inl ⟨by rfl, ?_⟩) ?_ ?_
        rotate_left
        · intro w'
          go_simp
          with_reducible rfl
        rotate_left
        · simp only [Act.put, List.setIfInBounds_toArray, List.set_cons_zero, List.set_cons_succ, i64_w, i32_w]
          rfl
        refine pure_ (i := 2) (N := some 22) (v := ?_) (a' := ?_) #[true, true, true, false, false, false, false, false, false, false, false, false, false, false] rfl rfl (any_of HT_.out (by kernel_rfl)) (fun _ _ _ h => h) (Or.inl ⟨by rfl, ?_⟩) ?_ ?_
        rotate_left
        · intro w'
          go_simp
          with_reducible rfl
        rotate_left
        · simp only [Act.put, List.setIfInBounds_toArray, List.set_cons_zero, List.set_cons_succ, i64_w, i32_w]
          rfl
        refine pure_ (i := 4) (N := some 24) (v := ?_) (a' := ?_) #[true, true, true, false, true, false, false, false, false, false, false, false, false, false] rfl rfl (any_of HT_.out (by kernel_rfl)) (fun _ _ _ h => h) (Or.inl ⟨by rfl, ?_⟩) ?_ ?_
        rotate_left
        · intro w'
          go_simp
          with_reducible rfl
        rotate_left
        · simp only [Act.put, List.setIfInBounds_toArray, List.set_cons_zero, List.set_cons_succ, i64_w, i32_w]
          rfl
        refine pure_ (i := 5) (N := some 25) (v := ?_) (a' := ?_) #[true, true, true, false, true, true, false, false, false, false, false, false, false, false] rfl rfl (any_of HT_.out (by kernel_rfl)) (fun _ _ _ h => h) (Or.inl ⟨by rfl, ?_⟩) ?_ ?_
        rotate_left
        · intro w'
          go_simp
          with_reducible rfl
        rotate_left
        · simp only [Act.put, List.setIfInBounds_toArray, List.set_cons_zero, List.set_cons_succ, i64_w, i32_w]
          rfl
        refine pure_ (i := 6) (N := some 26) (v := ?_) (a' := ?_) #[true, true, true, false, true, true, true, false, false, false, false, false, false, false] rfl rfl (any_of HT_.out (by kernel_rfl)) (fun _ _ _ h => h) (Or.inl ⟨by rfl, ?_⟩) ?_ ?_
        rotate_left
        · intro w'
          go_simp
          with_reducible rfl
        rotate_left
        · simp only [Act.put, List.setIfInBounds_toArray, List.set_cons_zero, List.set_cons_succ, i64_w, i32_w]
          rfl
        refine join_ (σ := Value × Value × Nat) 2 #[true, true, true, true, true, true, true, true, true, true, true, true, false, false] (fun s_ => [(23, .agg #[.int .i64 t615, s_.1]), (27, .tuple #[.agg #[.int .i64 t623, s_.2.1], .bool t627]), (6, .pointer (some ⟨s_.2.2, 0, none⟩)), (19, .tuple #[.agg #[.int .i64 t623, s_.2.1], .bool t627]), (28, .agg #[.int .i64 t623, s_.2.1]), (29, .bool t627)]) (fun s_ w' => (Kd.R Kd.string 9 w' w.heap.size (fun k_ => some k_ ≠ (.slice Ao19 t607.length co19 : Value).ownBlock ∧ some k_ ≠ (s_.1 : Value).ownBlock ∧ some k_ ≠ (s_.2.1 : Value).ownBlock) (.slice Ao15 t602.length co15) t602) ∧ (Kd.R Kd.string 9 w' w.heap.size (fun k_ => some k_ ≠ (.slice Ao15 t602.length co15 : Value).ownBlock ∧ some k_ ≠ (s_.1 : Value).ownBlock ∧ some k_ ≠ (s_.2.1 : Value).ownBlock) (.slice Ao19 t607.length co19) t607) ∧ (Kd.R Kd.string 9 w' w.heap.size (fun k_ => some k_ ≠ (.slice Ao15 t602.length co15 : Value).ownBlock ∧ some k_ ≠ (.slice Ao19 t607.length co19 : Value).ownBlock ∧ some k_ ≠ (s_.2.1 : Value).ownBlock) s_.1 t616) ∧ (Kd.R Kd.string 9 w' w.heap.size (fun k_ => some k_ ≠ (.slice Ao15 t602.length co15 : Value).ownBlock ∧ some k_ ≠ (.slice Ao19 t607.length co19 : Value).ownBlock ∧ some k_ ≠ (s_.1 : Value).ownBlock) s_.2.1 t624) ∧ (w'.heap[gb610]? = some (.cells #[.int .i64 t606, .slice Ao19 t607.length co19] 32 (0, 0))) ∧ (w'.heap[s_.2.2]? = some (.cells #[.int .i64 0, .slice none 0 0] 32 (0, 0))) ∧ (w.heap.size ≤ s_.2.2) ∧ (w.heap.size ≤ s_.2.2) ∧ (gb610 ≠ s_.2.2) ∧ (s_.2.2 ≠ gb610) ∧ (Below w.heap.size w w')) ?_ ?_
        rotate_left
        · intro hCont
          refine two_ (i := 3) (j := 11) (Ni := some 23) (Nj := some 6) #[true, true, true, true, true, true, true, false, false, false, false, false, false, false] #[true, true, true, false, true, true, true, false, false, false, false, true, false, false] rfl rfl rfl rfl (two_of HT_.out (by kernel_rfl)) (by decide) (by decide) (fun K hK => ?_) (fun K hK => ?_)
          · skip
            refine goes_ Try.func22 (by kernel_rfl) rfl #[.slice Ao15 y611.length co15] (by rfl) rfl rfl (by (try simp only [List.map_toArray, List.map_cons, List.map_nil]); first | done | rfl | (simp only [List.length_drop, List.length_take]; rfl)) ?_
            with_reducible refine (impl_EdgeOf.calls _ _ y611 t615 t616 _ ?side1 ?side2 A8.out).mono ?_
            (case side1 => repeat (first | exact (by repeat (first | (with_reducible exact HR614.out) | (with_reducible refine Kd.C_alloc ?_ _) | (with_reducible refine Kd.C_drewN ?_ _) | (with_reducible refine Kd.C_drew ?_) | exact HR614.out)) | (with_reducible refine Kd.C_alloc ?_ _) | (with_reducible refine Kd.C_drewN ?_ _) | (with_reducible refine Kd.C_drew ?_)))
            (case side2 => exact HC614.out)
            rintro e w24 ⟨v617, rfl, ho0, hb⟩
            refine ⟨_, rfl, ?_⟩
            have n0_ := Aside0.mk (Kd.R_elder' (by (with_reducible repeat (first | apply Kd.R_alloc | apply Kd.R_drewN | apply Kd.R_drew)); exact HO605.out) (Kd.R_base ho0) hb)
            have n1_ := Aside0.mk (Kd.R_elder' (by (with_reducible repeat (first | apply Kd.R_alloc | apply Kd.R_drewN | apply Kd.R_drew)); exact HO609.out) (Kd.R_base ho0) hb)
            have n2_ := Aside0.mk (Kd.R_lower (Kd.R_new' (Kd.R_new' ho0 (Kd.R_lt (by (with_reducible repeat (first | apply Kd.R_alloc | apply Kd.R_drewN | apply Kd.R_drew)); exact HO605.out))) (Kd.R_lt (by (with_reducible repeat (first | apply Kd.R_alloc | apply Kd.R_drewN | apply Kd.R_drew)); exact HO609.out))) (below_size (by repeat (first | (with_reducible first | exact HB.out | apply below_alloc | apply pw_below_drewN | apply below_drew1 | refine below_set ?_ GE610.out) | exact HB.out))))
            have n3_ := Aside0.mk (blk_below (g := gb610) (o := .cells #[.int .i64 t606, .slice Ao19 t607.length co19] 32 (0, 0)) (by (with_reducible repeat (first | refine blk_drewN ?_ _ | refine blk_drew ?_ | refine blk_alloc ?_ _)); exact BK610.out) hb)
            have n4_ := Aside0.mk (Kd.C_below (by repeat (first | (with_reducible exact HR614.out) | (with_reducible refine Kd.C_alloc ?_ _) | (with_reducible refine Kd.C_drewN ?_ _) | (with_reducible refine Kd.C_drew ?_) | exact HR614.out)) hb)
            have n5_ := Aside0.mk (Kd.C_below (by repeat (first | (with_reducible exact HR622.out) | (with_reducible refine Kd.C_alloc ?_ _) | (with_reducible refine Kd.C_drewN ?_ _) | (with_reducible refine Kd.C_drew ?_) | exact HR622.out)) hb)
            have n6_ := Aside0.mk (below_step (by repeat (first | (with_reducible first | exact HB.out | apply below_alloc | apply pw_below_drewN | apply below_drew1 | refine below_set ?_ GE610.out) | exact HB.out)) hb)
            clear HO605
            clear HO609
            clear BK610
            clear HR614
            clear HR622
            clear HB
            have HO605 := n0_
            have HO609 := n1_
            have HO618 := n2_
            have BK610 := n3_
            have HR614 := n4_
            have HR622 := n5_
            have HB := n6_
            clear n0_ n1_ n2_ n3_ n4_ n5_ n6_
            (try clear hb)
            (try clear hb2)
            (try clear hk)
            (try clear hi)
            (try clear ho0)
            obtain ⟨Ao25, co25, eo25⟩ := Kd.R_slice HO618.out
            (first | subst eo25 | (injection eo25 with f1_ f2_ f3_; have f4_ := f1_.symm; have f5_ := f3_.symm; clear f1_ f2_ f3_; subst f4_; subst f5_))
            refine hK.out _ _ trivial (fun hHeld => ?_)
            clear hK K
            refine norm_ (a' := ?_) ?_ ?_
            rotate_left
            · show Act.put _ (some 23) _ = _
              simp only [Act.put, List.setIfInBounds_toArray, List.set_cons_zero, List.set_cons_succ, i64_w, i32_w]
              rfl
            refine two_ (i := 7) (j := 11) (Ni := some 27) (Nj := some 6) #[true, true, true, true, true, true, true, true, false, false, false, false, false, false] #[true, true, true, true, true, true, true, false, false, false, false, true, false, false] rfl rfl rfl rfl (two_of HT_.out (by kernel_rfl)) (by decide) (by decide) (fun K hK => ?_) (fun K hK => ?_)
            · skip
              refine goes_ Try.func29 (by kernel_rfl) rfl #[.agg #[.int .i64 t615, .slice Ao25 t616.length co25], .slice A23 y619.length c23] (by rfl) rfl rfl (by (try simp only [List.map_toArray, List.map_cons, List.map_nil]); first | done | rfl | (simp only [List.length_drop, List.length_take]; rfl)) ?_
              with_reducible refine (impl_EdgeAll.calls k t615 _ _ t616 _ _ y619 t623 t624 t627 _ ?side1 ?side2 ?side3 ?side4 A11.out).mono ?_
              (case side1 => repeat (first | exact (Kd.R_reads' HO618.out).2.2 | (with_reducible refine Kd.C_alloc ?_ _) | (with_reducible refine Kd.C_drewN ?_ _) | (with_reducible refine Kd.C_drew ?_)))
              (case side2 => exact (Kd.R_reads' HO618.out).2.1)
              (case side3 => repeat (first | exact (by repeat (first | (with_reducible exact HR622.out) | (with_reducible refine Kd.C_alloc ?_ _) | (with_reducible refine Kd.C_drewN ?_ _) | (with_reducible refine Kd.C_drew ?_) | exact HR622.out)) | (with_reducible refine Kd.C_alloc ?_ _) | (with_reducible refine Kd.C_drewN ?_ _) | (with_reducible refine Kd.C_drew ?_)))
              (case side4 => exact HC622.out)
              rintro e w26 ⟨v625, rfl, ho0, hb⟩
              refine ⟨_, rfl, ?_⟩
              have n0_ := Aside0.mk (Kd.R_elder' (by (with_reducible repeat (first | apply Kd.R_alloc | apply Kd.R_drewN | apply Kd.R_drew)); exact HO605.out) (Kd.R_base ho0) hb)
              have n1_ := Aside0.mk (Kd.R_elder' (by (with_reducible repeat (first | apply Kd.R_alloc | apply Kd.R_drewN | apply Kd.R_drew)); exact HO609.out) (Kd.R_base ho0) hb)
              have n2_ := Aside0.mk (Kd.R_elder' (by (with_reducible repeat (first | apply Kd.R_alloc | apply Kd.R_drewN | apply Kd.R_drew)); exact HO618.out) (Kd.R_base ho0) hb)
              have n3_ := Aside0.mk (Kd.R_lower (Kd.R_new' (Kd.R_new' (Kd.R_new' ho0 (Kd.R_lt (by (with_reducible repeat (first | apply Kd.R_alloc | apply Kd.R_drewN | apply Kd.R_drew)); exact HO605.out))) (Kd.R_lt (by (with_reducible repeat (first | apply Kd.R_alloc | apply Kd.R_drewN | apply Kd.R_drew)); exact HO609.out))) (Kd.R_lt (by (with_reducible repeat (first | apply Kd.R_alloc | apply Kd.R_drewN | apply Kd.R_drew)); exact HO618.out))) (below_size (by repeat (first | (with_reducible first | exact HB.out | apply below_alloc | apply pw_below_drewN | apply below_drew1 | refine below_set ?_ GE610.out) | exact HB.out))))
              have n4_ := Aside0.mk (blk_below (g := gb610) (o := .cells #[.int .i64 t606, .slice Ao19 t607.length co19] 32 (0, 0)) (by (with_reducible repeat (first | refine blk_drewN ?_ _ | refine blk_drew ?_ | refine blk_alloc ?_ _)); exact BK610.out) hb)
              have n5_ := Aside0.mk (Kd.C_below (by repeat (first | (with_reducible exact HR614.out) | (with_reducible refine Kd.C_alloc ?_ _) | (with_reducible refine Kd.C_drewN ?_ _) | (with_reducible refine Kd.C_drew ?_) | exact HR614.out)) hb)
              have n6_ := Aside0.mk (Kd.C_below (by repeat (first | (with_reducible exact HR622.out) | (with_reducible refine Kd.C_alloc ?_ _) | (with_reducible refine Kd.C_drewN ?_ _) | (with_reducible refine Kd.C_drew ?_) | exact HR622.out)) hb)
              have n7_ := Aside0.mk (below_step (by repeat (first | (with_reducible first | exact HB.out | apply below_alloc | apply pw_below_drewN | apply below_drew1 | refine below_set ?_ GE610.out) | exact HB.out)) hb)
              clear HO605
              clear HO609
              clear HO618
              clear BK610
              clear HR614
              clear HR622
              clear HB
              have HO605 := n0_
              have HO609 := n1_
              have HO618 := n2_
              have HO626 := n3_
              have BK610 := n4_
              have HR614 := n5_
              have HR622 := n6_
              have HB := n7_
              clear n0_ n1_ n2_ n3_ n4_ n5_ n6_ n7_
              (try clear hb)
              (try clear hb2)
              (try clear hk)
              (try clear hi)
              (try clear ho0)
              refine hK.out _ _ trivial (fun hHeld => ?_)
              clear hK K
              refine norm_ (a' := ?_) ?_ ?_
              rotate_left
              · show Act.put _ (some 27) _ = _
                simp only [Act.put, List.setIfInBounds_toArray, List.set_cons_zero, List.set_cons_succ, i64_w, i32_w]
                rfl
              refine pure_ (i := 8) (N := some 19) (v := ?_) (a' := ?_) #[true, true, true, true, true, true, true, true, true, false, false, false, false, false] rfl rfl (any_of HT_.out (by kernel_rfl)) (fun _ _ _ h => h) (Or.inl ⟨by rfl, ?_⟩) ?_ ?_
              rotate_left
              · intro w'
                go_simp
                with_reducible rfl
              rotate_left
              · simp only [Act.put, List.setIfInBounds_toArray, List.set_cons_zero, List.set_cons_succ, i64_w, i32_w]
                rfl
              refine pure_ (i := 9) (N := some 28) (v := ?_) (a' := ?_) #[true, true, true, true, true, true, true, true, true, true, false, false, false, false] rfl rfl (any_of HT_.out (by kernel_rfl)) (fun _ _ _ h => h) (Or.inl ⟨by rfl, ?_⟩) ?_ ?_
              rotate_left
              · intro w'
                go_simp
                with_reducible rfl
              rotate_left
              · simp only [Act.put, List.setIfInBounds_toArray, List.set_cons_zero, List.set_cons_succ, i64_w, i32_w]
                rfl
              refine pure_ (i := 10) (N := some 29) (v := ?_) (a' := ?_) #[true, true, true, true, true, true, true, true, true, true, true, false, false, false] rfl rfl (any_of HT_.out (by kernel_rfl)) (fun _ _ _ h => h) (Or.inl ⟨by rfl, ?_⟩) ?_ ?_
              rotate_left
              · intro w'
                go_simp
                with_reducible rfl
              rotate_left
              · simp only [Act.put, List.setIfInBounds_toArray, List.set_cons_zero, List.set_cons_succ, i64_w, i32_w]
                rfl
              refine one_ (i := 11) (N := some 6) #[true, true, true, true, true, true, true, true, true, true, true, true, false, false] rfl rfl (one_of HT_.out (by kernel_rfl)) (by decide) (fun K hK => ?_)
              refine box_step ?hg (N := 6) ?hd (cs := #[.int .i64 0, .slice none 0 0]) (t := 32) ?hr ?_; (case hd => rfl); (case hg => rfl); (case hr => first | (go_simp; done) | (go_simp; rfl))
              intro gb628 hg w27 hbox hb
              have n0_ := Aside0.mk (Kd.R_below (by (with_reducible repeat (first | apply Kd.R_alloc | apply Kd.R_drewN | apply Kd.R_drew)); exact HO605.out) hb)
              have n1_ := Aside0.mk (Kd.R_below (by (with_reducible repeat (first | apply Kd.R_alloc | apply Kd.R_drewN | apply Kd.R_drew)); exact HO609.out) hb)
              have n2_ := Aside0.mk (Kd.R_below (by (with_reducible repeat (first | apply Kd.R_alloc | apply Kd.R_drewN | apply Kd.R_drew)); exact HO618.out) hb)
              have n3_ := Aside0.mk (Kd.R_below (by (with_reducible repeat (first | apply Kd.R_alloc | apply Kd.R_drewN | apply Kd.R_drew)); exact HO626.out) hb)
              have n4_ := Aside0.mk (blk_below (g := gb610) (o := .cells #[.int .i64 t606, .slice Ao19 t607.length co19] 32 (0, 0)) (by (with_reducible repeat (first | refine blk_drewN ?_ _ | refine blk_drew ?_ | refine blk_alloc ?_ _)); exact BK610.out) hb)
              have n5_ := Aside0.mk (Kd.C_below (by repeat (first | (with_reducible exact HR614.out) | (with_reducible refine Kd.C_alloc ?_ _) | (with_reducible refine Kd.C_drewN ?_ _) | (with_reducible refine Kd.C_drew ?_) | exact HR614.out)) hb)
              have n6_ := Aside0.mk (Kd.C_below (by repeat (first | (with_reducible exact HR622.out) | (with_reducible refine Kd.C_alloc ?_ _) | (with_reducible refine Kd.C_drewN ?_ _) | (with_reducible refine Kd.C_drew ?_) | exact HR622.out)) hb)
              have n7_ := Aside0.mk (below_step (by repeat (first | (with_reducible first | exact HB.out | apply below_alloc | apply pw_below_drewN | apply below_drew1 | refine below_set ?_ GE610.out) | exact HB.out)) hb)
              have n8_ := Aside0.mk (hbox)
              have n9_ := Aside0.mk ((by rw [hg]; exact (below_size (by repeat (first | (with_reducible first | exact HB.out | apply below_alloc | apply pw_below_drewN | apply below_drew1 | refine below_set ?_ GE610.out) | exact HB.out))) : w.heap.size ≤ gb628))
              have n10_ := Aside0.mk ((by rw [hg]; exact (below_size (by repeat (first | (with_reducible first | exact HB.out | apply below_alloc | apply pw_below_drewN | apply below_drew1 | refine below_set ?_ GE610.out) | exact HB.out))) : w.heap.size ≤ gb628))
              have n11_ := Aside0.mk ((by rw [hg]; exact Nat.ne_of_lt (blk_lt (g := gb610) (o := .cells #[.int .i64 t606, .slice Ao19 t607.length co19] 32 (0, 0)) (by (with_reducible repeat (first | refine blk_drewN ?_ _ | refine blk_drew ?_ | refine blk_alloc ?_ _)); exact BK610.out)) : gb610 ≠ gb628))
              have n12_ := Aside0.mk ((by rw [hg]; exact Nat.ne_of_gt (blk_lt (g := gb610) (o := .cells #[.int .i64 t606, .slice Ao19 t607.length co19] 32 (0, 0)) (by (with_reducible repeat (first | refine blk_drewN ?_ _ | refine blk_drew ?_ | refine blk_alloc ?_ _)); exact BK610.out)) : gb628 ≠ gb610))
              clear HO605
              clear HO609
              clear HO618
              clear HO626
              clear BK610
              clear HR614
              clear HR622
              clear HB
              have HO605 := n0_
              have HO609 := n1_
              have HO618 := n2_
              have HO626 := n3_
              have BK610 := n4_
              have HR614 := n5_
              have HR622 := n6_
              have HB := n7_
              have BK628 := n8_
              have GW628 := n9_
              have GE628 := n10_
              have NB610_628 := n11_
              have NB628_610 := n12_
              clear n0_ n1_ n2_ n3_ n4_ n5_ n6_ n7_ n8_ n9_ n10_ n11_ n12_
              clear hb hbox hg
              refine hK.out _ _ trivial (fun hHeld => ?_)
              clear hK K
              refine norm_ (a' := ?_) ?_ ?_
              rotate_left
              · show Act.put _ (some 6) _ = _
                simp only [Act.put, List.setIfInBounds_toArray, List.set_cons_zero, List.set_cons_succ, i64_w, i32_w]
                rfl
              exact norm_ (by simp only [putAll, Act.put, List.setIfInBounds_toArray, List.set_cons_zero, List.set_cons_succ]) (hCont (.slice Ao25 t616.length co25, v625, gb628) _ ⟨(by (with_reducible repeat (first | apply Kd.R_alloc | apply Kd.R_drewN | apply Kd.R_drew)); exact Kd.R_mono HO605.out (fun _ hk => ⟨hk.1.1, ⟨hk.1.2, hk.2⟩⟩)), (by (with_reducible repeat (first | apply Kd.R_alloc | apply Kd.R_drewN | apply Kd.R_drew)); exact Kd.R_mono HO609.out (fun _ hk => ⟨hk.1.1, ⟨hk.1.2, hk.2⟩⟩)), (by (with_reducible repeat (first | apply Kd.R_alloc | apply Kd.R_drewN | apply Kd.R_drew)); exact Kd.R_mono HO618.out (fun _ hk => ⟨hk.1.1.2, ⟨hk.1.2, hk.2⟩⟩)), (by (with_reducible repeat (first | apply Kd.R_alloc | apply Kd.R_drewN | apply Kd.R_drew)); exact Kd.R_mono HO626.out (fun _ hk => ⟨hk.1.1.2, ⟨hk.1.2, hk.2⟩⟩)), (by (with_reducible repeat (first | refine blk_drewN ?_ _ | refine blk_drew ?_ | refine blk_alloc ?_ _)); exact BK610.out), (by (with_reducible repeat (first | refine blk_drewN ?_ _ | refine blk_drew ?_ | refine blk_alloc ?_ _)); exact BK628.out), GW628.out, GE628.out, NB610_628.out, NB628_610.out, (by repeat (first | (with_reducible first | exact HB.out | apply below_alloc | apply pw_below_drewN | apply below_drew1 | refine below_set ?_ GE610.out | refine below_set ?_ GE628.out) | exact HB.out))⟩)
            · skip
              refine box_step ?hg (N := 6) ?hd (cs := #[.int .i64 0, .slice none 0 0]) (t := 32) ?hr ?_; (case hd => rfl); (case hg => rfl); (case hr => first | (go_simp; done) | (go_simp; rfl))
              intro gb628 hg w25 hbox hb
              have n0_ := Aside0.mk (Kd.R_below (by (with_reducible repeat (first | apply Kd.R_alloc | apply Kd.R_drewN | apply Kd.R_drew)); exact HO605.out) hb)
              have n1_ := Aside0.mk (Kd.R_below (by (with_reducible repeat (first | apply Kd.R_alloc | apply Kd.R_drewN | apply Kd.R_drew)); exact HO609.out) hb)
              have n2_ := Aside0.mk (Kd.R_below (by (with_reducible repeat (first | apply Kd.R_alloc | apply Kd.R_drewN | apply Kd.R_drew)); exact HO618.out) hb)
              have n3_ := Aside0.mk (blk_below (g := gb610) (o := .cells #[.int .i64 t606, .slice Ao19 t607.length co19] 32 (0, 0)) (by (with_reducible repeat (first | refine blk_drewN ?_ _ | refine blk_drew ?_ | refine blk_alloc ?_ _)); exact BK610.out) hb)
              have n4_ := Aside0.mk (Kd.C_below (by repeat (first | (with_reducible exact HR614.out) | (with_reducible refine Kd.C_alloc ?_ _) | (with_reducible refine Kd.C_drewN ?_ _) | (with_reducible refine Kd.C_drew ?_) | exact HR614.out)) hb)
              have n5_ := Aside0.mk (Kd.C_below (by repeat (first | (with_reducible exact HR622.out) | (with_reducible refine Kd.C_alloc ?_ _) | (with_reducible refine Kd.C_drewN ?_ _) | (with_reducible refine Kd.C_drew ?_) | exact HR622.out)) hb)
              have n6_ := Aside0.mk (below_step (by repeat (first | (with_reducible first | exact HB.out | apply below_alloc | apply pw_below_drewN | apply below_drew1 | refine below_set ?_ GE610.out) | exact HB.out)) hb)
              have n7_ := Aside0.mk (hbox)
              have n8_ := Aside0.mk ((by rw [hg]; exact (below_size (by repeat (first | (with_reducible first | exact HB.out | apply below_alloc | apply pw_below_drewN | apply below_drew1 | refine below_set ?_ GE610.out) | exact HB.out))) : w.heap.size ≤ gb628))
              have n9_ := Aside0.mk ((by rw [hg]; exact (below_size (by repeat (first | (with_reducible first | exact HB.out | apply below_alloc | apply pw_below_drewN | apply below_drew1 | refine below_set ?_ GE610.out) | exact HB.out))) : w.heap.size ≤ gb628))
              have n10_ := Aside0.mk ((by rw [hg]; exact Nat.ne_of_lt (blk_lt (g := gb610) (o := .cells #[.int .i64 t606, .slice Ao19 t607.length co19] 32 (0, 0)) (by (with_reducible repeat (first | refine blk_drewN ?_ _ | refine blk_drew ?_ | refine blk_alloc ?_ _)); exact BK610.out)) : gb610 ≠ gb628))
              have n11_ := Aside0.mk ((by rw [hg]; exact Nat.ne_of_gt (blk_lt (g := gb610) (o := .cells #[.int .i64 t606, .slice Ao19 t607.length co19] 32 (0, 0)) (by (with_reducible repeat (first | refine blk_drewN ?_ _ | refine blk_drew ?_ | refine blk_alloc ?_ _)); exact BK610.out)) : gb628 ≠ gb610))
              clear HO605
              clear HO609
              clear HO618
              clear BK610
              clear HR614
              clear HR622
              clear HB
              have HO605 := n0_
              have HO609 := n1_
              have HO618 := n2_
              have BK610 := n3_
              have HR614 := n4_
              have HR622 := n5_
              have HB := n6_
              have BK628 := n7_
              have GW628 := n8_
              have GE628 := n9_
              have NB610_628 := n10_
              have NB628_610 := n11_
              clear n0_ n1_ n2_ n3_ n4_ n5_ n6_ n7_ n8_ n9_ n10_ n11_
              clear hb hbox hg
              obtain ⟨Ao26, co26, eo26⟩ := Kd.R_slice HO618.out
              (first | subst eo26 | (injection eo26 with f1_ f2_ f3_; have f4_ := f1_.symm; have f5_ := f3_.symm; clear f1_ f2_ f3_; subst f4_; subst f5_))
              refine hK.out _ _ trivial (fun hHeld => ?_)
              clear hK K
              refine norm_ (a' := ?_) ?_ ?_
              rotate_left
              · show Act.put _ (some 6) _ = _
                simp only [Act.put, List.setIfInBounds_toArray, List.set_cons_zero, List.set_cons_succ, i64_w, i32_w]
                rfl
              refine one_ (i := 7) (N := some 27) #[true, true, true, true, true, true, true, true, false, false, false, true, false, false] rfl rfl (one_of HT_.out (by kernel_rfl)) (by decide) (fun K hK => ?_)
              refine goes_ Try.func29 (by kernel_rfl) rfl #[.agg #[.int .i64 t615, .slice Ao26 t616.length co26], .slice A23 y619.length c23] (by rfl) rfl rfl (by (try simp only [List.map_toArray, List.map_cons, List.map_nil]); first | done | rfl | (simp only [List.length_drop, List.length_take]; rfl)) ?_
              with_reducible refine (impl_EdgeAll.calls k t615 _ _ t616 _ _ y619 t623 t624 t627 _ ?side1 ?side2 ?side3 ?side4 A11.out).mono ?_
              (case side1 => repeat (first | exact (Kd.R_reads' HO618.out).2.2 | (with_reducible refine Kd.C_alloc ?_ _) | (with_reducible refine Kd.C_drewN ?_ _) | (with_reducible refine Kd.C_drew ?_)))
              (case side2 => exact (Kd.R_reads' HO618.out).2.1)
              (case side3 => repeat (first | exact (by repeat (first | (with_reducible exact HR622.out) | (with_reducible refine Kd.C_alloc ?_ _) | (with_reducible refine Kd.C_drewN ?_ _) | (with_reducible refine Kd.C_drew ?_) | exact HR622.out)) | (with_reducible refine Kd.C_alloc ?_ _) | (with_reducible refine Kd.C_drewN ?_ _) | (with_reducible refine Kd.C_drew ?_)))
              (case side4 => exact HC622.out)
              rintro e w27 ⟨v625, rfl, ho0, hb⟩
              refine ⟨_, rfl, ?_⟩
              have n0_ := Aside0.mk (Kd.R_elder' (by (with_reducible repeat (first | apply Kd.R_alloc | apply Kd.R_drewN | apply Kd.R_drew)); exact HO605.out) (Kd.R_base ho0) hb)
              have n1_ := Aside0.mk (Kd.R_elder' (by (with_reducible repeat (first | apply Kd.R_alloc | apply Kd.R_drewN | apply Kd.R_drew)); exact HO609.out) (Kd.R_base ho0) hb)
              have n2_ := Aside0.mk (Kd.R_elder' (by (with_reducible repeat (first | apply Kd.R_alloc | apply Kd.R_drewN | apply Kd.R_drew)); exact HO618.out) (Kd.R_base ho0) hb)
              have n3_ := Aside0.mk (Kd.R_lower (Kd.R_new' (Kd.R_new' (Kd.R_new' ho0 (Kd.R_lt (by (with_reducible repeat (first | apply Kd.R_alloc | apply Kd.R_drewN | apply Kd.R_drew)); exact HO605.out))) (Kd.R_lt (by (with_reducible repeat (first | apply Kd.R_alloc | apply Kd.R_drewN | apply Kd.R_drew)); exact HO609.out))) (Kd.R_lt (by (with_reducible repeat (first | apply Kd.R_alloc | apply Kd.R_drewN | apply Kd.R_drew)); exact HO618.out))) (below_size (by repeat (first | (with_reducible first | exact HB.out | apply below_alloc | apply pw_below_drewN | apply below_drew1 | refine below_set ?_ GE610.out | refine below_set ?_ GE628.out) | exact HB.out))))
              have n4_ := Aside0.mk (blk_below (g := gb610) (o := .cells #[.int .i64 t606, .slice Ao19 t607.length co19] 32 (0, 0)) (by (with_reducible repeat (first | refine blk_drewN ?_ _ | refine blk_drew ?_ | refine blk_alloc ?_ _)); exact BK610.out) hb)
              have n5_ := Aside0.mk (Kd.C_below (by repeat (first | (with_reducible exact HR614.out) | (with_reducible refine Kd.C_alloc ?_ _) | (with_reducible refine Kd.C_drewN ?_ _) | (with_reducible refine Kd.C_drew ?_) | exact HR614.out)) hb)
              have n6_ := Aside0.mk (Kd.C_below (by repeat (first | (with_reducible exact HR622.out) | (with_reducible refine Kd.C_alloc ?_ _) | (with_reducible refine Kd.C_drewN ?_ _) | (with_reducible refine Kd.C_drew ?_) | exact HR622.out)) hb)
              have n7_ := Aside0.mk (blk_below (g := gb628) (o := .cells #[.int .i64 0, .slice none 0 0] 32 (0, 0)) (by (with_reducible repeat (first | refine blk_drewN ?_ _ | refine blk_drew ?_ | refine blk_alloc ?_ _)); exact BK628.out) hb)
              have n8_ := Aside0.mk (below_step (by repeat (first | (with_reducible first | exact HB.out | apply below_alloc | apply pw_below_drewN | apply below_drew1 | refine below_set ?_ GE610.out | refine below_set ?_ GE628.out) | exact HB.out)) hb)
              clear HO605
              clear HO609
              clear HO618
              clear BK610
              clear HR614
              clear HR622
              clear BK628
              clear HB
              have HO605 := n0_
              have HO609 := n1_
              have HO618 := n2_
              have HO626 := n3_
              have BK610 := n4_
              have HR614 := n5_
              have HR622 := n6_
              have BK628 := n7_
              have HB := n8_
              clear n0_ n1_ n2_ n3_ n4_ n5_ n6_ n7_ n8_
              (try clear hb)
              (try clear hb2)
              (try clear hk)
              (try clear hi)
              (try clear ho0)
              refine hK.out _ _ trivial (fun hHeld => ?_)
              clear hK K
              refine norm_ (a' := ?_) ?_ ?_
              rotate_left
              · show Act.put _ (some 27) _ = _
                simp only [Act.put, List.setIfInBounds_toArray, List.set_cons_zero, List.set_cons_succ, i64_w, i32_w]
                rfl
              refine pure_ (i := 8) (N := some 19) (v := ?_) (a' := ?_) #[true, true, true, true, true, true, true, true, true, false, false, true, false, false] rfl rfl (any_of HT_.out (by kernel_rfl)) (fun _ _ _ h => h) (Or.inl ⟨by rfl, ?_⟩) ?_ ?_
              rotate_left
              · intro w'
                go_simp
                with_reducible rfl
              rotate_left
              · simp only [Act.put, List.setIfInBounds_toArray, List.set_cons_zero, List.set_cons_succ, i64_w, i32_w]
                rfl
              refine pure_ (i := 9) (N := some 28) (v := ?_) (a' := ?_) #[true, true, true, true, true, true, true, true, true, true, false, true, false, false] rfl rfl (any_of HT_.out (by kernel_rfl)) (fun _ _ _ h => h) (Or.inl ⟨by rfl, ?_⟩) ?_ ?_
              rotate_left
              · intro w'
                go_simp
                with_reducible rfl
              rotate_left
              · simp only [Act.put, List.setIfInBounds_toArray, List.set_cons_zero, List.set_cons_succ, i64_w, i32_w]
                rfl
              refine pure_ (i := 10) (N := some 29) (v := ?_) (a' := ?_) #[true, true, true, true, true, true, true, true, true, true, true, true, false, false] rfl rfl (any_of HT_.out (by kernel_rfl)) (fun _ _ _ h => h) (Or.inl ⟨by rfl, ?_⟩) ?_ ?_
              rotate_left
              · intro w'
                go_simp
                with_reducible rfl
              rotate_left
              · simp only [Act.put, List.setIfInBounds_toArray, List.set_cons_zero, List.set_cons_succ, i64_w, i32_w]
                rfl
              exact norm_ (by simp only [putAll, Act.put, List.setIfInBounds_toArray, List.set_cons_zero, List.set_cons_succ]) (hCont (.slice Ao26 t616.length co26, v625, gb628) _ ⟨(by (with_reducible repeat (first | apply Kd.R_alloc | apply Kd.R_drewN | apply Kd.R_drew)); exact Kd.R_mono HO605.out (fun _ hk => ⟨hk.1.1, ⟨hk.1.2, hk.2⟩⟩)), (by (with_reducible repeat (first | apply Kd.R_alloc | apply Kd.R_drewN | apply Kd.R_drew)); exact Kd.R_mono HO609.out (fun _ hk => ⟨hk.1.1, ⟨hk.1.2, hk.2⟩⟩)), (by (with_reducible repeat (first | apply Kd.R_alloc | apply Kd.R_drewN | apply Kd.R_drew)); exact Kd.R_mono HO618.out (fun _ hk => ⟨hk.1.1.2, ⟨hk.1.2, hk.2⟩⟩)), (by (with_reducible repeat (first | apply Kd.R_alloc | apply Kd.R_drewN | apply Kd.R_drew)); exact Kd.R_mono HO626.out (fun _ hk => ⟨hk.1.1.2, ⟨hk.1.2, hk.2⟩⟩)), (by (with_reducible repeat (first | refine blk_drewN ?_ _ | refine blk_drew ?_ | refine blk_alloc ?_ _)); exact BK610.out), (by (with_reducible repeat (first | refine blk_drewN ?_ _ | refine blk_drew ?_ | refine blk_alloc ?_ _)); exact BK628.out), GW628.out, GE628.out, NB610_628.out, NB628_610.out, (by repeat (first | (with_reducible first | exact HB.out | apply below_alloc | apply pw_below_drewN | apply below_drew1 | refine below_set ?_ GE610.out | refine below_set ?_ GE628.out) | exact HB.out))⟩)
          · skip
            refine box_step ?hg (N := 6) ?hd (cs := #[.int .i64 0, .slice none 0 0]) (t := 32) ?hr ?_; (case hd => rfl); (case hg => rfl); (case hr => first | (go_simp; done) | (go_simp; rfl))
            intro gb628 hg w24 hbox hb
            have n0_ := Aside0.mk (Kd.R_below (by (with_reducible repeat (first | apply Kd.R_alloc | apply Kd.R_drewN | apply Kd.R_drew)); exact HO605.out) hb)
            have n1_ := Aside0.mk (Kd.R_below (by (with_reducible repeat (first | apply Kd.R_alloc | apply Kd.R_drewN | apply Kd.R_drew)); exact HO609.out) hb)
            have n2_ := Aside0.mk (blk_below (g := gb610) (o := .cells #[.int .i64 t606, .slice Ao19 t607.length co19] 32 (0, 0)) (by (with_reducible repeat (first | refine blk_drewN ?_ _ | refine blk_drew ?_ | refine blk_alloc ?_ _)); exact BK610.out) hb)
            have n3_ := Aside0.mk (Kd.C_below (by repeat (first | (with_reducible exact HR614.out) | (with_reducible refine Kd.C_alloc ?_ _) | (with_reducible refine Kd.C_drewN ?_ _) | (with_reducible refine Kd.C_drew ?_) | exact HR614.out)) hb)
            have n4_ := Aside0.mk (Kd.C_below (by repeat (first | (with_reducible exact HR622.out) | (with_reducible refine Kd.C_alloc ?_ _) | (with_reducible refine Kd.C_drewN ?_ _) | (with_reducible refine Kd.C_drew ?_) | exact HR622.out)) hb)
            have n5_ := Aside0.mk (below_step (by repeat (first | (with_reducible first | exact HB.out | apply below_alloc | apply pw_below_drewN | apply below_drew1 | refine below_set ?_ GE610.out) | exact HB.out)) hb)
            have n6_ := Aside0.mk (hbox)
            have n7_ := Aside0.mk ((by rw [hg]; exact (below_size (by repeat (first | (with_reducible first | exact HB.out | apply below_alloc | apply pw_below_drewN | apply below_drew1 | refine below_set ?_ GE610.out) | exact HB.out))) : w.heap.size ≤ gb628))
            have n8_ := Aside0.mk ((by rw [hg]; exact (below_size (by repeat (first | (with_reducible first | exact HB.out | apply below_alloc | apply pw_below_drewN | apply below_drew1 | refine below_set ?_ GE610.out) | exact HB.out))) : w.heap.size ≤ gb628))
            have n9_ := Aside0.mk ((by rw [hg]; exact Nat.ne_of_lt (blk_lt (g := gb610) (o := .cells #[.int .i64 t606, .slice Ao19 t607.length co19] 32 (0, 0)) (by (with_reducible repeat (first | refine blk_drewN ?_ _ | refine blk_drew ?_ | refine blk_alloc ?_ _)); exact BK610.out)) : gb610 ≠ gb628))
            have n10_ := Aside0.mk ((by rw [hg]; exact Nat.ne_of_gt (blk_lt (g := gb610) (o := .cells #[.int .i64 t606, .slice Ao19 t607.length co19] 32 (0, 0)) (by (with_reducible repeat (first | refine blk_drewN ?_ _ | refine blk_drew ?_ | refine blk_alloc ?_ _)); exact BK610.out)) : gb628 ≠ gb610))
            clear HO605
            clear HO609
            clear BK610
            clear HR614
            clear HR622
            clear HB
            have HO605 := n0_
            have HO609 := n1_
            have BK610 := n2_
            have HR614 := n3_
            have HR622 := n4_
            have HB := n5_
            have BK628 := n6_
            have GW628 := n7_
            have GE628 := n8_
            have NB610_628 := n9_
            have NB628_610 := n10_
            clear n0_ n1_ n2_ n3_ n4_ n5_ n6_ n7_ n8_ n9_ n10_
            clear hb hbox hg
            refine hK.out _ _ trivial (fun hHeld => ?_)
            clear hK K
            refine norm_ (a' := ?_) ?_ ?_
            rotate_left
            · show Act.put _ (some 6) _ = _
              simp only [Act.put, List.setIfInBounds_toArray, List.set_cons_zero, List.set_cons_succ, i64_w, i32_w]
              rfl
            refine one_ (i := 3) (N := some 23) #[true, true, true, true, true, true, true, false, false, false, false, true, false, false] rfl rfl (one_of HT_.out (by kernel_rfl)) (by decide) (fun K hK => ?_)
            refine goes_ Try.func22 (by kernel_rfl) rfl #[.slice Ao15 y611.length co15] (by rfl) rfl rfl (by (try simp only [List.map_toArray, List.map_cons, List.map_nil]); first | done | rfl | (simp only [List.length_drop, List.length_take]; rfl)) ?_
            with_reducible refine (impl_EdgeOf.calls _ _ y611 t615 t616 _ ?side1 ?side2 A8.out).mono ?_
            (case side1 => repeat (first | exact (by repeat (first | (with_reducible exact HR614.out) | (with_reducible refine Kd.C_alloc ?_ _) | (with_reducible refine Kd.C_drewN ?_ _) | (with_reducible refine Kd.C_drew ?_) | exact HR614.out)) | (with_reducible refine Kd.C_alloc ?_ _) | (with_reducible refine Kd.C_drewN ?_ _) | (with_reducible refine Kd.C_drew ?_)))
            (case side2 => exact HC614.out)
            rintro e w25 ⟨v617, rfl, ho0, hb⟩
            refine ⟨_, rfl, ?_⟩
            have n0_ := Aside0.mk (Kd.R_elder' (by (with_reducible repeat (first | apply Kd.R_alloc | apply Kd.R_drewN | apply Kd.R_drew)); exact HO605.out) (Kd.R_base ho0) hb)
            have n1_ := Aside0.mk (Kd.R_elder' (by (with_reducible repeat (first | apply Kd.R_alloc | apply Kd.R_drewN | apply Kd.R_drew)); exact HO609.out) (Kd.R_base ho0) hb)
            have n2_ := Aside0.mk (Kd.R_lower (Kd.R_new' (Kd.R_new' ho0 (Kd.R_lt (by (with_reducible repeat (first | apply Kd.R_alloc | apply Kd.R_drewN | apply Kd.R_drew)); exact HO605.out))) (Kd.R_lt (by (with_reducible repeat (first | apply Kd.R_alloc | apply Kd.R_drewN | apply Kd.R_drew)); exact HO609.out))) (below_size (by repeat (first | (with_reducible first | exact HB.out | apply below_alloc | apply pw_below_drewN | apply below_drew1 | refine below_set ?_ GE610.out | refine below_set ?_ GE628.out) | exact HB.out))))
            have n3_ := Aside0.mk (blk_below (g := gb610) (o := .cells #[.int .i64 t606, .slice Ao19 t607.length co19] 32 (0, 0)) (by (with_reducible repeat (first | refine blk_drewN ?_ _ | refine blk_drew ?_ | refine blk_alloc ?_ _)); exact BK610.out) hb)
            have n4_ := Aside0.mk (Kd.C_below (by repeat (first | (with_reducible exact HR614.out) | (with_reducible refine Kd.C_alloc ?_ _) | (with_reducible refine Kd.C_drewN ?_ _) | (with_reducible refine Kd.C_drew ?_) | exact HR614.out)) hb)
            have n5_ := Aside0.mk (Kd.C_below (by repeat (first | (with_reducible exact HR622.out) | (with_reducible refine Kd.C_alloc ?_ _) | (with_reducible refine Kd.C_drewN ?_ _) | (with_reducible refine Kd.C_drew ?_) | exact HR622.out)) hb)
            have n6_ := Aside0.mk (blk_below (g := gb628) (o := .cells #[.int .i64 0, .slice none 0 0] 32 (0, 0)) (by (with_reducible repeat (first | refine blk_drewN ?_ _ | refine blk_drew ?_ | refine blk_alloc ?_ _)); exact BK628.out) hb)
            have n7_ := Aside0.mk (below_step (by repeat (first | (with_reducible first | exact HB.out | apply below_alloc | apply pw_below_drewN | apply below_drew1 | refine below_set ?_ GE610.out | refine below_set ?_ GE628.out) | exact HB.out)) hb)
            clear HO605
            clear HO609
            clear BK610
            clear HR614
            clear HR622
            clear BK628
            clear HB
            have HO605 := n0_
            have HO609 := n1_
            have HO618 := n2_
            have BK610 := n3_
            have HR614 := n4_
            have HR622 := n5_
            have BK628 := n6_
            have HB := n7_
            clear n0_ n1_ n2_ n3_ n4_ n5_ n6_ n7_
            (try clear hb)
            (try clear hb2)
            (try clear hk)
            (try clear hi)
            (try clear ho0)
            obtain ⟨Ao26, co26, eo26⟩ := Kd.R_slice HO618.out
            (first | subst eo26 | (injection eo26 with f1_ f2_ f3_; have f4_ := f1_.symm; have f5_ := f3_.symm; clear f1_ f2_ f3_; subst f4_; subst f5_))
            refine hK.out _ _ trivial (fun hHeld => ?_)
            clear hK K
            refine norm_ (a' := ?_) ?_ ?_
            rotate_left
            · show Act.put _ (some 23) _ = _
              simp only [Act.put, List.setIfInBounds_toArray, List.set_cons_zero, List.set_cons_succ, i64_w, i32_w]
              rfl
            refine one_ (i := 7) (N := some 27) #[true, true, true, true, true, true, true, true, false, false, false, true, false, false] rfl rfl (one_of HT_.out (by kernel_rfl)) (by decide) (fun K hK => ?_)
            refine goes_ Try.func29 (by kernel_rfl) rfl #[.agg #[.int .i64 t615, .slice Ao26 t616.length co26], .slice A23 y619.length c23] (by rfl) rfl rfl (by (try simp only [List.map_toArray, List.map_cons, List.map_nil]); first | done | rfl | (simp only [List.length_drop, List.length_take]; rfl)) ?_
            with_reducible refine (impl_EdgeAll.calls k t615 _ _ t616 _ _ y619 t623 t624 t627 _ ?side1 ?side2 ?side3 ?side4 A11.out).mono ?_
            (case side1 => repeat (first | exact (Kd.R_reads' HO618.out).2.2 | (with_reducible refine Kd.C_alloc ?_ _) | (with_reducible refine Kd.C_drewN ?_ _) | (with_reducible refine Kd.C_drew ?_)))
            (case side2 => exact (Kd.R_reads' HO618.out).2.1)
            (case side3 => repeat (first | exact (by repeat (first | (with_reducible exact HR622.out) | (with_reducible refine Kd.C_alloc ?_ _) | (with_reducible refine Kd.C_drewN ?_ _) | (with_reducible refine Kd.C_drew ?_) | exact HR622.out)) | (with_reducible refine Kd.C_alloc ?_ _) | (with_reducible refine Kd.C_drewN ?_ _) | (with_reducible refine Kd.C_drew ?_)))
            (case side4 => exact HC622.out)
            rintro e w27 ⟨v625, rfl, ho0, hb⟩
            refine ⟨_, rfl, ?_⟩
            have n0_ := Aside0.mk (Kd.R_elder' (by (with_reducible repeat (first | apply Kd.R_alloc | apply Kd.R_drewN | apply Kd.R_drew)); exact HO605.out) (Kd.R_base ho0) hb)
            have n1_ := Aside0.mk (Kd.R_elder' (by (with_reducible repeat (first | apply Kd.R_alloc | apply Kd.R_drewN | apply Kd.R_drew)); exact HO609.out) (Kd.R_base ho0) hb)
            have n2_ := Aside0.mk (Kd.R_elder' (by (with_reducible repeat (first | apply Kd.R_alloc | apply Kd.R_drewN | apply Kd.R_drew)); exact HO618.out) (Kd.R_base ho0) hb)
            have n3_ := Aside0.mk (Kd.R_lower (Kd.R_new' (Kd.R_new' (Kd.R_new' ho0 (Kd.R_lt (by (with_reducible repeat (first | apply Kd.R_alloc | apply Kd.R_drewN | apply Kd.R_drew)); exact HO605.out))) (Kd.R_lt (by (with_reducible repeat (first | apply Kd.R_alloc | apply Kd.R_drewN | apply Kd.R_drew)); exact HO609.out))) (Kd.R_lt (by (with_reducible repeat (first | apply Kd.R_alloc | apply Kd.R_drewN | apply Kd.R_drew)); exact HO618.out))) (below_size (by repeat (first | (with_reducible first | exact HB.out | apply below_alloc | apply pw_below_drewN | apply below_drew1 | refine below_set ?_ GE610.out | refine below_set ?_ GE628.out) | exact HB.out))))
            have n4_ := Aside0.mk (blk_below (g := gb610) (o := .cells #[.int .i64 t606, .slice Ao19 t607.length co19] 32 (0, 0)) (by (with_reducible repeat (first | refine blk_drewN ?_ _ | refine blk_drew ?_ | refine blk_alloc ?_ _)); exact BK610.out) hb)
            have n5_ := Aside0.mk (Kd.C_below (by repeat (first | (with_reducible exact HR614.out) | (with_reducible refine Kd.C_alloc ?_ _) | (with_reducible refine Kd.C_drewN ?_ _) | (with_reducible refine Kd.C_drew ?_) | exact HR614.out)) hb)
            have n6_ := Aside0.mk (Kd.C_below (by repeat (first | (with_reducible exact HR622.out) | (with_reducible refine Kd.C_alloc ?_ _) | (with_reducible refine Kd.C_drewN ?_ _) | (with_reducible refine Kd.C_drew ?_) | exact HR622.out)) hb)
            have n7_ := Aside0.mk (blk_below (g := gb628) (o := .cells #[.int .i64 0, .slice none 0 0] 32 (0, 0)) (by (with_reducible repeat (first | refine blk_drewN ?_ _ | refine blk_drew ?_ | refine blk_alloc ?_ _)); exact BK628.out) hb)
            have n8_ := Aside0.mk (below_step (by repeat (first | (with_reducible first | exact HB.out | apply below_alloc | apply pw_below_drewN | apply below_drew1 | refine below_set ?_ GE610.out | refine below_set ?_ GE628.out) | exact HB.out)) hb)
            clear HO605
            clear HO609
            clear HO618
            clear BK610
            clear HR614
            clear HR622
            clear BK628
            clear HB
            have HO605 := n0_
            have HO609 := n1_
            have HO618 := n2_
            have HO626 := n3_
            have BK610 := n4_
            have HR614 := n5_
            have HR622 := n6_
            have BK628 := n7_
            have HB := n8_
            clear n0_ n1_ n2_ n3_ n4_ n5_ n6_ n7_ n8_
            (try clear hb)
            (try clear hb2)
            (try clear hk)
            (try clear hi)
            (try clear ho0)
            refine hK.out _ _ trivial (fun hHeld => ?_)
            clear hK K
            refine norm_ (a' := ?_) ?_ ?_
            rotate_left
            · show Act.put _ (some 27) _ = _
              simp only [Act.put, List.setIfInBounds_toArray, List.set_cons_zero, List.set_cons_succ, i64_w, i32_w]
              rfl
            refine pure_ (i := 8) (N := some 19) (v := ?_) (a' := ?_) #[true, true, true, true, true, true, true, true, true, false, false, true, false, false] rfl rfl (any_of HT_.out (by kernel_rfl)) (fun _ _ _ h => h) (Or.inl ⟨by rfl, ?_⟩) ?_ ?_
            rotate_left
            · intro w'
              go_simp
              with_reducible rfl
            rotate_left
            · simp only [Act.put, List.setIfInBounds_toArray, List.set_cons_zero, List.set_cons_succ, i64_w, i32_w]
              rfl
            refine pure_ (i := 9) (N := some 28) (v := ?_) (a' := ?_) #[true, true, true, true, true, true, true, true, true, true, false, true, false, false] rfl rfl (any_of HT_.out (by kernel_rfl)) (fun _ _ _ h => h) (Or.inl ⟨by rfl, ?_⟩) ?_ ?_
            rotate_left
            · intro w'
              go_simp
              with_reducible rfl
            rotate_left
            · simp only [Act.put, List.setIfInBounds_toArray, List.set_cons_zero, List.set_cons_succ, i64_w, i32_w]
              rfl
            refine pure_ (i := 10) (N := some 29) (v := ?_) (a' := ?_) #[true, true, true, true, true, true, true, true, true, true, true, true, false, false] rfl rfl (any_of HT_.out (by kernel_rfl)) (fun _ _ _ h => h) (Or.inl ⟨by rfl, ?_⟩) ?_ ?_
            rotate_left
            · intro w'
              go_simp
              with_reducible rfl
            rotate_left
            · simp only [Act.put, List.setIfInBounds_toArray, List.set_cons_zero, List.set_cons_succ, i64_w, i32_w]
              rfl
            exact norm_ (by simp only [putAll, Act.put, List.setIfInBounds_toArray, List.set_cons_zero, List.set_cons_succ]) (hCont (.slice Ao26 t616.length co26, v625, gb628) _ ⟨(by (with_reducible repeat (first | apply Kd.R_alloc | apply Kd.R_drewN | apply Kd.R_drew)); exact Kd.R_mono HO605.out (fun _ hk => ⟨hk.1.1, ⟨hk.1.2, hk.2⟩⟩)), (by (with_reducible repeat (first | apply Kd.R_alloc | apply Kd.R_drewN | apply Kd.R_drew)); exact Kd.R_mono HO609.out (fun _ hk => ⟨hk.1.1, ⟨hk.1.2, hk.2⟩⟩)), (by (with_reducible repeat (first | apply Kd.R_alloc | apply Kd.R_drewN | apply Kd.R_drew)); exact Kd.R_mono HO618.out (fun _ hk => ⟨hk.1.1.2, ⟨hk.1.2, hk.2⟩⟩)), (by (with_reducible repeat (first | apply Kd.R_alloc | apply Kd.R_drewN | apply Kd.R_drew)); exact Kd.R_mono HO626.out (fun _ hk => ⟨hk.1.1.2, ⟨hk.1.2, hk.2⟩⟩)), (by (with_reducible repeat (first | refine blk_drewN ?_ _ | refine blk_drew ?_ | refine blk_alloc ?_ _)); exact BK610.out), (by (with_reducible repeat (first | refine blk_drewN ?_ _ | refine blk_drew ?_ | refine blk_alloc ?_ _)); exact BK628.out), GW628.out, GE628.out, NB610_628.out, NB628_610.out, (by repeat (first | (with_reducible first | exact HB.out | apply below_alloc | apply pw_below_drewN | apply below_drew1 | refine below_set ?_ GE610.out | refine below_set ?_ GE628.out) | exact HB.out))⟩)
        rintro ⟨v617, v625, gb628⟩ w28 ⟨h0_, h1_, h2_, h3_, h4_, h5_, h6_, h7_, h8_, h9_, h10_⟩
        have n0_ : Aside0 (Kd.R Kd.string 9 w28 w.heap.size (fun k_ => some k_ ≠ (.slice Ao19 t607.length co19 : Value).ownBlock ∧ some k_ ≠ (v617 : Value).ownBlock ∧ some k_ ≠ (v625 : Value).ownBlock) (.slice Ao15 t602.length co15) t602) := ⟨h0_⟩
        have n1_ : Aside0 (Kd.R Kd.string 9 w28 w.heap.size (fun k_ => some k_ ≠ (.slice Ao15 t602.length co15 : Value).ownBlock ∧ some k_ ≠ (v617 : Value).ownBlock ∧ some k_ ≠ (v625 : Value).ownBlock) (.slice Ao19 t607.length co19) t607) := ⟨h1_⟩
        have n2_ : Aside0 (Kd.R Kd.string 9 w28 w.heap.size (fun k_ => some k_ ≠ (.slice Ao15 t602.length co15 : Value).ownBlock ∧ some k_ ≠ (.slice Ao19 t607.length co19 : Value).ownBlock ∧ some k_ ≠ (v625 : Value).ownBlock) v617 t616) := ⟨h2_⟩
        have n3_ : Aside0 (Kd.R Kd.string 9 w28 w.heap.size (fun k_ => some k_ ≠ (.slice Ao15 t602.length co15 : Value).ownBlock ∧ some k_ ≠ (.slice Ao19 t607.length co19 : Value).ownBlock ∧ some k_ ≠ (v617 : Value).ownBlock) v625 t624) := ⟨h3_⟩
        have n4_ : Aside0 (w28.heap[gb610]? = some (.cells #[.int .i64 t606, .slice Ao19 t607.length co19] 32 (0, 0))) := ⟨h4_⟩
        have n5_ : Aside0 (w28.heap[gb628]? = some (.cells #[.int .i64 0, .slice none 0 0] 32 (0, 0))) := ⟨h5_⟩
        have n6_ : Aside0 (w.heap.size ≤ gb628) := ⟨h6_⟩
        have n7_ : Aside0 (w.heap.size ≤ gb628) := ⟨h7_⟩
        have n8_ : Aside0 (gb610 ≠ gb628) := ⟨h8_⟩
        have n9_ : Aside0 (gb628 ≠ gb610) := ⟨h9_⟩
        have n10_ : Aside0 (Below w.heap.size w w28) := ⟨h10_⟩
        clear HO605
        clear HO609
        clear BK610
        clear HB
        clear h0_ h1_ h2_ h3_ h4_ h5_ h6_ h7_ h8_ h9_ h10_
        have HO605 := n0_
        have HO609 := n1_
        have HO618 := n2_
        have HO626 := n3_
        have BK610 := n4_
        have BK628 := n5_
        have GW628 := n6_
        have GE628 := n7_
        have NB610_628 := n8_
        have NB628_610 := n9_
        have HB := n10_
        clear n0_ n1_ n2_ n3_ n4_ n5_ n6_ n7_ n8_ n9_ n10_
        have hHeld := trivial
        obtain ⟨Ao30, co30, eo30⟩ := Kd.R_slice HO626.out
        (first | subst eo30 | (injection eo30 with f1_ f2_ f3_; have f4_ := f1_.symm; have f5_ := f3_.symm; clear f1_ f2_ f3_; subst f4_; subst f5_))
        refine norm_ (a' := ?_) ?_ ?_
        rotate_left
        · simp only [putAll, Act.put, List.setIfInBounds_toArray, List.set_cons_zero, List.set_cons_succ]
          rfl
        refine one_ (i := 12) (N := none) #[true, true, true, true, true, true, true, true, true, true, true, true, true, false] rfl rfl (one_of HT_.out (by kernel_rfl)) (by decide) (fun K hK => ?_)
        have hs29 : w28.cell? ⟨gb628, 0, none⟩ = some (.int .i64 0) := (blk_cell BK628.out 0).trans rfl
        have hfs29 := blk_frozen BK628.out 0
        have hns29_0 := NB610_628.out
        have hms29_0 := NB628_610.out
        have hs31 : w28.cell? ⟨gb628, 1, none⟩ = some (.slice none 0 0) := (blk_cell BK628.out 1).trans rfl
        have hfs31 := blk_frozen BK628.out 1
        have hns31_0 := NB610_628.out
        have hms31_0 := NB628_610.out
        refine skip_ (w1 := ?_) (by rfl) rfl ?_ ?_
        rotate_left
        · go_simp
          rfl
        refine hK.out _ _ trivial (fun hHeld => ?_)
        clear hK K
        refine pure_ (i := 13) (N := some 7) (v := ?_) (a' := ?_) #[true, true, true, true, true, true, true, true, true, true, true, true, true, true] rfl rfl (any_of HT_.out (by kernel_rfl)) (fun _ _ _ h => h) (Or.inl ⟨by rfl, ?_⟩) ?_ ?_
        rotate_left
        · intro w'
          go_simp
          with_reducible rfl
        rotate_left
        · simp only [Act.put, List.setIfInBounds_toArray, List.set_cons_zero, List.set_cons_succ, i64_w, i32_w]
          rfl
        refine done_ (done_of HT_.out (by kernel_rfl)) ?_
        have hnb32 := NB610_628.out
        have hnc32 := NB628_610.out
        have hcz33_0 : w28.cell? ⟨gb610, 0, none⟩ = some (.int .i64 t606) := (blk_cell BK610.out 0).trans rfl
        have hcz33_1 : w28.cell? ⟨gb610, 1, none⟩ = some (.slice Ao19 t607.length co19) := (blk_cell BK610.out 1).trans rfl
        have hfz33_0 := blk_frozen BK610.out 0
        have hfz33_1 := blk_frozen BK610.out 1
        go_upto_region 7 with (first | ((with_reducible refine gate_callee (f := 30) rfl ?_); refine goesL_ (some 32) rfl rfl Try.func30 (by kernel_rfl) rfl #[.agg #[.int .i64 t606, .slice Ao19 t607.length co19], .string (⟨#[120]⟩ : ByteArray)] rfl (by (try simp only [List.map_toArray, List.map_cons, List.map_nil]); first | done | rfl | (simp only [List.length_drop, List.length_take]; rfl)) ?_; (with_reducible refine (impl_EdgeAdd.calls t606 _ _ t607 (⟨#[120]⟩ : ByteArray) t629 t630 t633 _ ?side1 ?side2 A12.out).mono ?_); (case side1 => refine (Kd.R_reads' (e := 9) (base := w.heap.size) (ok := fun k_ => (some k_ ≠ (.slice Ao15 t602.length co15 : Value).ownBlock ∧ (some k_ ≠ (v617 : Value).ownBlock ∧ some k_ ≠ (.slice Ao30 t624.length co30 : Value).ownBlock))) (n := t607.length) (c := co19) ?_).2.2; exact (by (with_reducible repeat (first | apply Kd.R_alloc | apply Kd.R_drewN | apply Kd.R_drew)); exact (Kd.R_mono (Kd.R_far (p := ⟨gb628, 1, none⟩) (Kd.R_far (p := ⟨gb628, 0, none⟩) (Kd.R_types HO609.out BK628.out (by decide)) (fun _ hk => hk.2) (.int .i64 t623)) (fun _ hk => hk.2) (.slice Ao30 t624.length co30)) (fun _ h_ => h_.1)))); (case side2 => exact (Kd.R_reads' HO609.out).2.1); rintro e w34 ⟨v631, rfl, ho0, hb⟩; refine ⟨_, rfl, ?_⟩; have n0_ := Aside0.mk (Kd.R_elder' (by (with_reducible repeat (first | apply Kd.R_alloc | apply Kd.R_drewN | apply Kd.R_drew)); exact (Kd.R_mono (Kd.R_far (p := ⟨gb628, 1, none⟩) (Kd.R_far (p := ⟨gb628, 0, none⟩) (Kd.R_types HO605.out BK628.out (by decide)) (fun _ hk => hk.2) (.int .i64 t623)) (fun _ hk => hk.2) (.slice Ao30 t624.length co30)) (fun _ h_ => h_.1))) (Kd.R_base ho0) hb); have n1_ := Aside0.mk (Kd.R_elder' (by (with_reducible repeat (first | apply Kd.R_alloc | apply Kd.R_drewN | apply Kd.R_drew)); exact (Kd.R_mono (Kd.R_far (p := ⟨gb628, 1, none⟩) (Kd.R_far (p := ⟨gb628, 0, none⟩) (Kd.R_types HO609.out BK628.out (by decide)) (fun _ hk => hk.2) (.int .i64 t623)) (fun _ hk => hk.2) (.slice Ao30 t624.length co30)) (fun _ h_ => h_.1))) (Kd.R_base ho0) hb); have n2_ := Aside0.mk (Kd.R_elder' (by (with_reducible repeat (first | apply Kd.R_alloc | apply Kd.R_drewN | apply Kd.R_drew)); exact (Kd.R_mono (Kd.R_far (p := ⟨gb628, 1, none⟩) (Kd.R_far (p := ⟨gb628, 0, none⟩) (Kd.R_types HO618.out BK628.out (by decide)) (fun _ hk => hk.2) (.int .i64 t623)) (fun _ hk => hk.2) (.slice Ao30 t624.length co30)) (fun _ h_ => h_.1))) (Kd.R_base ho0) hb); have n3_ := Aside0.mk (Kd.R_elder' (by (with_reducible repeat (first | apply Kd.R_alloc | apply Kd.R_drewN | apply Kd.R_drew)); exact (Kd.R_mono (Kd.R_far (p := ⟨gb628, 1, none⟩) (Kd.R_far (p := ⟨gb628, 0, none⟩) (Kd.R_types HO626.out BK628.out (by decide)) (fun _ hk => hk.2) (.int .i64 t623)) (fun _ hk => hk.2) (.slice Ao30 t624.length co30)) (fun _ h_ => h_.1))) (Kd.R_base ho0) hb); have n4_ := Aside0.mk (Kd.R_lower (Kd.R_new' (Kd.R_new' (Kd.R_new' (Kd.R_new' ho0 (Kd.R_lt (by (with_reducible repeat (first | apply Kd.R_alloc | apply Kd.R_drewN | apply Kd.R_drew)); exact (Kd.R_mono (Kd.R_far (p := ⟨gb628, 1, none⟩) (Kd.R_far (p := ⟨gb628, 0, none⟩) (Kd.R_types HO605.out BK628.out (by decide)) (fun _ hk => hk.2) (.int .i64 t623)) (fun _ hk => hk.2) (.slice Ao30 t624.length co30)) (fun _ h_ => h_.1))))) (Kd.R_lt (by (with_reducible repeat (first | apply Kd.R_alloc | apply Kd.R_drewN | apply Kd.R_drew)); exact (Kd.R_mono (Kd.R_far (p := ⟨gb628, 1, none⟩) (Kd.R_far (p := ⟨gb628, 0, none⟩) (Kd.R_types HO609.out BK628.out (by decide)) (fun _ hk => hk.2) (.int .i64 t623)) (fun _ hk => hk.2) (.slice Ao30 t624.length co30)) (fun _ h_ => h_.1))))) (Kd.R_lt (by (with_reducible repeat (first | apply Kd.R_alloc | apply Kd.R_drewN | apply Kd.R_drew)); exact (Kd.R_mono (Kd.R_far (p := ⟨gb628, 1, none⟩) (Kd.R_far (p := ⟨gb628, 0, none⟩) (Kd.R_types HO618.out BK628.out (by decide)) (fun _ hk => hk.2) (.int .i64 t623)) (fun _ hk => hk.2) (.slice Ao30 t624.length co30)) (fun _ h_ => h_.1))))) (Kd.R_lt (by (with_reducible repeat (first | apply Kd.R_alloc | apply Kd.R_drewN | apply Kd.R_drew)); exact (Kd.R_mono (Kd.R_far (p := ⟨gb628, 1, none⟩) (Kd.R_far (p := ⟨gb628, 0, none⟩) (Kd.R_types HO626.out BK628.out (by decide)) (fun _ hk => hk.2) (.int .i64 t623)) (fun _ hk => hk.2) (.slice Ao30 t624.length co30)) (fun _ h_ => h_.1))))) (below_size (by repeat (first | (with_reducible first | exact HB.out | apply below_alloc | apply pw_below_drewN | apply below_drew1 | refine below_set ?_ GE610.out | refine below_set ?_ GE628.out) | exact HB.out)))); have n5_ := Aside0.mk (blk_below (g := gb610) (o := .cells #[.int .i64 t606, .slice Ao19 t607.length co19] 32 (0, 0)) (by (with_reducible repeat (first | refine blk_drewN ?_ _ | refine blk_drew ?_ | refine blk_alloc ?_ _)); refine blk_far ?_ NB610_628.out _; (with_reducible repeat (first | refine blk_drewN ?_ _ | refine blk_drew ?_ | refine blk_alloc ?_ _)); refine blk_far ?_ NB610_628.out _; (with_reducible repeat (first | refine blk_drewN ?_ _ | refine blk_drew ?_ | refine blk_alloc ?_ _)); exact BK610.out) hb); have n6_ := Aside0.mk (blk_below (g := gb628) (o := .cells #[.int .i64 t623, .slice Ao30 t624.length co30] 32 (0, 0)) (by (with_reducible repeat (first | refine blk_drewN ?_ _ | refine blk_drew ?_ | refine blk_alloc ?_ _)); refine blk_put (cs := #[.int .i64 t623, .slice none 0 0]) ?_ 1 _ rfl; (with_reducible repeat (first | refine blk_drewN ?_ _ | refine blk_drew ?_ | refine blk_alloc ?_ _)); refine blk_put (cs := #[.int .i64 0, .slice none 0 0]) ?_ 0 _ rfl; (with_reducible repeat (first | refine blk_drewN ?_ _ | refine blk_drew ?_ | refine blk_alloc ?_ _)); exact BK628.out) hb); have n7_ := Aside0.mk (below_step (by repeat (first | (with_reducible first | exact HB.out | apply below_alloc | apply pw_below_drewN | apply below_drew1 | refine below_set ?_ GE610.out | refine below_set ?_ GE628.out) | exact HB.out)) hb); clear HO605; clear HO609; clear HO618; clear HO626; clear BK610; clear BK628; clear HB; have HO605 := n0_; have HO609 := n1_; have HO618 := n2_; have HO626 := n3_; have HO632 := n4_; have BK610 := n5_; have BK628 := n6_; have HB := n7_; clear n0_ n1_ n2_ n3_ n4_ n5_ n6_ n7_; (try clear hb); (try clear hb2); (try clear hk); (try clear hi); (try clear ho0)) | ((with_reducible refine gate_dst (N := 8) rfl ?_); (try (refine gate_guard (by rfl) ?_; dsimp only)); refine box_event ?hg (N := 8) ?hd (cs := #[.int .i64 0, .slice none 0 0]) (t := 32) ?hr ?_; (case hd => rfl); (case hg => rfl); (case hr => first | (go_simp; done) | (go_simp; rfl)); intro gb634 hg w35 hbox hb; have n0_ := Aside0.mk (Kd.R_below (by (with_reducible repeat (first | apply Kd.R_alloc | apply Kd.R_drewN | apply Kd.R_drew)); exact HO605.out) hb); have n1_ := Aside0.mk (Kd.R_below (by (with_reducible repeat (first | apply Kd.R_alloc | apply Kd.R_drewN | apply Kd.R_drew)); exact HO609.out) hb); have n2_ := Aside0.mk (Kd.R_below (by (with_reducible repeat (first | apply Kd.R_alloc | apply Kd.R_drewN | apply Kd.R_drew)); exact HO618.out) hb); have n3_ := Aside0.mk (Kd.R_below (by (with_reducible repeat (first | apply Kd.R_alloc | apply Kd.R_drewN | apply Kd.R_drew)); exact HO626.out) hb); have n4_ := Aside0.mk (Kd.R_below (by (with_reducible repeat (first | apply Kd.R_alloc | apply Kd.R_drewN | apply Kd.R_drew)); exact HO632.out) hb); have n5_ := Aside0.mk (blk_below (g := gb610) (o := .cells #[.int .i64 t606, .slice Ao19 t607.length co19] 32 (0, 0)) (by (with_reducible repeat (first | refine blk_drewN ?_ _ | refine blk_drew ?_ | refine blk_alloc ?_ _)); exact BK610.out) hb); have n6_ := Aside0.mk (blk_below (g := gb628) (o := .cells #[.int .i64 t623, .slice Ao30 t624.length co30] 32 (0, 0)) (by (with_reducible repeat (first | refine blk_drewN ?_ _ | refine blk_drew ?_ | refine blk_alloc ?_ _)); exact BK628.out) hb); have n7_ := Aside0.mk (below_step (by repeat (first | (with_reducible first | exact HB.out | apply below_alloc | apply pw_below_drewN | apply below_drew1 | refine below_set ?_ GE610.out | refine below_set ?_ GE628.out) | exact HB.out)) hb); have n8_ := Aside0.mk (hbox); have n9_ := Aside0.mk ((by rw [hg]; exact (below_size (by repeat (first | (with_reducible first | exact HB.out | apply below_alloc | apply pw_below_drewN | apply below_drew1 | refine below_set ?_ GE610.out | refine below_set ?_ GE628.out) | exact HB.out))) : w.heap.size ≤ gb634)); have n10_ := Aside0.mk ((by rw [hg]; exact (below_size (by repeat (first | (with_reducible first | exact HB.out | apply below_alloc | apply pw_below_drewN | apply below_drew1 | refine below_set ?_ GE610.out | refine below_set ?_ GE628.out) | exact HB.out))) : w.heap.size ≤ gb634)); have n11_ := Aside0.mk ((by rw [hg]; exact Nat.ne_of_lt (blk_lt (g := gb610) (o := .cells #[.int .i64 t606, .slice Ao19 t607.length co19] 32 (0, 0)) (by (with_reducible repeat (first | refine blk_drewN ?_ _ | refine blk_drew ?_ | refine blk_alloc ?_ _)); exact BK610.out)) : gb610 ≠ gb634)); have n12_ := Aside0.mk ((by rw [hg]; exact Nat.ne_of_gt (blk_lt (g := gb610) (o := .cells #[.int .i64 t606, .slice Ao19 t607.length co19] 32 (0, 0)) (by (with_reducible repeat (first | refine blk_drewN ?_ _ | refine blk_drew ?_ | refine blk_alloc ?_ _)); exact BK610.out)) : gb634 ≠ gb610)); have n13_ := Aside0.mk ((by rw [hg]; exact Nat.ne_of_lt (blk_lt (g := gb628) (o := .cells #[.int .i64 t623, .slice Ao30 t624.length co30] 32 (0, 0)) (by (with_reducible repeat (first | refine blk_drewN ?_ _ | refine blk_drew ?_ | refine blk_alloc ?_ _)); exact BK628.out)) : gb628 ≠ gb634)); have n14_ := Aside0.mk ((by rw [hg]; exact Nat.ne_of_gt (blk_lt (g := gb628) (o := .cells #[.int .i64 t623, .slice Ao30 t624.length co30] 32 (0, 0)) (by (with_reducible repeat (first | refine blk_drewN ?_ _ | refine blk_drew ?_ | refine blk_alloc ?_ _)); exact BK628.out)) : gb634 ≠ gb628)); clear HO605; clear HO609; clear HO618; clear HO626; clear HO632; clear BK610; clear BK628; clear HB; have HO605 := n0_; have HO609 := n1_; have HO618 := n2_; have HO626 := n3_; have HO632 := n4_; have BK610 := n5_; have BK628 := n6_; have HB := n7_; have BK634 := n8_; have GW634 := n9_; have GE634 := n10_; have NB610_634 := n11_; have NB634_610 := n12_; have NB628_634 := n13_; have NB634_628 := n14_; clear n0_ n1_ n2_ n3_ n4_ n5_ n6_ n7_ n8_ n9_ n10_ n11_ n12_ n13_ n14_; clear hb hbox hg; have hnb36 := NB634_610.out; have hnc36 := NB610_634.out; have hnb37 := NB634_628.out; have hnc37 := NB628_634.out; have hcz38_0 : w35.cell? ⟨gb634, 0, none⟩ = some (.int .i64 0) := (blk_cell BK634.out 0).trans rfl; have hcz38_1 : w35.cell? ⟨gb634, 1, none⟩ = some (.slice none 0 0) := (blk_cell BK634.out 1).trans rfl; have hfz38_0 := blk_frozen BK634.out 0; have hfz38_1 := blk_frozen BK634.out 1; obtain ⟨Ao39, co39, eo39⟩ := Kd.R_slice HO632.out; subst eo39))
        (try simp only [Act.put, List.setIfInBounds_toArray, List.set_cons_zero, List.set_cons_succ])
        go_cut [74] (fun v74 wc => ∃ (kq : Nat) (x74_12 : Bool), v74 = .bool x74_12 ∧ Aside0 (laws_FnEdges.j0 kq t602 x74_12 t606 t607 t629 t630 = some r) ∧ Aside0 (kq ≤ k) ∧ Aside0 (Kd.R Kd.string 9 wc w.heap.size (fun k_ => some k_ ≠ ((.slice Ao19 t607.length co19) : Value).ownBlock ∧ some k_ ≠ ((.slice Ao30 t624.length co30) : Value).ownBlock ∧ some k_ ≠ ((.slice Ao39 t630.length co39) : Value).ownBlock) (.slice Ao15 t602.length co15) t602) ∧ Aside0 (Kd.R Kd.string 9 wc w.heap.size (fun k_ => some k_ ≠ ((.slice Ao15 t602.length co15) : Value).ownBlock ∧ some k_ ≠ ((.slice Ao30 t624.length co30) : Value).ownBlock ∧ some k_ ≠ ((.slice Ao39 t630.length co39) : Value).ownBlock) (.slice Ao19 t607.length co19) t607) ∧ Aside0 (Kd.R Kd.string 9 wc w.heap.size (fun k_ => some k_ ≠ ((.slice Ao15 t602.length co15) : Value).ownBlock ∧ some k_ ≠ ((.slice Ao19 t607.length co19) : Value).ownBlock ∧ some k_ ≠ ((.slice Ao39 t630.length co39) : Value).ownBlock) (.slice Ao30 t624.length co30) t624) ∧ Aside0 (Kd.R Kd.string 9 wc w.heap.size (fun k_ => some k_ ≠ ((.slice Ao15 t602.length co15) : Value).ownBlock ∧ some k_ ≠ ((.slice Ao19 t607.length co19) : Value).ownBlock ∧ some k_ ≠ ((.slice Ao30 t624.length co30) : Value).ownBlock) (.slice Ao39 t630.length co39) t630) ∧ Aside0 (wc.heap[gb610]? = some (.cells #[.int .i64 t606, (.slice Ao19 t607.length co19)] 32 (0, 0))) ∧ Aside0 (wc.heap[gb628]? = some (.cells #[.int .i64 t623, (.slice Ao30 t624.length co30)] 32 (0, 0))) ∧ Aside0 (wc.heap[gb634]? = some (.cells #[.int .i64 t629, (.slice Ao39 t630.length co39)] 32 (0, 0))) ∧ Aside0 (Below w.heap.size w wc))
        case first =>
          have H := HC13.out
          clear HC13
          by_cases c40 : t627 = true
          · subst c40
            have H1 : (if t633 = true then ((impl_EdgeOk.f k t606 t607).bind fun t635 => (if t635 = true then (if t606 = (t602.length : Int) then ((impl_EdgeRoot.f k t606 t607).bind fun t636 => ((impl_RootOf.f k t602).bind fun t637 => (if t636.toList = t637.toList then (if t623 = t606 then ((laws_sameTexts.f k t624 t607).bind fun t638 => (laws_FnEdges.j0 k t602 (!t638) t606 t607 t629 t630)) else (laws_FnEdges.j0 k t602 true t606 t607 t629 t630)) else (laws_FnEdges.j0 k t602 true t606 t607 t629 t630)))) else (laws_FnEdges.j0 k t602 true t606 t607 t629 t630)) else (laws_FnEdges.j0 k t602 true t606 t607 t629 t630))) else (laws_FnEdges.j0 k t602 true t606 t607 t629 t630)) = some r := by rw [if_pos rfl] at H; exact H
            clear H
            have H := H1
            clear H1
            by_cases c41 : t633 = true
            · subst c41
              have H1 : ((impl_EdgeOk.f k t606 t607).bind fun t635 => (if t635 = true then (if t606 = (t602.length : Int) then ((impl_EdgeRoot.f k t606 t607).bind fun t636 => ((impl_RootOf.f k t602).bind fun t637 => (if t636.toList = t637.toList then (if t623 = t606 then ((laws_sameTexts.f k t624 t607).bind fun t638 => (laws_FnEdges.j0 k t602 (!t638) t606 t607 t629 t630)) else (laws_FnEdges.j0 k t602 true t606 t607 t629 t630)) else (laws_FnEdges.j0 k t602 true t606 t607 t629 t630)))) else (laws_FnEdges.j0 k t602 true t606 t607 t629 t630)) else (laws_FnEdges.j0 k t602 true t606 t607 t629 t630))) = some r := by rw [if_pos rfl] at H; exact H
              clear H
              have H := H1
              clear H1
              replace H := Option.bind_eq_some_iff.mp H
              obtain ⟨t635, A420, H⟩ := H
              replace H : (if t635 = true then (if t606 = (t602.length : Int) then ((impl_EdgeRoot.f k t606 t607).bind fun t636 => ((impl_RootOf.f k t602).bind fun t637 => (if t636.toList = t637.toList then (if t623 = t606 then ((laws_sameTexts.f k t624 t607).bind fun t638 => (laws_FnEdges.j0 k t602 (!t638) t606 t607 t629 t630)) else (laws_FnEdges.j0 k t602 true t606 t607 t629 t630)) else (laws_FnEdges.j0 k t602 true t606 t607 t629 t630)))) else (laws_FnEdges.j0 k t602 true t606 t607 t629 t630)) else (laws_FnEdges.j0 k t602 true t606 t607 t629 t630)) = some r := H
              have A42 := Aside0.mk A420
              clear A420
              by_cases c43 : t635 = true
              · subst c43
                have H1 : (if t606 = (t602.length : Int) then ((impl_EdgeRoot.f k t606 t607).bind fun t636 => ((impl_RootOf.f k t602).bind fun t637 => (if t636.toList = t637.toList then (if t623 = t606 then ((laws_sameTexts.f k t624 t607).bind fun t638 => (laws_FnEdges.j0 k t602 (!t638) t606 t607 t629 t630)) else (laws_FnEdges.j0 k t602 true t606 t607 t629 t630)) else (laws_FnEdges.j0 k t602 true t606 t607 t629 t630)))) else (laws_FnEdges.j0 k t602 true t606 t607 t629 t630)) = some r := by rw [if_pos rfl] at H; exact H
                clear H
                have H := H1
                clear H1
                by_cases c44 : t606 = (t602.length : Int)
                · rw [if_pos c44] at H
                  have c44b0 : (t606 == (t602.length : Int)) = true := beq_iff_eq.mpr c44
                  have c44b1 : (t606 != (t602.length : Int)) = false := bne_eq_false_iff_eq.mpr c44
                  clear c44
                  (first | rw [c44b0] | (simp only [i64_w, i32_w]; rw [c44b0]) | skip)
                  replace H := Option.bind_eq_some_iff.mp H
                  obtain ⟨t636, A450, H⟩ := H
                  replace H : ((impl_RootOf.f k t602).bind fun t637 => (if t636.toList = t637.toList then (if t623 = t606 then ((laws_sameTexts.f k t624 t607).bind fun t638 => (laws_FnEdges.j0 k t602 (!t638) t606 t607 t629 t630)) else (laws_FnEdges.j0 k t602 true t606 t607 t629 t630)) else (laws_FnEdges.j0 k t602 true t606 t607 t629 t630))) = some r := H
                  have A45 := Aside0.mk A450
                  clear A450
                  replace H := Option.bind_eq_some_iff.mp H
                  obtain ⟨t637, A460, H⟩ := H
                  replace H : (if t636.toList = t637.toList then (if t623 = t606 then ((laws_sameTexts.f k t624 t607).bind fun t638 => (laws_FnEdges.j0 k t602 (!t638) t606 t607 t629 t630)) else (laws_FnEdges.j0 k t602 true t606 t607 t629 t630)) else (laws_FnEdges.j0 k t602 true t606 t607 t629 t630)) = some r := H
                  have A46 := Aside0.mk A460
                  clear A460
                  by_cases c47 : t636.toList = t637.toList
                  · rw [if_pos c47] at H
                    have c47b0 : (t636.toList == t637.toList) = true := beq_iff_eq.mpr c47
                    have c47b1 : (t636.toList != t637.toList) = false := bne_eq_false_iff_eq.mpr c47
                    clear c47
                    by_cases c48 : t623 = t606
                    · rw [if_pos c48] at H
                      have c48b0 : (t623 == t606) = true := beq_iff_eq.mpr c48
                      have c48b1 : (t623 != t606) = false := bne_eq_false_iff_eq.mpr c48
                      clear c48
                      replace H := Option.bind_eq_some_iff.mp H
                      obtain ⟨t638, A490, H⟩ := H
                      replace H : (laws_FnEdges.j0 k t602 (!t638) t606 t607 t629 t630) = some r := H
                      have A49 := Aside0.mk A490
                      clear A490
                      have H' := Aside0.mk H
                      clear H
                      have hnb50 := NB610_628.out
                      have hnc50 := NB628_610.out
                      have hnb51 := NB610_634.out
                      have hnc51 := NB634_610.out
                      have hcz52_0 : w35.cell? ⟨gb610, 0, none⟩ = some (.int .i64 t606) := (blk_cell BK610.out 0).trans rfl
                      have hcz52_1 : w35.cell? ⟨gb610, 1, none⟩ = some (.slice Ao19 t607.length co19) := (blk_cell BK610.out 1).trans rfl
                      have hfz52_0 := blk_frozen BK610.out 0
                      have hfz52_1 := blk_frozen BK610.out 1
                      go_wp2_with (first | (go_at_call 31; (with_reducible refine (impl_EdgeOk.calls k t606 _ _ t607 true _ ?side1 ?side2 A42.out).mono ?_); (case side1 => refine (Kd.R_reads' (e := 9) (base := w.heap.size) (ok := fun k_ => ((some k_ ≠ (.slice Ao15 t602.length co15 : Value).ownBlock ∧ (some k_ ≠ (v617 : Value).ownBlock ∧ some k_ ≠ (.slice Ao30 t624.length co30 : Value).ownBlock)) ∧ some k_ ≠ (.slice Ao39 t630.length co39 : Value).ownBlock)) (n := t607.length) (c := co19) ?_).2.2; exact (by (with_reducible repeat (first | apply Kd.R_alloc | apply Kd.R_drewN | apply Kd.R_drew)); exact (Kd.R_mono (Kd.R_far (p := ⟨gb634, 1, none⟩) (Kd.R_far (p := ⟨gb634, 0, none⟩) (Kd.R_types HO609.out BK634.out (by decide)) (fun _ hk => hk.2) (.int .i64 t629)) (fun _ hk => hk.2) (.slice Ao39 t630.length co39)) (fun _ h_ => h_.1)))); (case side2 => exact (Kd.R_reads' HO609.out).2.1); rintro e w53 ⟨rfl, hb⟩; have n0_ := Aside0.mk (Kd.R_below (by (with_reducible repeat (first | apply Kd.R_alloc | apply Kd.R_drewN | apply Kd.R_drew)); exact (Kd.R_mono (Kd.R_far (p := ⟨gb634, 1, none⟩) (Kd.R_far (p := ⟨gb634, 0, none⟩) (Kd.R_types HO605.out BK634.out (by decide)) (fun _ hk => hk.2) (.int .i64 t629)) (fun _ hk => hk.2) (.slice Ao39 t630.length co39)) (fun _ h_ => h_.1))) hb); have n1_ := Aside0.mk (Kd.R_below (by (with_reducible repeat (first | apply Kd.R_alloc | apply Kd.R_drewN | apply Kd.R_drew)); exact (Kd.R_mono (Kd.R_far (p := ⟨gb634, 1, none⟩) (Kd.R_far (p := ⟨gb634, 0, none⟩) (Kd.R_types HO609.out BK634.out (by decide)) (fun _ hk => hk.2) (.int .i64 t629)) (fun _ hk => hk.2) (.slice Ao39 t630.length co39)) (fun _ h_ => h_.1))) hb); have n2_ := Aside0.mk (Kd.R_below (by (with_reducible repeat (first | apply Kd.R_alloc | apply Kd.R_drewN | apply Kd.R_drew)); exact (Kd.R_mono (Kd.R_far (p := ⟨gb634, 1, none⟩) (Kd.R_far (p := ⟨gb634, 0, none⟩) (Kd.R_types HO618.out BK634.out (by decide)) (fun _ hk => hk.2) (.int .i64 t629)) (fun _ hk => hk.2) (.slice Ao39 t630.length co39)) (fun _ h_ => h_.1))) hb); have n3_ := Aside0.mk (Kd.R_below (by (with_reducible repeat (first | apply Kd.R_alloc | apply Kd.R_drewN | apply Kd.R_drew)); exact (Kd.R_mono (Kd.R_far (p := ⟨gb634, 1, none⟩) (Kd.R_far (p := ⟨gb634, 0, none⟩) (Kd.R_types HO626.out BK634.out (by decide)) (fun _ hk => hk.2) (.int .i64 t629)) (fun _ hk => hk.2) (.slice Ao39 t630.length co39)) (fun _ h_ => h_.1))) hb); have n4_ := Aside0.mk (Kd.R_below (by (with_reducible repeat (first | apply Kd.R_alloc | apply Kd.R_drewN | apply Kd.R_drew)); exact (Kd.R_mono (Kd.R_far (p := ⟨gb634, 1, none⟩) (Kd.R_far (p := ⟨gb634, 0, none⟩) (Kd.R_types HO632.out BK634.out (by decide)) (fun _ hk => hk.2) (.int .i64 t629)) (fun _ hk => hk.2) (.slice Ao39 t630.length co39)) (fun _ h_ => h_.1))) hb); have n5_ := Aside0.mk (blk_below (g := gb610) (o := .cells #[.int .i64 t606, .slice Ao19 t607.length co19] 32 (0, 0)) (by (with_reducible repeat (first | refine blk_drewN ?_ _ | refine blk_drew ?_ | refine blk_alloc ?_ _)); refine blk_far ?_ NB610_634.out _; (with_reducible repeat (first | refine blk_drewN ?_ _ | refine blk_drew ?_ | refine blk_alloc ?_ _)); refine blk_far ?_ NB610_634.out _; (with_reducible repeat (first | refine blk_drewN ?_ _ | refine blk_drew ?_ | refine blk_alloc ?_ _)); exact BK610.out) hb); have n6_ := Aside0.mk (blk_below (g := gb628) (o := .cells #[.int .i64 t623, .slice Ao30 t624.length co30] 32 (0, 0)) (by (with_reducible repeat (first | refine blk_drewN ?_ _ | refine blk_drew ?_ | refine blk_alloc ?_ _)); refine blk_far ?_ NB628_634.out _; (with_reducible repeat (first | refine blk_drewN ?_ _ | refine blk_drew ?_ | refine blk_alloc ?_ _)); refine blk_far ?_ NB628_634.out _; (with_reducible repeat (first | refine blk_drewN ?_ _ | refine blk_drew ?_ | refine blk_alloc ?_ _)); exact BK628.out) hb); have n7_ := Aside0.mk (blk_below (g := gb634) (o := .cells #[.int .i64 t629, .slice Ao39 t630.length co39] 32 (0, 0)) (by (with_reducible repeat (first | refine blk_drewN ?_ _ | refine blk_drew ?_ | refine blk_alloc ?_ _)); refine blk_put (cs := #[.int .i64 t629, .slice none 0 0]) ?_ 1 _ rfl; (with_reducible repeat (first | refine blk_drewN ?_ _ | refine blk_drew ?_ | refine blk_alloc ?_ _)); refine blk_put (cs := #[.int .i64 0, .slice none 0 0]) ?_ 0 _ rfl; (with_reducible repeat (first | refine blk_drewN ?_ _ | refine blk_drew ?_ | refine blk_alloc ?_ _)); exact BK634.out) hb); have n8_ := Aside0.mk (below_step (by repeat (first | (with_reducible first | exact HB.out | apply below_alloc | apply pw_below_drewN | apply below_drew1 | refine below_set ?_ GE610.out | refine below_set ?_ GE628.out | refine below_set ?_ GE634.out) | exact HB.out)) hb); clear HO605; clear HO609; clear HO618; clear HO626; clear HO632; clear BK610; clear BK628; clear BK634; clear HB; have HO605 := n0_; have HO609 := n1_; have HO618 := n2_; have HO626 := n3_; have HO632 := n4_; have BK610 := n5_; have BK628 := n6_; have BK634 := n7_; have HB := n8_; clear n0_ n1_ n2_ n3_ n4_ n5_ n6_ n7_ n8_; (try clear hb); (try clear hb2); (try clear hk); (try clear hi); have hcz54_0 : w53.cell? ⟨gb610, 0, none⟩ = some (.int .i64 t606) := (blk_cell BK610.out 0).trans rfl; have hcz54_1 : w53.cell? ⟨gb610, 1, none⟩ = some (.slice Ao19 t607.length co19) := (blk_cell BK610.out 1).trans rfl; have hfz54_0 := blk_frozen BK610.out 0; have hfz54_1 := blk_frozen BK610.out 1) | (go_at_call 32; (with_reducible refine (impl_EdgeRoot.calls k t606 _ _ t607 t636 _ ?side1 ?side2 A45.out).mono ?_); (case side1 => repeat (first | exact (Kd.R_reads' HO609.out).2.2 | (with_reducible refine Kd.C_alloc ?_ _) | (with_reducible refine Kd.C_drewN ?_ _) | (with_reducible refine Kd.C_drew ?_))); (case side2 => exact (Kd.R_reads' HO609.out).2.1); rintro e w55 ⟨rfl, hb⟩; have n0_ := Aside0.mk (Kd.R_below (by (with_reducible repeat (first | apply Kd.R_alloc | apply Kd.R_drewN | apply Kd.R_drew)); exact HO605.out) hb); have n1_ := Aside0.mk (Kd.R_below (by (with_reducible repeat (first | apply Kd.R_alloc | apply Kd.R_drewN | apply Kd.R_drew)); exact HO609.out) hb); have n2_ := Aside0.mk (Kd.R_below (by (with_reducible repeat (first | apply Kd.R_alloc | apply Kd.R_drewN | apply Kd.R_drew)); exact HO618.out) hb); have n3_ := Aside0.mk (Kd.R_below (by (with_reducible repeat (first | apply Kd.R_alloc | apply Kd.R_drewN | apply Kd.R_drew)); exact HO626.out) hb); have n4_ := Aside0.mk (Kd.R_below (by (with_reducible repeat (first | apply Kd.R_alloc | apply Kd.R_drewN | apply Kd.R_drew)); exact HO632.out) hb); have n5_ := Aside0.mk (blk_below (g := gb610) (o := .cells #[.int .i64 t606, .slice Ao19 t607.length co19] 32 (0, 0)) (by (with_reducible repeat (first | refine blk_drewN ?_ _ | refine blk_drew ?_ | refine blk_alloc ?_ _)); exact BK610.out) hb); have n6_ := Aside0.mk (blk_below (g := gb628) (o := .cells #[.int .i64 t623, .slice Ao30 t624.length co30] 32 (0, 0)) (by (with_reducible repeat (first | refine blk_drewN ?_ _ | refine blk_drew ?_ | refine blk_alloc ?_ _)); exact BK628.out) hb); have n7_ := Aside0.mk (blk_below (g := gb634) (o := .cells #[.int .i64 t629, .slice Ao39 t630.length co39] 32 (0, 0)) (by (with_reducible repeat (first | refine blk_drewN ?_ _ | refine blk_drew ?_ | refine blk_alloc ?_ _)); exact BK634.out) hb); have n8_ := Aside0.mk (below_step (by repeat (first | (with_reducible first | exact HB.out | apply below_alloc | apply pw_below_drewN | apply below_drew1 | refine below_set ?_ GE610.out | refine below_set ?_ GE628.out | refine below_set ?_ GE634.out) | exact HB.out)) hb); clear HO605; clear HO609; clear HO618; clear HO626; clear HO632; clear BK610; clear BK628; clear BK634; clear HB; have HO605 := n0_; have HO609 := n1_; have HO618 := n2_; have HO626 := n3_; have HO632 := n4_; have BK610 := n5_; have BK628 := n6_; have BK634 := n7_; have HB := n8_; clear n0_ n1_ n2_ n3_ n4_ n5_ n6_ n7_ n8_; (try clear hb); (try clear hb2); (try clear hk); (try clear hi)) | (go_at_call 33; (with_reducible refine (impl_RootOf.calls k _ _ t602 t637 _ ?side1 ?side2 A46.out).mono ?_); (case side1 => repeat (first | exact (Kd.R_reads' HO605.out).2.2 | (with_reducible refine Kd.C_alloc ?_ _) | (with_reducible refine Kd.C_drewN ?_ _) | (with_reducible refine Kd.C_drew ?_))); (case side2 => exact (Kd.R_reads' HO605.out).2.1); rintro e w56 ⟨rfl, hb⟩; have n0_ := Aside0.mk (Kd.R_below (by (with_reducible repeat (first | apply Kd.R_alloc | apply Kd.R_drewN | apply Kd.R_drew)); exact HO605.out) hb); have n1_ := Aside0.mk (Kd.R_below (by (with_reducible repeat (first | apply Kd.R_alloc | apply Kd.R_drewN | apply Kd.R_drew)); exact HO609.out) hb); have n2_ := Aside0.mk (Kd.R_below (by (with_reducible repeat (first | apply Kd.R_alloc | apply Kd.R_drewN | apply Kd.R_drew)); exact HO618.out) hb); have n3_ := Aside0.mk (Kd.R_below (by (with_reducible repeat (first | apply Kd.R_alloc | apply Kd.R_drewN | apply Kd.R_drew)); exact HO626.out) hb); have n4_ := Aside0.mk (Kd.R_below (by (with_reducible repeat (first | apply Kd.R_alloc | apply Kd.R_drewN | apply Kd.R_drew)); exact HO632.out) hb); have n5_ := Aside0.mk (blk_below (g := gb610) (o := .cells #[.int .i64 t606, .slice Ao19 t607.length co19] 32 (0, 0)) (by (with_reducible repeat (first | refine blk_drewN ?_ _ | refine blk_drew ?_ | refine blk_alloc ?_ _)); exact BK610.out) hb); have n6_ := Aside0.mk (blk_below (g := gb628) (o := .cells #[.int .i64 t623, .slice Ao30 t624.length co30] 32 (0, 0)) (by (with_reducible repeat (first | refine blk_drewN ?_ _ | refine blk_drew ?_ | refine blk_alloc ?_ _)); exact BK628.out) hb); have n7_ := Aside0.mk (blk_below (g := gb634) (o := .cells #[.int .i64 t629, .slice Ao39 t630.length co39] 32 (0, 0)) (by (with_reducible repeat (first | refine blk_drewN ?_ _ | refine blk_drew ?_ | refine blk_alloc ?_ _)); exact BK634.out) hb); have n8_ := Aside0.mk (below_step (by repeat (first | (with_reducible first | exact HB.out | apply below_alloc | apply pw_below_drewN | apply below_drew1 | refine below_set ?_ GE610.out | refine below_set ?_ GE628.out | refine below_set ?_ GE634.out) | exact HB.out)) hb); clear HO605; clear HO609; clear HO618; clear HO626; clear HO632; clear BK610; clear BK628; clear BK634; clear HB; have HO605 := n0_; have HO609 := n1_; have HO618 := n2_; have HO626 := n3_; have HO632 := n4_; have BK610 := n5_; have BK628 := n6_; have BK634 := n7_; have HB := n8_; clear n0_ n1_ n2_ n3_ n4_ n5_ n6_ n7_ n8_; (try clear hb); (try clear hb2); (try clear hk); (try clear hi); have hnb57 := NB628_634.out; have hnc57 := NB634_628.out; have hcz58_0 : w56.cell? ⟨gb628, 0, none⟩ = some (.int .i64 t623) := (blk_cell BK628.out 0).trans rfl; have hcz58_1 : w56.cell? ⟨gb628, 1, none⟩ = some (.slice Ao30 t624.length co30) := (blk_cell BK628.out 1).trans rfl; have hfz58_0 := blk_frozen BK628.out 0; have hfz58_1 := blk_frozen BK628.out 1; have hcz59_0 : w56.cell? ⟨gb610, 0, none⟩ = some (.int .i64 t606) := (blk_cell BK610.out 0).trans rfl; have hcz59_1 : w56.cell? ⟨gb610, 1, none⟩ = some (.slice Ao19 t607.length co19) := (blk_cell BK610.out 1).trans rfl; have hfz59_0 := blk_frozen BK610.out 0; have hfz59_1 := blk_frozen BK610.out 1) | (go_at_call 34; (with_reducible refine (laws_sameTexts.calls k _ _ t624 _ _ t607 t638 _ ?side1 ?side2 ?side3 ?side4 A49.out).mono ?_); (case side1 => repeat (first | exact (Kd.R_reads' HO626.out).2.2 | (with_reducible refine Kd.C_alloc ?_ _) | (with_reducible refine Kd.C_drewN ?_ _) | (with_reducible refine Kd.C_drew ?_))); (case side2 => exact (Kd.R_reads' HO626.out).2.1); (case side3 => repeat (first | exact (Kd.R_reads' HO609.out).2.2 | (with_reducible refine Kd.C_alloc ?_ _) | (with_reducible refine Kd.C_drewN ?_ _) | (with_reducible refine Kd.C_drew ?_))); (case side4 => exact (Kd.R_reads' HO609.out).2.1); rintro e w' ⟨rfl, ⟨nd, rfl⟩⟩))
                      go_meet
                      case rel => exact ⟨_, (!t638), (by first | rfl | (simp; done) | (simp [*]; done)), H', ⟨by first | omega | exact Nat.le_refl _⟩, ⟨by (with_reducible repeat (first | apply Kd.R_alloc | apply Kd.R_drewN | apply Kd.R_drew)); exact Kd.R_mono HO605.out (fun _ hk => ⟨hk.1.1, ⟨hk.1.2.2, hk.2⟩⟩)⟩, ⟨by (with_reducible repeat (first | apply Kd.R_alloc | apply Kd.R_drewN | apply Kd.R_drew)); exact Kd.R_mono HO609.out (fun _ hk => ⟨hk.1.1, ⟨hk.1.2.2, hk.2⟩⟩)⟩, ⟨by (with_reducible repeat (first | apply Kd.R_alloc | apply Kd.R_drewN | apply Kd.R_drew)); exact Kd.R_mono HO626.out (fun _ hk => ⟨hk.1.1, ⟨hk.1.2.1, hk.2⟩⟩)⟩, ⟨by (with_reducible repeat (first | apply Kd.R_alloc | apply Kd.R_drewN | apply Kd.R_drew)); exact Kd.R_mono HO632.out (fun _ hk => ⟨hk.1.1.1.2, ⟨hk.1.1.2, hk.2⟩⟩)⟩, ⟨by (with_reducible repeat (first | refine blk_drewN ?_ _ | refine blk_drew ?_ | refine blk_alloc ?_ _)); exact BK610.out⟩, ⟨by (with_reducible repeat (first | refine blk_drewN ?_ _ | refine blk_drew ?_ | refine blk_alloc ?_ _)); exact BK628.out⟩, ⟨by (with_reducible repeat (first | refine blk_drewN ?_ _ | refine blk_drew ?_ | refine blk_alloc ?_ _)); exact BK634.out⟩, ⟨by repeat (first | (with_reducible first | exact HB.out | apply below_alloc | apply pw_below_drewN | apply below_drew1 | refine below_set ?_ GE610.out | refine below_set ?_ GE628.out | refine below_set ?_ GE634.out) | exact HB.out)⟩⟩
                    · rw [if_neg c48] at H
                      have c48b0 : (t623 == t606) = false := beq_eq_false_iff_ne.mpr c48
                      have c48b1 : (t623 != t606) = true := bne_iff_ne.mpr c48
                      have H' := Aside0.mk H
                      clear H
                      have hnb60 := NB610_628.out
                      have hnc60 := NB628_610.out
                      have hnb61 := NB610_634.out
                      have hnc61 := NB634_610.out
                      have hcz62_0 : w35.cell? ⟨gb610, 0, none⟩ = some (.int .i64 t606) := (blk_cell BK610.out 0).trans rfl
                      have hcz62_1 : w35.cell? ⟨gb610, 1, none⟩ = some (.slice Ao19 t607.length co19) := (blk_cell BK610.out 1).trans rfl
                      have hfz62_0 := blk_frozen BK610.out 0
                      have hfz62_1 := blk_frozen BK610.out 1
                      go_wp2_with (first | (go_at_call 31; (with_reducible refine (impl_EdgeOk.calls k t606 _ _ t607 true _ ?side1 ?side2 A42.out).mono ?_); (case side1 => refine (Kd.R_reads' (e := 9) (base := w.heap.size) (ok := fun k_ => ((some k_ ≠ (.slice Ao15 t602.length co15 : Value).ownBlock ∧ (some k_ ≠ (v617 : Value).ownBlock ∧ some k_ ≠ (.slice Ao30 t624.length co30 : Value).ownBlock)) ∧ some k_ ≠ (.slice Ao39 t630.length co39 : Value).ownBlock)) (n := t607.length) (c := co19) ?_).2.2; exact (by (with_reducible repeat (first | apply Kd.R_alloc | apply Kd.R_drewN | apply Kd.R_drew)); exact (Kd.R_mono (Kd.R_far (p := ⟨gb634, 1, none⟩) (Kd.R_far (p := ⟨gb634, 0, none⟩) (Kd.R_types HO609.out BK634.out (by decide)) (fun _ hk => hk.2) (.int .i64 t629)) (fun _ hk => hk.2) (.slice Ao39 t630.length co39)) (fun _ h_ => h_.1)))); (case side2 => exact (Kd.R_reads' HO609.out).2.1); rintro e w63 ⟨rfl, hb⟩; have n0_ := Aside0.mk (Kd.R_below (by (with_reducible repeat (first | apply Kd.R_alloc | apply Kd.R_drewN | apply Kd.R_drew)); exact (Kd.R_mono (Kd.R_far (p := ⟨gb634, 1, none⟩) (Kd.R_far (p := ⟨gb634, 0, none⟩) (Kd.R_types HO605.out BK634.out (by decide)) (fun _ hk => hk.2) (.int .i64 t629)) (fun _ hk => hk.2) (.slice Ao39 t630.length co39)) (fun _ h_ => h_.1))) hb); have n1_ := Aside0.mk (Kd.R_below (by (with_reducible repeat (first | apply Kd.R_alloc | apply Kd.R_drewN | apply Kd.R_drew)); exact (Kd.R_mono (Kd.R_far (p := ⟨gb634, 1, none⟩) (Kd.R_far (p := ⟨gb634, 0, none⟩) (Kd.R_types HO609.out BK634.out (by decide)) (fun _ hk => hk.2) (.int .i64 t629)) (fun _ hk => hk.2) (.slice Ao39 t630.length co39)) (fun _ h_ => h_.1))) hb); have n2_ := Aside0.mk (Kd.R_below (by (with_reducible repeat (first | apply Kd.R_alloc | apply Kd.R_drewN | apply Kd.R_drew)); exact (Kd.R_mono (Kd.R_far (p := ⟨gb634, 1, none⟩) (Kd.R_far (p := ⟨gb634, 0, none⟩) (Kd.R_types HO618.out BK634.out (by decide)) (fun _ hk => hk.2) (.int .i64 t629)) (fun _ hk => hk.2) (.slice Ao39 t630.length co39)) (fun _ h_ => h_.1))) hb); have n3_ := Aside0.mk (Kd.R_below (by (with_reducible repeat (first | apply Kd.R_alloc | apply Kd.R_drewN | apply Kd.R_drew)); exact (Kd.R_mono (Kd.R_far (p := ⟨gb634, 1, none⟩) (Kd.R_far (p := ⟨gb634, 0, none⟩) (Kd.R_types HO626.out BK634.out (by decide)) (fun _ hk => hk.2) (.int .i64 t629)) (fun _ hk => hk.2) (.slice Ao39 t630.length co39)) (fun _ h_ => h_.1))) hb); have n4_ := Aside0.mk (Kd.R_below (by (with_reducible repeat (first | apply Kd.R_alloc | apply Kd.R_drewN | apply Kd.R_drew)); exact (Kd.R_mono (Kd.R_far (p := ⟨gb634, 1, none⟩) (Kd.R_far (p := ⟨gb634, 0, none⟩) (Kd.R_types HO632.out BK634.out (by decide)) (fun _ hk => hk.2) (.int .i64 t629)) (fun _ hk => hk.2) (.slice Ao39 t630.length co39)) (fun _ h_ => h_.1))) hb); have n5_ := Aside0.mk (blk_below (g := gb610) (o := .cells #[.int .i64 t606, .slice Ao19 t607.length co19] 32 (0, 0)) (by (with_reducible repeat (first | refine blk_drewN ?_ _ | refine blk_drew ?_ | refine blk_alloc ?_ _)); refine blk_far ?_ NB610_634.out _; (with_reducible repeat (first | refine blk_drewN ?_ _ | refine blk_drew ?_ | refine blk_alloc ?_ _)); refine blk_far ?_ NB610_634.out _; (with_reducible repeat (first | refine blk_drewN ?_ _ | refine blk_drew ?_ | refine blk_alloc ?_ _)); exact BK610.out) hb); have n6_ := Aside0.mk (blk_below (g := gb628) (o := .cells #[.int .i64 t623, .slice Ao30 t624.length co30] 32 (0, 0)) (by (with_reducible repeat (first | refine blk_drewN ?_ _ | refine blk_drew ?_ | refine blk_alloc ?_ _)); refine blk_far ?_ NB628_634.out _; (with_reducible repeat (first | refine blk_drewN ?_ _ | refine blk_drew ?_ | refine blk_alloc ?_ _)); refine blk_far ?_ NB628_634.out _; (with_reducible repeat (first | refine blk_drewN ?_ _ | refine blk_drew ?_ | refine blk_alloc ?_ _)); exact BK628.out) hb); have n7_ := Aside0.mk (blk_below (g := gb634) (o := .cells #[.int .i64 t629, .slice Ao39 t630.length co39] 32 (0, 0)) (by (with_reducible repeat (first | refine blk_drewN ?_ _ | refine blk_drew ?_ | refine blk_alloc ?_ _)); refine blk_put (cs := #[.int .i64 t629, .slice none 0 0]) ?_ 1 _ rfl; (with_reducible repeat (first | refine blk_drewN ?_ _ | refine blk_drew ?_ | refine blk_alloc ?_ _)); refine blk_put (cs := #[.int .i64 0, .slice none 0 0]) ?_ 0 _ rfl; (with_reducible repeat (first | refine blk_drewN ?_ _ | refine blk_drew ?_ | refine blk_alloc ?_ _)); exact BK634.out) hb); have n8_ := Aside0.mk (below_step (by repeat (first | (with_reducible first | exact HB.out | apply below_alloc | apply pw_below_drewN | apply below_drew1 | refine below_set ?_ GE610.out | refine below_set ?_ GE628.out | refine below_set ?_ GE634.out) | exact HB.out)) hb); clear HO605; clear HO609; clear HO618; clear HO626; clear HO632; clear BK610; clear BK628; clear BK634; clear HB; have HO605 := n0_; have HO609 := n1_; have HO618 := n2_; have HO626 := n3_; have HO632 := n4_; have BK610 := n5_; have BK628 := n6_; have BK634 := n7_; have HB := n8_; clear n0_ n1_ n2_ n3_ n4_ n5_ n6_ n7_ n8_; (try clear hb); (try clear hb2); (try clear hk); (try clear hi); have hcz64_0 : w63.cell? ⟨gb610, 0, none⟩ = some (.int .i64 t606) := (blk_cell BK610.out 0).trans rfl; have hcz64_1 : w63.cell? ⟨gb610, 1, none⟩ = some (.slice Ao19 t607.length co19) := (blk_cell BK610.out 1).trans rfl; have hfz64_0 := blk_frozen BK610.out 0; have hfz64_1 := blk_frozen BK610.out 1) | (go_at_call 32; (with_reducible refine (impl_EdgeRoot.calls k t606 _ _ t607 t636 _ ?side1 ?side2 A45.out).mono ?_); (case side1 => repeat (first | exact (Kd.R_reads' HO609.out).2.2 | (with_reducible refine Kd.C_alloc ?_ _) | (with_reducible refine Kd.C_drewN ?_ _) | (with_reducible refine Kd.C_drew ?_))); (case side2 => exact (Kd.R_reads' HO609.out).2.1); rintro e w65 ⟨rfl, hb⟩; have n0_ := Aside0.mk (Kd.R_below (by (with_reducible repeat (first | apply Kd.R_alloc | apply Kd.R_drewN | apply Kd.R_drew)); exact HO605.out) hb); have n1_ := Aside0.mk (Kd.R_below (by (with_reducible repeat (first | apply Kd.R_alloc | apply Kd.R_drewN | apply Kd.R_drew)); exact HO609.out) hb); have n2_ := Aside0.mk (Kd.R_below (by (with_reducible repeat (first | apply Kd.R_alloc | apply Kd.R_drewN | apply Kd.R_drew)); exact HO618.out) hb); have n3_ := Aside0.mk (Kd.R_below (by (with_reducible repeat (first | apply Kd.R_alloc | apply Kd.R_drewN | apply Kd.R_drew)); exact HO626.out) hb); have n4_ := Aside0.mk (Kd.R_below (by (with_reducible repeat (first | apply Kd.R_alloc | apply Kd.R_drewN | apply Kd.R_drew)); exact HO632.out) hb); have n5_ := Aside0.mk (blk_below (g := gb610) (o := .cells #[.int .i64 t606, .slice Ao19 t607.length co19] 32 (0, 0)) (by (with_reducible repeat (first | refine blk_drewN ?_ _ | refine blk_drew ?_ | refine blk_alloc ?_ _)); exact BK610.out) hb); have n6_ := Aside0.mk (blk_below (g := gb628) (o := .cells #[.int .i64 t623, .slice Ao30 t624.length co30] 32 (0, 0)) (by (with_reducible repeat (first | refine blk_drewN ?_ _ | refine blk_drew ?_ | refine blk_alloc ?_ _)); exact BK628.out) hb); have n7_ := Aside0.mk (blk_below (g := gb634) (o := .cells #[.int .i64 t629, .slice Ao39 t630.length co39] 32 (0, 0)) (by (with_reducible repeat (first | refine blk_drewN ?_ _ | refine blk_drew ?_ | refine blk_alloc ?_ _)); exact BK634.out) hb); have n8_ := Aside0.mk (below_step (by repeat (first | (with_reducible first | exact HB.out | apply below_alloc | apply pw_below_drewN | apply below_drew1 | refine below_set ?_ GE610.out | refine below_set ?_ GE628.out | refine below_set ?_ GE634.out) | exact HB.out)) hb); clear HO605; clear HO609; clear HO618; clear HO626; clear HO632; clear BK610; clear BK628; clear BK634; clear HB; have HO605 := n0_; have HO609 := n1_; have HO618 := n2_; have HO626 := n3_; have HO632 := n4_; have BK610 := n5_; have BK628 := n6_; have BK634 := n7_; have HB := n8_; clear n0_ n1_ n2_ n3_ n4_ n5_ n6_ n7_ n8_; (try clear hb); (try clear hb2); (try clear hk); (try clear hi)) | (go_at_call 33; (with_reducible refine (impl_RootOf.calls k _ _ t602 t637 _ ?side1 ?side2 A46.out).mono ?_); (case side1 => repeat (first | exact (Kd.R_reads' HO605.out).2.2 | (with_reducible refine Kd.C_alloc ?_ _) | (with_reducible refine Kd.C_drewN ?_ _) | (with_reducible refine Kd.C_drew ?_))); (case side2 => exact (Kd.R_reads' HO605.out).2.1); rintro e w66 ⟨rfl, hb⟩; have n0_ := Aside0.mk (Kd.R_below (by (with_reducible repeat (first | apply Kd.R_alloc | apply Kd.R_drewN | apply Kd.R_drew)); exact HO605.out) hb); have n1_ := Aside0.mk (Kd.R_below (by (with_reducible repeat (first | apply Kd.R_alloc | apply Kd.R_drewN | apply Kd.R_drew)); exact HO609.out) hb); have n2_ := Aside0.mk (Kd.R_below (by (with_reducible repeat (first | apply Kd.R_alloc | apply Kd.R_drewN | apply Kd.R_drew)); exact HO618.out) hb); have n3_ := Aside0.mk (Kd.R_below (by (with_reducible repeat (first | apply Kd.R_alloc | apply Kd.R_drewN | apply Kd.R_drew)); exact HO626.out) hb); have n4_ := Aside0.mk (Kd.R_below (by (with_reducible repeat (first | apply Kd.R_alloc | apply Kd.R_drewN | apply Kd.R_drew)); exact HO632.out) hb); have n5_ := Aside0.mk (blk_below (g := gb610) (o := .cells #[.int .i64 t606, .slice Ao19 t607.length co19] 32 (0, 0)) (by (with_reducible repeat (first | refine blk_drewN ?_ _ | refine blk_drew ?_ | refine blk_alloc ?_ _)); exact BK610.out) hb); have n6_ := Aside0.mk (blk_below (g := gb628) (o := .cells #[.int .i64 t623, .slice Ao30 t624.length co30] 32 (0, 0)) (by (with_reducible repeat (first | refine blk_drewN ?_ _ | refine blk_drew ?_ | refine blk_alloc ?_ _)); exact BK628.out) hb); have n7_ := Aside0.mk (blk_below (g := gb634) (o := .cells #[.int .i64 t629, .slice Ao39 t630.length co39] 32 (0, 0)) (by (with_reducible repeat (first | refine blk_drewN ?_ _ | refine blk_drew ?_ | refine blk_alloc ?_ _)); exact BK634.out) hb); have n8_ := Aside0.mk (below_step (by repeat (first | (with_reducible first | exact HB.out | apply below_alloc | apply pw_below_drewN | apply below_drew1 | refine below_set ?_ GE610.out | refine below_set ?_ GE628.out | refine below_set ?_ GE634.out) | exact HB.out)) hb); clear HO605; clear HO609; clear HO618; clear HO626; clear HO632; clear BK610; clear BK628; clear BK634; clear HB; have HO605 := n0_; have HO609 := n1_; have HO618 := n2_; have HO626 := n3_; have HO632 := n4_; have BK610 := n5_; have BK628 := n6_; have BK634 := n7_; have HB := n8_; clear n0_ n1_ n2_ n3_ n4_ n5_ n6_ n7_ n8_; (try clear hb); (try clear hb2); (try clear hk); (try clear hi); have hnb67 := NB628_634.out; have hnc67 := NB634_628.out; have hcz68_0 : w66.cell? ⟨gb628, 0, none⟩ = some (.int .i64 t623) := (blk_cell BK628.out 0).trans rfl; have hcz68_1 : w66.cell? ⟨gb628, 1, none⟩ = some (.slice Ao30 t624.length co30) := (blk_cell BK628.out 1).trans rfl; have hfz68_0 := blk_frozen BK628.out 0; have hfz68_1 := blk_frozen BK628.out 1; have hcz69_0 : w66.cell? ⟨gb610, 0, none⟩ = some (.int .i64 t606) := (blk_cell BK610.out 0).trans rfl; have hcz69_1 : w66.cell? ⟨gb610, 1, none⟩ = some (.slice Ao19 t607.length co19) := (blk_cell BK610.out 1).trans rfl; have hfz69_0 := blk_frozen BK610.out 0; have hfz69_1 := blk_frozen BK610.out 1))
                      go_meet
                      case rel => exact ⟨_, (true), (by first | rfl | (simp; done) | (simp [*]; done)), H', ⟨by first | omega | exact Nat.le_refl _⟩, ⟨by (with_reducible repeat (first | apply Kd.R_alloc | apply Kd.R_drewN | apply Kd.R_drew)); exact Kd.R_mono HO605.out (fun _ hk => ⟨hk.1.1, ⟨hk.1.2.2, hk.2⟩⟩)⟩, ⟨by (with_reducible repeat (first | apply Kd.R_alloc | apply Kd.R_drewN | apply Kd.R_drew)); exact Kd.R_mono HO609.out (fun _ hk => ⟨hk.1.1, ⟨hk.1.2.2, hk.2⟩⟩)⟩, ⟨by (with_reducible repeat (first | apply Kd.R_alloc | apply Kd.R_drewN | apply Kd.R_drew)); exact Kd.R_mono HO626.out (fun _ hk => ⟨hk.1.1, ⟨hk.1.2.1, hk.2⟩⟩)⟩, ⟨by (with_reducible repeat (first | apply Kd.R_alloc | apply Kd.R_drewN | apply Kd.R_drew)); exact Kd.R_mono HO632.out (fun _ hk => ⟨hk.1.1.1.2, ⟨hk.1.1.2, hk.2⟩⟩)⟩, ⟨by (with_reducible repeat (first | refine blk_drewN ?_ _ | refine blk_drew ?_ | refine blk_alloc ?_ _)); exact BK610.out⟩, ⟨by (with_reducible repeat (first | refine blk_drewN ?_ _ | refine blk_drew ?_ | refine blk_alloc ?_ _)); exact BK628.out⟩, ⟨by (with_reducible repeat (first | refine blk_drewN ?_ _ | refine blk_drew ?_ | refine blk_alloc ?_ _)); exact BK634.out⟩, ⟨by repeat (first | (with_reducible first | exact HB.out | apply below_alloc | apply pw_below_drewN | apply below_drew1 | refine below_set ?_ GE610.out | refine below_set ?_ GE628.out | refine below_set ?_ GE634.out) | exact HB.out)⟩⟩
                  · rw [if_neg c47] at H
                    have c47b0 : (t636.toList == t637.toList) = false := beq_eq_false_iff_ne.mpr c47
                    have c47b1 : (t636.toList != t637.toList) = true := bne_iff_ne.mpr c47
                    have H' := Aside0.mk H
                    clear H
                    have hnb70 := NB610_628.out
                    have hnc70 := NB628_610.out
                    have hnb71 := NB610_634.out
                    have hnc71 := NB634_610.out
                    have hcz72_0 : w35.cell? ⟨gb610, 0, none⟩ = some (.int .i64 t606) := (blk_cell BK610.out 0).trans rfl
                    have hcz72_1 : w35.cell? ⟨gb610, 1, none⟩ = some (.slice Ao19 t607.length co19) := (blk_cell BK610.out 1).trans rfl
                    have hfz72_0 := blk_frozen BK610.out 0
                    have hfz72_1 := blk_frozen BK610.out 1
                    go_wp2_with (first | (go_at_call 31; (with_reducible refine (impl_EdgeOk.calls k t606 _ _ t607 true _ ?side1 ?side2 A42.out).mono ?_); (case side1 => refine (Kd.R_reads' (e := 9) (base := w.heap.size) (ok := fun k_ => ((some k_ ≠ (.slice Ao15 t602.length co15 : Value).ownBlock ∧ (some k_ ≠ (v617 : Value).ownBlock ∧ some k_ ≠ (.slice Ao30 t624.length co30 : Value).ownBlock)) ∧ some k_ ≠ (.slice Ao39 t630.length co39 : Value).ownBlock)) (n := t607.length) (c := co19) ?_).2.2; exact (by (with_reducible repeat (first | apply Kd.R_alloc | apply Kd.R_drewN | apply Kd.R_drew)); exact (Kd.R_mono (Kd.R_far (p := ⟨gb634, 1, none⟩) (Kd.R_far (p := ⟨gb634, 0, none⟩) (Kd.R_types HO609.out BK634.out (by decide)) (fun _ hk => hk.2) (.int .i64 t629)) (fun _ hk => hk.2) (.slice Ao39 t630.length co39)) (fun _ h_ => h_.1)))); (case side2 => exact (Kd.R_reads' HO609.out).2.1); rintro e w73 ⟨rfl, hb⟩; have n0_ := Aside0.mk (Kd.R_below (by (with_reducible repeat (first | apply Kd.R_alloc | apply Kd.R_drewN | apply Kd.R_drew)); exact (Kd.R_mono (Kd.R_far (p := ⟨gb634, 1, none⟩) (Kd.R_far (p := ⟨gb634, 0, none⟩) (Kd.R_types HO605.out BK634.out (by decide)) (fun _ hk => hk.2) (.int .i64 t629)) (fun _ hk => hk.2) (.slice Ao39 t630.length co39)) (fun _ h_ => h_.1))) hb); have n1_ := Aside0.mk (Kd.R_below (by (with_reducible repeat (first | apply Kd.R_alloc | apply Kd.R_drewN | apply Kd.R_drew)); exact (Kd.R_mono (Kd.R_far (p := ⟨gb634, 1, none⟩) (Kd.R_far (p := ⟨gb634, 0, none⟩) (Kd.R_types HO609.out BK634.out (by decide)) (fun _ hk => hk.2) (.int .i64 t629)) (fun _ hk => hk.2) (.slice Ao39 t630.length co39)) (fun _ h_ => h_.1))) hb); have n2_ := Aside0.mk (Kd.R_below (by (with_reducible repeat (first | apply Kd.R_alloc | apply Kd.R_drewN | apply Kd.R_drew)); exact (Kd.R_mono (Kd.R_far (p := ⟨gb634, 1, none⟩) (Kd.R_far (p := ⟨gb634, 0, none⟩) (Kd.R_types HO618.out BK634.out (by decide)) (fun _ hk => hk.2) (.int .i64 t629)) (fun _ hk => hk.2) (.slice Ao39 t630.length co39)) (fun _ h_ => h_.1))) hb); have n3_ := Aside0.mk (Kd.R_below (by (with_reducible repeat (first | apply Kd.R_alloc | apply Kd.R_drewN | apply Kd.R_drew)); exact (Kd.R_mono (Kd.R_far (p := ⟨gb634, 1, none⟩) (Kd.R_far (p := ⟨gb634, 0, none⟩) (Kd.R_types HO626.out BK634.out (by decide)) (fun _ hk => hk.2) (.int .i64 t629)) (fun _ hk => hk.2) (.slice Ao39 t630.length co39)) (fun _ h_ => h_.1))) hb); have n4_ := Aside0.mk (Kd.R_below (by (with_reducible repeat (first | apply Kd.R_alloc | apply Kd.R_drewN | apply Kd.R_drew)); exact (Kd.R_mono (Kd.R_far (p := ⟨gb634, 1, none⟩) (Kd.R_far (p := ⟨gb634, 0, none⟩) (Kd.R_types HO632.out BK634.out (by decide)) (fun _ hk => hk.2) (.int .i64 t629)) (fun _ hk => hk.2) (.slice Ao39 t630.length co39)) (fun _ h_ => h_.1))) hb); have n5_ := Aside0.mk (blk_below (g := gb610) (o := .cells #[.int .i64 t606, .slice Ao19 t607.length co19] 32 (0, 0)) (by (with_reducible repeat (first | refine blk_drewN ?_ _ | refine blk_drew ?_ | refine blk_alloc ?_ _)); refine blk_far ?_ NB610_634.out _; (with_reducible repeat (first | refine blk_drewN ?_ _ | refine blk_drew ?_ | refine blk_alloc ?_ _)); refine blk_far ?_ NB610_634.out _; (with_reducible repeat (first | refine blk_drewN ?_ _ | refine blk_drew ?_ | refine blk_alloc ?_ _)); exact BK610.out) hb); have n6_ := Aside0.mk (blk_below (g := gb628) (o := .cells #[.int .i64 t623, .slice Ao30 t624.length co30] 32 (0, 0)) (by (with_reducible repeat (first | refine blk_drewN ?_ _ | refine blk_drew ?_ | refine blk_alloc ?_ _)); refine blk_far ?_ NB628_634.out _; (with_reducible repeat (first | refine blk_drewN ?_ _ | refine blk_drew ?_ | refine blk_alloc ?_ _)); refine blk_far ?_ NB628_634.out _; (with_reducible repeat (first | refine blk_drewN ?_ _ | refine blk_drew ?_ | refine blk_alloc ?_ _)); exact BK628.out) hb); have n7_ := Aside0.mk (blk_below (g := gb634) (o := .cells #[.int .i64 t629, .slice Ao39 t630.length co39] 32 (0, 0)) (by (with_reducible repeat (first | refine blk_drewN ?_ _ | refine blk_drew ?_ | refine blk_alloc ?_ _)); refine blk_put (cs := #[.int .i64 t629, .slice none 0 0]) ?_ 1 _ rfl; (with_reducible repeat (first | refine blk_drewN ?_ _ | refine blk_drew ?_ | refine blk_alloc ?_ _)); refine blk_put (cs := #[.int .i64 0, .slice none 0 0]) ?_ 0 _ rfl; (with_reducible repeat (first | refine blk_drewN ?_ _ | refine blk_drew ?_ | refine blk_alloc ?_ _)); exact BK634.out) hb); have n8_ := Aside0.mk (below_step (by repeat (first | (with_reducible first | exact HB.out | apply below_alloc | apply pw_below_drewN | apply below_drew1 | refine below_set ?_ GE610.out | refine below_set ?_ GE628.out | refine below_set ?_ GE634.out) | exact HB.out)) hb); clear HO605; clear HO609; clear HO618; clear HO626; clear HO632; clear BK610; clear BK628; clear BK634; clear HB; have HO605 := n0_; have HO609 := n1_; have HO618 := n2_; have HO626 := n3_; have HO632 := n4_; have BK610 := n5_; have BK628 := n6_; have BK634 := n7_; have HB := n8_; clear n0_ n1_ n2_ n3_ n4_ n5_ n6_ n7_ n8_; (try clear hb); (try clear hb2); (try clear hk); (try clear hi); have hcz74_0 : w73.cell? ⟨gb610, 0, none⟩ = some (.int .i64 t606) := (blk_cell BK610.out 0).trans rfl; have hcz74_1 : w73.cell? ⟨gb610, 1, none⟩ = some (.slice Ao19 t607.length co19) := (blk_cell BK610.out 1).trans rfl; have hfz74_0 := blk_frozen BK610.out 0; have hfz74_1 := blk_frozen BK610.out 1) | (go_at_call 32; (with_reducible refine (impl_EdgeRoot.calls k t606 _ _ t607 t636 _ ?side1 ?side2 A45.out).mono ?_); (case side1 => repeat (first | exact (Kd.R_reads' HO609.out).2.2 | (with_reducible refine Kd.C_alloc ?_ _) | (with_reducible refine Kd.C_drewN ?_ _) | (with_reducible refine Kd.C_drew ?_))); (case side2 => exact (Kd.R_reads' HO609.out).2.1); rintro e w75 ⟨rfl, hb⟩; have n0_ := Aside0.mk (Kd.R_below (by (with_reducible repeat (first | apply Kd.R_alloc | apply Kd.R_drewN | apply Kd.R_drew)); exact HO605.out) hb); have n1_ := Aside0.mk (Kd.R_below (by (with_reducible repeat (first | apply Kd.R_alloc | apply Kd.R_drewN | apply Kd.R_drew)); exact HO609.out) hb); have n2_ := Aside0.mk (Kd.R_below (by (with_reducible repeat (first | apply Kd.R_alloc | apply Kd.R_drewN | apply Kd.R_drew)); exact HO618.out) hb); have n3_ := Aside0.mk (Kd.R_below (by (with_reducible repeat (first | apply Kd.R_alloc | apply Kd.R_drewN | apply Kd.R_drew)); exact HO626.out) hb); have n4_ := Aside0.mk (Kd.R_below (by (with_reducible repeat (first | apply Kd.R_alloc | apply Kd.R_drewN | apply Kd.R_drew)); exact HO632.out) hb); have n5_ := Aside0.mk (blk_below (g := gb610) (o := .cells #[.int .i64 t606, .slice Ao19 t607.length co19] 32 (0, 0)) (by (with_reducible repeat (first | refine blk_drewN ?_ _ | refine blk_drew ?_ | refine blk_alloc ?_ _)); exact BK610.out) hb); have n6_ := Aside0.mk (blk_below (g := gb628) (o := .cells #[.int .i64 t623, .slice Ao30 t624.length co30] 32 (0, 0)) (by (with_reducible repeat (first | refine blk_drewN ?_ _ | refine blk_drew ?_ | refine blk_alloc ?_ _)); exact BK628.out) hb); have n7_ := Aside0.mk (blk_below (g := gb634) (o := .cells #[.int .i64 t629, .slice Ao39 t630.length co39] 32 (0, 0)) (by (with_reducible repeat (first | refine blk_drewN ?_ _ | refine blk_drew ?_ | refine blk_alloc ?_ _)); exact BK634.out) hb); have n8_ := Aside0.mk (below_step (by repeat (first | (with_reducible first | exact HB.out | apply below_alloc | apply pw_below_drewN | apply below_drew1 | refine below_set ?_ GE610.out | refine below_set ?_ GE628.out | refine below_set ?_ GE634.out) | exact HB.out)) hb); clear HO605; clear HO609; clear HO618; clear HO626; clear HO632; clear BK610; clear BK628; clear BK634; clear HB; have HO605 := n0_; have HO609 := n1_; have HO618 := n2_; have HO626 := n3_; have HO632 := n4_; have BK610 := n5_; have BK628 := n6_; have BK634 := n7_; have HB := n8_; clear n0_ n1_ n2_ n3_ n4_ n5_ n6_ n7_ n8_; (try clear hb); (try clear hb2); (try clear hk); (try clear hi)) | (go_at_call 33; (with_reducible refine (impl_RootOf.calls k _ _ t602 t637 _ ?side1 ?side2 A46.out).mono ?_); (case side1 => repeat (first | exact (Kd.R_reads' HO605.out).2.2 | (with_reducible refine Kd.C_alloc ?_ _) | (with_reducible refine Kd.C_drewN ?_ _) | (with_reducible refine Kd.C_drew ?_))); (case side2 => exact (Kd.R_reads' HO605.out).2.1); rintro e w76 ⟨rfl, hb⟩; have n0_ := Aside0.mk (Kd.R_below (by (with_reducible repeat (first | apply Kd.R_alloc | apply Kd.R_drewN | apply Kd.R_drew)); exact HO605.out) hb); have n1_ := Aside0.mk (Kd.R_below (by (with_reducible repeat (first | apply Kd.R_alloc | apply Kd.R_drewN | apply Kd.R_drew)); exact HO609.out) hb); have n2_ := Aside0.mk (Kd.R_below (by (with_reducible repeat (first | apply Kd.R_alloc | apply Kd.R_drewN | apply Kd.R_drew)); exact HO618.out) hb); have n3_ := Aside0.mk (Kd.R_below (by (with_reducible repeat (first | apply Kd.R_alloc | apply Kd.R_drewN | apply Kd.R_drew)); exact HO626.out) hb); have n4_ := Aside0.mk (Kd.R_below (by (with_reducible repeat (first | apply Kd.R_alloc | apply Kd.R_drewN | apply Kd.R_drew)); exact HO632.out) hb); have n5_ := Aside0.mk (blk_below (g := gb610) (o := .cells #[.int .i64 t606, .slice Ao19 t607.length co19] 32 (0, 0)) (by (with_reducible repeat (first | refine blk_drewN ?_ _ | refine blk_drew ?_ | refine blk_alloc ?_ _)); exact BK610.out) hb); have n6_ := Aside0.mk (blk_below (g := gb628) (o := .cells #[.int .i64 t623, .slice Ao30 t624.length co30] 32 (0, 0)) (by (with_reducible repeat (first | refine blk_drewN ?_ _ | refine blk_drew ?_ | refine blk_alloc ?_ _)); exact BK628.out) hb); have n7_ := Aside0.mk (blk_below (g := gb634) (o := .cells #[.int .i64 t629, .slice Ao39 t630.length co39] 32 (0, 0)) (by (with_reducible repeat (first | refine blk_drewN ?_ _ | refine blk_drew ?_ | refine blk_alloc ?_ _)); exact BK634.out) hb); have n8_ := Aside0.mk (below_step (by repeat (first | (with_reducible first | exact HB.out | apply below_alloc | apply pw_below_drewN | apply below_drew1 | refine below_set ?_ GE610.out | refine below_set ?_ GE628.out | refine below_set ?_ GE634.out) | exact HB.out)) hb); clear HO605; clear HO609; clear HO618; clear HO626; clear HO632; clear BK610; clear BK628; clear BK634; clear HB; have HO605 := n0_; have HO609 := n1_; have HO618 := n2_; have HO626 := n3_; have HO632 := n4_; have BK610 := n5_; have BK628 := n6_; have BK634 := n7_; have HB := n8_; clear n0_ n1_ n2_ n3_ n4_ n5_ n6_ n7_ n8_; (try clear hb); (try clear hb2); (try clear hk); (try clear hi)))
                    go_meet
                    case rel => exact ⟨_, (true), (by first | rfl | (simp; done) | (simp [*]; done)), H', ⟨by first | omega | exact Nat.le_refl _⟩, ⟨by (with_reducible repeat (first | apply Kd.R_alloc | apply Kd.R_drewN | apply Kd.R_drew)); exact Kd.R_mono HO605.out (fun _ hk => ⟨hk.1.1, ⟨hk.1.2.2, hk.2⟩⟩)⟩, ⟨by (with_reducible repeat (first | apply Kd.R_alloc | apply Kd.R_drewN | apply Kd.R_drew)); exact Kd.R_mono HO609.out (fun _ hk => ⟨hk.1.1, ⟨hk.1.2.2, hk.2⟩⟩)⟩, ⟨by (with_reducible repeat (first | apply Kd.R_alloc | apply Kd.R_drewN | apply Kd.R_drew)); exact Kd.R_mono HO626.out (fun _ hk => ⟨hk.1.1, ⟨hk.1.2.1, hk.2⟩⟩)⟩, ⟨by (with_reducible repeat (first | apply Kd.R_alloc | apply Kd.R_drewN | apply Kd.R_drew)); exact Kd.R_mono HO632.out (fun _ hk => ⟨hk.1.1.1.2, ⟨hk.1.1.2, hk.2⟩⟩)⟩, ⟨by (with_reducible repeat (first | refine blk_drewN ?_ _ | refine blk_drew ?_ | refine blk_alloc ?_ _)); exact BK610.out⟩, ⟨by (with_reducible repeat (first | refine blk_drewN ?_ _ | refine blk_drew ?_ | refine blk_alloc ?_ _)); exact BK628.out⟩, ⟨by (with_reducible repeat (first | refine blk_drewN ?_ _ | refine blk_drew ?_ | refine blk_alloc ?_ _)); exact BK634.out⟩, ⟨by repeat (first | (with_reducible first | exact HB.out | apply below_alloc | apply pw_below_drewN | apply below_drew1 | refine below_set ?_ GE610.out | refine below_set ?_ GE628.out | refine below_set ?_ GE634.out) | exact HB.out)⟩⟩
                · rw [if_neg c44] at H
                  have c44b0 : (t606 == (t602.length : Int)) = false := beq_eq_false_iff_ne.mpr c44
                  have c44b1 : (t606 != (t602.length : Int)) = true := bne_iff_ne.mpr c44
                  (first | rw [c44b0] | (simp only [i64_w, i32_w]; rw [c44b0]) | skip)
                  have H' := Aside0.mk H
                  clear H
                  have hnb77 := NB610_628.out
                  have hnc77 := NB628_610.out
                  have hnb78 := NB610_634.out
                  have hnc78 := NB634_610.out
                  have hcz79_0 : w35.cell? ⟨gb610, 0, none⟩ = some (.int .i64 t606) := (blk_cell BK610.out 0).trans rfl
                  have hcz79_1 : w35.cell? ⟨gb610, 1, none⟩ = some (.slice Ao19 t607.length co19) := (blk_cell BK610.out 1).trans rfl
                  have hfz79_0 := blk_frozen BK610.out 0
                  have hfz79_1 := blk_frozen BK610.out 1
                  go_wp2_with (first | (go_at_call 31; (with_reducible refine (impl_EdgeOk.calls k t606 _ _ t607 true _ ?side1 ?side2 A42.out).mono ?_); (case side1 => refine (Kd.R_reads' (e := 9) (base := w.heap.size) (ok := fun k_ => ((some k_ ≠ (.slice Ao15 t602.length co15 : Value).ownBlock ∧ (some k_ ≠ (v617 : Value).ownBlock ∧ some k_ ≠ (.slice Ao30 t624.length co30 : Value).ownBlock)) ∧ some k_ ≠ (.slice Ao39 t630.length co39 : Value).ownBlock)) (n := t607.length) (c := co19) ?_).2.2; exact (by (with_reducible repeat (first | apply Kd.R_alloc | apply Kd.R_drewN | apply Kd.R_drew)); exact (Kd.R_mono (Kd.R_far (p := ⟨gb634, 1, none⟩) (Kd.R_far (p := ⟨gb634, 0, none⟩) (Kd.R_types HO609.out BK634.out (by decide)) (fun _ hk => hk.2) (.int .i64 t629)) (fun _ hk => hk.2) (.slice Ao39 t630.length co39)) (fun _ h_ => h_.1)))); (case side2 => exact (Kd.R_reads' HO609.out).2.1); rintro e w80 ⟨rfl, hb⟩; have n0_ := Aside0.mk (Kd.R_below (by (with_reducible repeat (first | apply Kd.R_alloc | apply Kd.R_drewN | apply Kd.R_drew)); exact (Kd.R_mono (Kd.R_far (p := ⟨gb634, 1, none⟩) (Kd.R_far (p := ⟨gb634, 0, none⟩) (Kd.R_types HO605.out BK634.out (by decide)) (fun _ hk => hk.2) (.int .i64 t629)) (fun _ hk => hk.2) (.slice Ao39 t630.length co39)) (fun _ h_ => h_.1))) hb); have n1_ := Aside0.mk (Kd.R_below (by (with_reducible repeat (first | apply Kd.R_alloc | apply Kd.R_drewN | apply Kd.R_drew)); exact (Kd.R_mono (Kd.R_far (p := ⟨gb634, 1, none⟩) (Kd.R_far (p := ⟨gb634, 0, none⟩) (Kd.R_types HO609.out BK634.out (by decide)) (fun _ hk => hk.2) (.int .i64 t629)) (fun _ hk => hk.2) (.slice Ao39 t630.length co39)) (fun _ h_ => h_.1))) hb); have n2_ := Aside0.mk (Kd.R_below (by (with_reducible repeat (first | apply Kd.R_alloc | apply Kd.R_drewN | apply Kd.R_drew)); exact (Kd.R_mono (Kd.R_far (p := ⟨gb634, 1, none⟩) (Kd.R_far (p := ⟨gb634, 0, none⟩) (Kd.R_types HO618.out BK634.out (by decide)) (fun _ hk => hk.2) (.int .i64 t629)) (fun _ hk => hk.2) (.slice Ao39 t630.length co39)) (fun _ h_ => h_.1))) hb); have n3_ := Aside0.mk (Kd.R_below (by (with_reducible repeat (first | apply Kd.R_alloc | apply Kd.R_drewN | apply Kd.R_drew)); exact (Kd.R_mono (Kd.R_far (p := ⟨gb634, 1, none⟩) (Kd.R_far (p := ⟨gb634, 0, none⟩) (Kd.R_types HO626.out BK634.out (by decide)) (fun _ hk => hk.2) (.int .i64 t629)) (fun _ hk => hk.2) (.slice Ao39 t630.length co39)) (fun _ h_ => h_.1))) hb); have n4_ := Aside0.mk (Kd.R_below (by (with_reducible repeat (first | apply Kd.R_alloc | apply Kd.R_drewN | apply Kd.R_drew)); exact (Kd.R_mono (Kd.R_far (p := ⟨gb634, 1, none⟩) (Kd.R_far (p := ⟨gb634, 0, none⟩) (Kd.R_types HO632.out BK634.out (by decide)) (fun _ hk => hk.2) (.int .i64 t629)) (fun _ hk => hk.2) (.slice Ao39 t630.length co39)) (fun _ h_ => h_.1))) hb); have n5_ := Aside0.mk (blk_below (g := gb610) (o := .cells #[.int .i64 t606, .slice Ao19 t607.length co19] 32 (0, 0)) (by (with_reducible repeat (first | refine blk_drewN ?_ _ | refine blk_drew ?_ | refine blk_alloc ?_ _)); refine blk_far ?_ NB610_634.out _; (with_reducible repeat (first | refine blk_drewN ?_ _ | refine blk_drew ?_ | refine blk_alloc ?_ _)); refine blk_far ?_ NB610_634.out _; (with_reducible repeat (first | refine blk_drewN ?_ _ | refine blk_drew ?_ | refine blk_alloc ?_ _)); exact BK610.out) hb); have n6_ := Aside0.mk (blk_below (g := gb628) (o := .cells #[.int .i64 t623, .slice Ao30 t624.length co30] 32 (0, 0)) (by (with_reducible repeat (first | refine blk_drewN ?_ _ | refine blk_drew ?_ | refine blk_alloc ?_ _)); refine blk_far ?_ NB628_634.out _; (with_reducible repeat (first | refine blk_drewN ?_ _ | refine blk_drew ?_ | refine blk_alloc ?_ _)); refine blk_far ?_ NB628_634.out _; (with_reducible repeat (first | refine blk_drewN ?_ _ | refine blk_drew ?_ | refine blk_alloc ?_ _)); exact BK628.out) hb); have n7_ := Aside0.mk (blk_below (g := gb634) (o := .cells #[.int .i64 t629, .slice Ao39 t630.length co39] 32 (0, 0)) (by (with_reducible repeat (first | refine blk_drewN ?_ _ | refine blk_drew ?_ | refine blk_alloc ?_ _)); refine blk_put (cs := #[.int .i64 t629, .slice none 0 0]) ?_ 1 _ rfl; (with_reducible repeat (first | refine blk_drewN ?_ _ | refine blk_drew ?_ | refine blk_alloc ?_ _)); refine blk_put (cs := #[.int .i64 0, .slice none 0 0]) ?_ 0 _ rfl; (with_reducible repeat (first | refine blk_drewN ?_ _ | refine blk_drew ?_ | refine blk_alloc ?_ _)); exact BK634.out) hb); have n8_ := Aside0.mk (below_step (by repeat (first | (with_reducible first | exact HB.out | apply below_alloc | apply pw_below_drewN | apply below_drew1 | refine below_set ?_ GE610.out | refine below_set ?_ GE628.out | refine below_set ?_ GE634.out) | exact HB.out)) hb); clear HO605; clear HO609; clear HO618; clear HO626; clear HO632; clear BK610; clear BK628; clear BK634; clear HB; have HO605 := n0_; have HO609 := n1_; have HO618 := n2_; have HO626 := n3_; have HO632 := n4_; have BK610 := n5_; have BK628 := n6_; have BK634 := n7_; have HB := n8_; clear n0_ n1_ n2_ n3_ n4_ n5_ n6_ n7_ n8_; (try clear hb); (try clear hb2); (try clear hk); (try clear hi); have hcz81_0 : w80.cell? ⟨gb610, 0, none⟩ = some (.int .i64 t606) := (blk_cell BK610.out 0).trans rfl; have hcz81_1 : w80.cell? ⟨gb610, 1, none⟩ = some (.slice Ao19 t607.length co19) := (blk_cell BK610.out 1).trans rfl; have hfz81_0 := blk_frozen BK610.out 0; have hfz81_1 := blk_frozen BK610.out 1))
                  go_meet
                  case rel => exact ⟨_, (true), (by first | rfl | (simp; done) | (simp [*]; done)), H', ⟨by first | omega | exact Nat.le_refl _⟩, ⟨by (with_reducible repeat (first | apply Kd.R_alloc | apply Kd.R_drewN | apply Kd.R_drew)); exact Kd.R_mono HO605.out (fun _ hk => ⟨hk.1.1, ⟨hk.1.2.2, hk.2⟩⟩)⟩, ⟨by (with_reducible repeat (first | apply Kd.R_alloc | apply Kd.R_drewN | apply Kd.R_drew)); exact Kd.R_mono HO609.out (fun _ hk => ⟨hk.1.1, ⟨hk.1.2.2, hk.2⟩⟩)⟩, ⟨by (with_reducible repeat (first | apply Kd.R_alloc | apply Kd.R_drewN | apply Kd.R_drew)); exact Kd.R_mono HO626.out (fun _ hk => ⟨hk.1.1, ⟨hk.1.2.1, hk.2⟩⟩)⟩, ⟨by (with_reducible repeat (first | apply Kd.R_alloc | apply Kd.R_drewN | apply Kd.R_drew)); exact Kd.R_mono HO632.out (fun _ hk => ⟨hk.1.1.1.2, ⟨hk.1.1.2, hk.2⟩⟩)⟩, ⟨by (with_reducible repeat (first | refine blk_drewN ?_ _ | refine blk_drew ?_ | refine blk_alloc ?_ _)); exact BK610.out⟩, ⟨by (with_reducible repeat (first | refine blk_drewN ?_ _ | refine blk_drew ?_ | refine blk_alloc ?_ _)); exact BK628.out⟩, ⟨by (with_reducible repeat (first | refine blk_drewN ?_ _ | refine blk_drew ?_ | refine blk_alloc ?_ _)); exact BK634.out⟩, ⟨by repeat (first | (with_reducible first | exact HB.out | apply below_alloc | apply pw_below_drewN | apply below_drew1 | refine below_set ?_ GE610.out | refine below_set ?_ GE628.out | refine below_set ?_ GE634.out) | exact HB.out)⟩⟩
              · replace c43 := Bool.eq_false_iff.mpr c43
                subst c43
                have H1 : (laws_FnEdges.j0 k t602 true t606 t607 t629 t630) = some r := by rw [if_neg (show ¬ (false = true) by decide)] at H; exact H
                clear H
                have H := H1
                clear H1
                have H' := Aside0.mk H
                clear H
                have hnb82 := NB610_628.out
                have hnc82 := NB628_610.out
                have hnb83 := NB610_634.out
                have hnc83 := NB634_610.out
                have hcz84_0 : w35.cell? ⟨gb610, 0, none⟩ = some (.int .i64 t606) := (blk_cell BK610.out 0).trans rfl
                have hcz84_1 : w35.cell? ⟨gb610, 1, none⟩ = some (.slice Ao19 t607.length co19) := (blk_cell BK610.out 1).trans rfl
                have hfz84_0 := blk_frozen BK610.out 0
                have hfz84_1 := blk_frozen BK610.out 1
                go_wp2_with (first | (go_at_call 31; (with_reducible refine (impl_EdgeOk.calls k t606 _ _ t607 false _ ?side1 ?side2 A42.out).mono ?_); (case side1 => refine (Kd.R_reads' (e := 9) (base := w.heap.size) (ok := fun k_ => ((some k_ ≠ (.slice Ao15 t602.length co15 : Value).ownBlock ∧ (some k_ ≠ (v617 : Value).ownBlock ∧ some k_ ≠ (.slice Ao30 t624.length co30 : Value).ownBlock)) ∧ some k_ ≠ (.slice Ao39 t630.length co39 : Value).ownBlock)) (n := t607.length) (c := co19) ?_).2.2; exact (by (with_reducible repeat (first | apply Kd.R_alloc | apply Kd.R_drewN | apply Kd.R_drew)); exact (Kd.R_mono (Kd.R_far (p := ⟨gb634, 1, none⟩) (Kd.R_far (p := ⟨gb634, 0, none⟩) (Kd.R_types HO609.out BK634.out (by decide)) (fun _ hk => hk.2) (.int .i64 t629)) (fun _ hk => hk.2) (.slice Ao39 t630.length co39)) (fun _ h_ => h_.1)))); (case side2 => exact (Kd.R_reads' HO609.out).2.1); rintro e w85 ⟨rfl, hb⟩; have n0_ := Aside0.mk (Kd.R_below (by (with_reducible repeat (first | apply Kd.R_alloc | apply Kd.R_drewN | apply Kd.R_drew)); exact (Kd.R_mono (Kd.R_far (p := ⟨gb634, 1, none⟩) (Kd.R_far (p := ⟨gb634, 0, none⟩) (Kd.R_types HO605.out BK634.out (by decide)) (fun _ hk => hk.2) (.int .i64 t629)) (fun _ hk => hk.2) (.slice Ao39 t630.length co39)) (fun _ h_ => h_.1))) hb); have n1_ := Aside0.mk (Kd.R_below (by (with_reducible repeat (first | apply Kd.R_alloc | apply Kd.R_drewN | apply Kd.R_drew)); exact (Kd.R_mono (Kd.R_far (p := ⟨gb634, 1, none⟩) (Kd.R_far (p := ⟨gb634, 0, none⟩) (Kd.R_types HO609.out BK634.out (by decide)) (fun _ hk => hk.2) (.int .i64 t629)) (fun _ hk => hk.2) (.slice Ao39 t630.length co39)) (fun _ h_ => h_.1))) hb); have n2_ := Aside0.mk (Kd.R_below (by (with_reducible repeat (first | apply Kd.R_alloc | apply Kd.R_drewN | apply Kd.R_drew)); exact (Kd.R_mono (Kd.R_far (p := ⟨gb634, 1, none⟩) (Kd.R_far (p := ⟨gb634, 0, none⟩) (Kd.R_types HO618.out BK634.out (by decide)) (fun _ hk => hk.2) (.int .i64 t629)) (fun _ hk => hk.2) (.slice Ao39 t630.length co39)) (fun _ h_ => h_.1))) hb); have n3_ := Aside0.mk (Kd.R_below (by (with_reducible repeat (first | apply Kd.R_alloc | apply Kd.R_drewN | apply Kd.R_drew)); exact (Kd.R_mono (Kd.R_far (p := ⟨gb634, 1, none⟩) (Kd.R_far (p := ⟨gb634, 0, none⟩) (Kd.R_types HO626.out BK634.out (by decide)) (fun _ hk => hk.2) (.int .i64 t629)) (fun _ hk => hk.2) (.slice Ao39 t630.length co39)) (fun _ h_ => h_.1))) hb); have n4_ := Aside0.mk (Kd.R_below (by (with_reducible repeat (first | apply Kd.R_alloc | apply Kd.R_drewN | apply Kd.R_drew)); exact (Kd.R_mono (Kd.R_far (p := ⟨gb634, 1, none⟩) (Kd.R_far (p := ⟨gb634, 0, none⟩) (Kd.R_types HO632.out BK634.out (by decide)) (fun _ hk => hk.2) (.int .i64 t629)) (fun _ hk => hk.2) (.slice Ao39 t630.length co39)) (fun _ h_ => h_.1))) hb); have n5_ := Aside0.mk (blk_below (g := gb610) (o := .cells #[.int .i64 t606, .slice Ao19 t607.length co19] 32 (0, 0)) (by (with_reducible repeat (first | refine blk_drewN ?_ _ | refine blk_drew ?_ | refine blk_alloc ?_ _)); refine blk_far ?_ NB610_634.out _; (with_reducible repeat (first | refine blk_drewN ?_ _ | refine blk_drew ?_ | refine blk_alloc ?_ _)); refine blk_far ?_ NB610_634.out _; (with_reducible repeat (first | refine blk_drewN ?_ _ | refine blk_drew ?_ | refine blk_alloc ?_ _)); exact BK610.out) hb); have n6_ := Aside0.mk (blk_below (g := gb628) (o := .cells #[.int .i64 t623, .slice Ao30 t624.length co30] 32 (0, 0)) (by (with_reducible repeat (first | refine blk_drewN ?_ _ | refine blk_drew ?_ | refine blk_alloc ?_ _)); refine blk_far ?_ NB628_634.out _; (with_reducible repeat (first | refine blk_drewN ?_ _ | refine blk_drew ?_ | refine blk_alloc ?_ _)); refine blk_far ?_ NB628_634.out _; (with_reducible repeat (first | refine blk_drewN ?_ _ | refine blk_drew ?_ | refine blk_alloc ?_ _)); exact BK628.out) hb); have n7_ := Aside0.mk (blk_below (g := gb634) (o := .cells #[.int .i64 t629, .slice Ao39 t630.length co39] 32 (0, 0)) (by (with_reducible repeat (first | refine blk_drewN ?_ _ | refine blk_drew ?_ | refine blk_alloc ?_ _)); refine blk_put (cs := #[.int .i64 t629, .slice none 0 0]) ?_ 1 _ rfl; (with_reducible repeat (first | refine blk_drewN ?_ _ | refine blk_drew ?_ | refine blk_alloc ?_ _)); refine blk_put (cs := #[.int .i64 0, .slice none 0 0]) ?_ 0 _ rfl; (with_reducible repeat (first | refine blk_drewN ?_ _ | refine blk_drew ?_ | refine blk_alloc ?_ _)); exact BK634.out) hb); have n8_ := Aside0.mk (below_step (by repeat (first | (with_reducible first | exact HB.out | apply below_alloc | apply pw_below_drewN | apply below_drew1 | refine below_set ?_ GE610.out | refine below_set ?_ GE628.out | refine below_set ?_ GE634.out) | exact HB.out)) hb); clear HO605; clear HO609; clear HO618; clear HO626; clear HO632; clear BK610; clear BK628; clear BK634; clear HB; have HO605 := n0_; have HO609 := n1_; have HO618 := n2_; have HO626 := n3_; have HO632 := n4_; have BK610 := n5_; have BK628 := n6_; have BK634 := n7_; have HB := n8_; clear n0_ n1_ n2_ n3_ n4_ n5_ n6_ n7_ n8_; (try clear hb); (try clear hb2); (try clear hk); (try clear hi)))
                go_meet
                case rel => exact ⟨_, (true), (by first | rfl | (simp; done) | (simp [*]; done)), H', ⟨by first | omega | exact Nat.le_refl _⟩, ⟨by (with_reducible repeat (first | apply Kd.R_alloc | apply Kd.R_drewN | apply Kd.R_drew)); exact Kd.R_mono HO605.out (fun _ hk => ⟨hk.1.1, ⟨hk.1.2.2, hk.2⟩⟩)⟩, ⟨by (with_reducible repeat (first | apply Kd.R_alloc | apply Kd.R_drewN | apply Kd.R_drew)); exact Kd.R_mono HO609.out (fun _ hk => ⟨hk.1.1, ⟨hk.1.2.2, hk.2⟩⟩)⟩, ⟨by (with_reducible repeat (first | apply Kd.R_alloc | apply Kd.R_drewN | apply Kd.R_drew)); exact Kd.R_mono HO626.out (fun _ hk => ⟨hk.1.1, ⟨hk.1.2.1, hk.2⟩⟩)⟩, ⟨by (with_reducible repeat (first | apply Kd.R_alloc | apply Kd.R_drewN | apply Kd.R_drew)); exact Kd.R_mono HO632.out (fun _ hk => ⟨hk.1.1.1.2, ⟨hk.1.1.2, hk.2⟩⟩)⟩, ⟨by (with_reducible repeat (first | refine blk_drewN ?_ _ | refine blk_drew ?_ | refine blk_alloc ?_ _)); exact BK610.out⟩, ⟨by (with_reducible repeat (first | refine blk_drewN ?_ _ | refine blk_drew ?_ | refine blk_alloc ?_ _)); exact BK628.out⟩, ⟨by (with_reducible repeat (first | refine blk_drewN ?_ _ | refine blk_drew ?_ | refine blk_alloc ?_ _)); exact BK634.out⟩, ⟨by repeat (first | (with_reducible first | exact HB.out | apply below_alloc | apply pw_below_drewN | apply below_drew1 | refine below_set ?_ GE610.out | refine below_set ?_ GE628.out | refine below_set ?_ GE634.out) | exact HB.out)⟩⟩
            · replace c41 := Bool.eq_false_iff.mpr c41
              subst c41
              have H1 : (laws_FnEdges.j0 k t602 true t606 t607 t629 t630) = some r := by rw [if_neg (show ¬ (false = true) by decide)] at H; exact H
              clear H
              have H := H1
              clear H1
              have H' := Aside0.mk H
              clear H
              go_wp2
              go_meet
              case rel => exact ⟨_, (true), (by first | rfl | (simp; done) | (simp [*]; done)), H', ⟨by first | omega | exact Nat.le_refl _⟩, ⟨by (with_reducible repeat (first | apply Kd.R_alloc | apply Kd.R_drewN | apply Kd.R_drew)); exact Kd.R_mono (Kd.R_far (p := ⟨gb634, 1, none⟩) (Kd.R_far (p := ⟨gb634, 0, none⟩) (Kd.R_types HO605.out BK634.out (by decide)) (fun _ hk => hk.2) (.int .i64 t629)) (fun _ hk => hk.2) (.slice Ao39 t630.length co39)) (fun _ hk => ⟨hk.1.1.1, ⟨hk.1.1.2.2, hk.1.2⟩⟩)⟩, ⟨by (with_reducible repeat (first | apply Kd.R_alloc | apply Kd.R_drewN | apply Kd.R_drew)); exact Kd.R_mono (Kd.R_far (p := ⟨gb634, 1, none⟩) (Kd.R_far (p := ⟨gb634, 0, none⟩) (Kd.R_types HO609.out BK634.out (by decide)) (fun _ hk => hk.2) (.int .i64 t629)) (fun _ hk => hk.2) (.slice Ao39 t630.length co39)) (fun _ hk => ⟨hk.1.1.1, ⟨hk.1.1.2.2, hk.1.2⟩⟩)⟩, ⟨by (with_reducible repeat (first | apply Kd.R_alloc | apply Kd.R_drewN | apply Kd.R_drew)); exact Kd.R_mono (Kd.R_far (p := ⟨gb634, 1, none⟩) (Kd.R_far (p := ⟨gb634, 0, none⟩) (Kd.R_types HO626.out BK634.out (by decide)) (fun _ hk => hk.2) (.int .i64 t629)) (fun _ hk => hk.2) (.slice Ao39 t630.length co39)) (fun _ hk => ⟨hk.1.1.1, ⟨hk.1.1.2.1, hk.1.2⟩⟩)⟩, ⟨by (with_reducible repeat (first | apply Kd.R_alloc | apply Kd.R_drewN | apply Kd.R_drew)); exact Kd.R_mono (Kd.R_far (p := ⟨gb634, 1, none⟩) (Kd.R_far (p := ⟨gb634, 0, none⟩) (Kd.R_types HO632.out BK634.out (by decide)) (fun _ hk => hk.2) (.int .i64 t629)) (fun _ hk => hk.2) (.slice Ao39 t630.length co39)) (fun _ hk => ⟨hk.1.1.1.1.2, ⟨hk.1.1.1.2, hk.1.2⟩⟩)⟩, ⟨by (with_reducible repeat (first | refine blk_drewN ?_ _ | refine blk_drew ?_ | refine blk_alloc ?_ _)); refine blk_far ?_ NB610_634.out _; (with_reducible repeat (first | refine blk_drewN ?_ _ | refine blk_drew ?_ | refine blk_alloc ?_ _)); refine blk_far ?_ NB610_634.out _; (with_reducible repeat (first | refine blk_drewN ?_ _ | refine blk_drew ?_ | refine blk_alloc ?_ _)); exact BK610.out⟩, ⟨by (with_reducible repeat (first | refine blk_drewN ?_ _ | refine blk_drew ?_ | refine blk_alloc ?_ _)); refine blk_far ?_ NB628_634.out _; (with_reducible repeat (first | refine blk_drewN ?_ _ | refine blk_drew ?_ | refine blk_alloc ?_ _)); refine blk_far ?_ NB628_634.out _; (with_reducible repeat (first | refine blk_drewN ?_ _ | refine blk_drew ?_ | refine blk_alloc ?_ _)); exact BK628.out⟩, ⟨by (with_reducible repeat (first | refine blk_drewN ?_ _ | refine blk_drew ?_ | refine blk_alloc ?_ _)); refine blk_put (cs := #[.int .i64 t629, .slice none 0 0]) ?_ 1 _ rfl; (with_reducible repeat (first | refine blk_drewN ?_ _ | refine blk_drew ?_ | refine blk_alloc ?_ _)); refine blk_put (cs := #[.int .i64 0, .slice none 0 0]) ?_ 0 _ rfl; (with_reducible repeat (first | refine blk_drewN ?_ _ | refine blk_drew ?_ | refine blk_alloc ?_ _)); exact BK634.out⟩, ⟨by repeat (first | (with_reducible first | exact HB.out | apply below_alloc | apply pw_below_drewN | apply below_drew1 | refine below_set ?_ GE610.out | refine below_set ?_ GE628.out | refine below_set ?_ GE634.out) | exact HB.out)⟩⟩
          · replace c40 := Bool.eq_false_iff.mpr c40
            subst c40
            have H1 : (laws_FnEdges.j0 k t602 true t606 t607 t629 t630) = some r := by rw [if_neg (show ¬ (false = true) by decide)] at H; exact H
            clear H
            have H := H1
            clear H1
            have H' := Aside0.mk H
            clear H
            go_wp2
            go_meet
            case rel => exact ⟨_, (true), (by first | rfl | (simp; done) | (simp [*]; done)), H', ⟨by first | omega | exact Nat.le_refl _⟩, ⟨by (with_reducible repeat (first | apply Kd.R_alloc | apply Kd.R_drewN | apply Kd.R_drew)); exact Kd.R_mono (Kd.R_far (p := ⟨gb634, 1, none⟩) (Kd.R_far (p := ⟨gb634, 0, none⟩) (Kd.R_types HO605.out BK634.out (by decide)) (fun _ hk => hk.2) (.int .i64 t629)) (fun _ hk => hk.2) (.slice Ao39 t630.length co39)) (fun _ hk => ⟨hk.1.1.1, ⟨hk.1.1.2.2, hk.1.2⟩⟩)⟩, ⟨by (with_reducible repeat (first | apply Kd.R_alloc | apply Kd.R_drewN | apply Kd.R_drew)); exact Kd.R_mono (Kd.R_far (p := ⟨gb634, 1, none⟩) (Kd.R_far (p := ⟨gb634, 0, none⟩) (Kd.R_types HO609.out BK634.out (by decide)) (fun _ hk => hk.2) (.int .i64 t629)) (fun _ hk => hk.2) (.slice Ao39 t630.length co39)) (fun _ hk => ⟨hk.1.1.1, ⟨hk.1.1.2.2, hk.1.2⟩⟩)⟩, ⟨by (with_reducible repeat (first | apply Kd.R_alloc | apply Kd.R_drewN | apply Kd.R_drew)); exact Kd.R_mono (Kd.R_far (p := ⟨gb634, 1, none⟩) (Kd.R_far (p := ⟨gb634, 0, none⟩) (Kd.R_types HO626.out BK634.out (by decide)) (fun _ hk => hk.2) (.int .i64 t629)) (fun _ hk => hk.2) (.slice Ao39 t630.length co39)) (fun _ hk => ⟨hk.1.1.1, ⟨hk.1.1.2.1, hk.1.2⟩⟩)⟩, ⟨by (with_reducible repeat (first | apply Kd.R_alloc | apply Kd.R_drewN | apply Kd.R_drew)); exact Kd.R_mono (Kd.R_far (p := ⟨gb634, 1, none⟩) (Kd.R_far (p := ⟨gb634, 0, none⟩) (Kd.R_types HO632.out BK634.out (by decide)) (fun _ hk => hk.2) (.int .i64 t629)) (fun _ hk => hk.2) (.slice Ao39 t630.length co39)) (fun _ hk => ⟨hk.1.1.1.1.2, ⟨hk.1.1.1.2, hk.1.2⟩⟩)⟩, ⟨by (with_reducible repeat (first | refine blk_drewN ?_ _ | refine blk_drew ?_ | refine blk_alloc ?_ _)); refine blk_far ?_ NB610_634.out _; (with_reducible repeat (first | refine blk_drewN ?_ _ | refine blk_drew ?_ | refine blk_alloc ?_ _)); refine blk_far ?_ NB610_634.out _; (with_reducible repeat (first | refine blk_drewN ?_ _ | refine blk_drew ?_ | refine blk_alloc ?_ _)); exact BK610.out⟩, ⟨by (with_reducible repeat (first | refine blk_drewN ?_ _ | refine blk_drew ?_ | refine blk_alloc ?_ _)); refine blk_far ?_ NB628_634.out _; (with_reducible repeat (first | refine blk_drewN ?_ _ | refine blk_drew ?_ | refine blk_alloc ?_ _)); refine blk_far ?_ NB628_634.out _; (with_reducible repeat (first | refine blk_drewN ?_ _ | refine blk_drew ?_ | refine blk_alloc ?_ _)); exact BK628.out⟩, ⟨by (with_reducible repeat (first | refine blk_drewN ?_ _ | refine blk_drew ?_ | refine blk_alloc ?_ _)); refine blk_put (cs := #[.int .i64 t629, .slice none 0 0]) ?_ 1 _ rfl; (with_reducible repeat (first | refine blk_drewN ?_ _ | refine blk_drew ?_ | refine blk_alloc ?_ _)); refine blk_put (cs := #[.int .i64 0, .slice none 0 0]) ?_ 0 _ rfl; (with_reducible repeat (first | refine blk_drewN ?_ _ | refine blk_drew ?_ | refine blk_alloc ?_ _)); exact BK634.out⟩, ⟨by repeat (first | (with_reducible first | exact HB.out | apply below_alloc | apply pw_below_drewN | apply below_drew1 | refine below_set ?_ GE610.out | refine below_set ?_ GE628.out | refine below_set ?_ GE634.out) | exact HB.out)⟩⟩
        case rest =>
          clear HC13
          try clear c2
          try clear p2
          try clear c3
          try clear c4
          try clear c5
          try clear c6
          try clear c7
          try clear c8
          try clear c22
          try clear c23
          try clear c29
          try clear c30
          try clear c32
          try clear c36
          try clear c37
          try clear c40
          try clear c41
          try clear c43
          try clear c44
          try clear c44b0
          try clear c44b1
          try clear c47
          try clear c47b0
          try clear c47b1
          try clear c48
          try clear c48b0
          try clear c48b1
          try clear c50
          try clear c51
          try clear c57
          try clear c60
          try clear c61
          try clear c67
          try clear c70
          try clear c71
          try clear c77
          try clear c78
          try clear c82
          try clear c83
          try clear hcz33_0
          try clear hcz33_1
          try clear hcz38_0
          try clear hcz38_1
          try clear hcz52_0
          try clear hcz52_1
          try clear hcz54_0
          try clear hcz54_1
          try clear hcz58_0
          try clear hcz58_1
          try clear hcz59_0
          try clear hcz59_1
          try clear hcz62_0
          try clear hcz62_1
          try clear hcz64_0
          try clear hcz64_1
          try clear hcz68_0
          try clear hcz68_1
          try clear hcz69_0
          try clear hcz69_1
          try clear hcz72_0
          try clear hcz72_1
          try clear hcz74_0
          try clear hcz74_1
          try clear hcz79_0
          try clear hcz79_1
          try clear hcz81_0
          try clear hcz81_1
          try clear hcz84_0
          try clear hcz84_1
          try clear hfz33_0
          try clear hfz33_1
          try clear hfz38_0
          try clear hfz38_1
          try clear hfz52_0
          try clear hfz52_1
          try clear hfz54_0
          try clear hfz54_1
          try clear hfz58_0
          try clear hfz58_1
          try clear hfz59_0
          try clear hfz59_1
          try clear hfz62_0
          try clear hfz62_1
          try clear hfz64_0
          try clear hfz64_1
          try clear hfz68_0
          try clear hfz68_1
          try clear hfz69_0
          try clear hfz69_1
          try clear hfz72_0
          try clear hfz72_1
          try clear hfz74_0
          try clear hfz74_1
          try clear hfz79_0
          try clear hfz79_1
          try clear hfz81_0
          try clear hfz81_1
          try clear hfz84_0
          try clear hfz84_1
          obtain ⟨kq, x74_12, rfl, HA, HJ12, HO_3, HO_611001, HO_629001, HO_635001, BK610, BK628, BK634, HB⟩ := hcut
          cases kq with
          | zero => exact absurd HA.out (by simp [laws_FnEdges.j0])
          | succ kj12 =>
            have H := HA.out
            clear HA
            simp only [laws_FnEdges.j0] at H
            by_cases c86 : x74_12 = true
            · subst c86
              have H1 : (none) = some r := by rw [if_pos rfl] at H; exact H
              clear H
              have H := H1
              clear H1
              exact absurd H (by simp)
            · replace c86 := Bool.eq_false_iff.mpr c86
              subst c86
              have H1 : ((impl_EdgeRoot.f kj12 t629 t630).bind fun t639 => ((some (([] : List ByteArray) : List ByteArray)).bind fun y640 => (if y640.length + t602.length < 8796093022208 then ((some (y640 ++ t602 : List ByteArray)).bind fun y643 => (if y643.length < 8796093022208 then ((impl_RootOf.f kj12 (y643 ++ [(⟨#[120]⟩ : ByteArray)])).bind fun t649 => (if t639.toList = t649.toList then (some (decide ((t607.length : Int) ≤ 8))) else (none))) else (none))) else (none)))) = some r := by rw [if_neg (show ¬ (false = true) by decide)] at H; exact H
              clear H
              have H := H1
              clear H1
              replace H := Option.bind_eq_some_iff.mp H
              obtain ⟨t639, A870, H⟩ := H
              replace H : ((some (([] : List ByteArray) : List ByteArray)).bind fun y640 => (if y640.length + t602.length < 8796093022208 then ((some (y640 ++ t602 : List ByteArray)).bind fun y643 => (if y643.length < 8796093022208 then ((impl_RootOf.f kj12 (y643 ++ [(⟨#[120]⟩ : ByteArray)])).bind fun t649 => (if t639.toList = t649.toList then (some (decide ((t607.length : Int) ≤ 8))) else (none))) else (none))) else (none))) = some r := H
              have A87 := Aside0.mk A870
              clear A870
              obtain ⟨y640, hy640⟩ : ∃ y_ : List ByteArray, y_ = (([] : List ByteArray)) := ⟨_, rfl⟩
              replace H : (if y640.length + t602.length < 8796093022208 then ((some (y640 ++ t602 : List ByteArray)).bind fun y643 => (if y643.length < 8796093022208 then ((impl_RootOf.f kj12 (y643 ++ [(⟨#[120]⟩ : ByteArray)])).bind fun t649 => (if t639.toList = t649.toList then (some (decide ((t607.length : Int) ≤ 8))) else (none))) else (none))) else (none)) = some r := by first | (rw [hy640]; with_reducible exact H) | (have H2_ := (Option.bind_some _ _).symm.trans H; rw [hy640]; with_reducible exact H2_) | (have H2_ := (Option.bind_some _ _).symm.trans H; with_reducible exact H2_) | with_reducible exact H | (rw [hy640]; exact H) | exact H
              have Ny640 := Aside0.mk hy640
              clear hy640
              by_cases c88 : y640.length + t602.length < 8796093022208
              · rw [if_pos c88] at H
                have LMc88 := Aside0.mk c88
                clear c88
                obtain ⟨y643, hy643⟩ : ∃ y_ : List ByteArray, y_ = (y640 ++ t602) := ⟨_, rfl⟩
                replace H : (if y643.length < 8796093022208 then ((impl_RootOf.f kj12 (y643 ++ [(⟨#[120]⟩ : ByteArray)])).bind fun t649 => (if t639.toList = t649.toList then (some (decide ((t607.length : Int) ≤ 8))) else (none))) else (none)) = some r := by first | (rw [hy643]; with_reducible exact H) | (have H2_ := (Option.bind_some _ _).symm.trans H; rw [hy643]; with_reducible exact H2_) | (have H2_ := (Option.bind_some _ _).symm.trans H; with_reducible exact H2_) | with_reducible exact H | (rw [hy643]; exact H) | exact H
                have Ny643 := Aside0.mk hy643
                clear hy643
                by_cases c89 : y643.length < 8796093022208
                · rw [if_pos c89] at H
                  have LMc89 := Aside0.mk c89
                  clear c89
                  obtain ⟨y646, hy646⟩ : ∃ y_ : List ByteArray, y_ = (y643 ++ [(⟨#[120]⟩ : ByteArray)]) := ⟨_, rfl⟩
                  replace H : ((impl_RootOf.f kj12 y646).bind fun t649 => (if t639.toList = t649.toList then (some (decide ((t607.length : Int) ≤ 8))) else (none))) = some r := by first | (rw [hy646]; with_reducible exact H) | (have H2_ := (Option.bind_some _ _).symm.trans H; rw [hy646]; with_reducible exact H2_) | (have H2_ := (Option.bind_some _ _).symm.trans H; with_reducible exact H2_) | with_reducible exact H | (rw [hy646]; exact H) | exact H
                  have Ny646 := Aside0.mk hy646
                  clear hy646
                  replace H := Option.bind_eq_some_iff.mp H
                  obtain ⟨t649, A900, H⟩ := H
                  replace H : (if t639.toList = t649.toList then (some (decide ((t607.length : Int) ≤ 8))) else (none)) = some r := H
                  have A90 := Aside0.mk A900
                  clear A900
                  by_cases c91 : t639.toList = t649.toList
                  · rw [if_pos c91] at H
                    have c91b0 : (t639.toList == t649.toList) = true := beq_iff_eq.mpr c91
                    have c91b1 : (t639.toList != t649.toList) = false := bne_eq_false_iff_eq.mpr c91
                    clear c91
                    obtain rfl := Option.some.inj H
                    have hnb92 := NB634_610.out
                    have hnc92 := NB610_634.out
                    have hnb93 := NB634_628.out
                    have hnc93 := NB628_634.out
                    have hcz94_0 : wc.cell? ⟨gb634, 0, none⟩ = some (.int .i64 t629) := (blk_cell BK634.out 0).trans rfl
                    have hcz94_1 : wc.cell? ⟨gb634, 1, none⟩ = some (.slice Ao39 t630.length co39) := (blk_cell BK634.out 1).trans rfl
                    have hfz94_0 := blk_frozen BK634.out 0
                    have hfz94_1 := blk_frozen BK634.out 1
                    go_wp2_with (first | ((with_reducible refine gate_callee (f := 32) rfl ?_); refine goesL_ (some 76) rfl rfl Try.func32 (by kernel_rfl) rfl #[.agg #[.int .i64 t629, .slice Ao39 t630.length co39]] rfl (by (try simp only [List.map_toArray, List.map_cons, List.map_nil]); first | done | rfl | (simp only [List.length_drop, List.length_take]; rfl)) ?_; (with_reducible refine (impl_EdgeRoot.calls kj12 t629 _ _ t630 t639 _ ?side1 ?side2 A87.out).mono ?_); (case side1 => repeat (first | exact (Kd.R_reads' HO_635001.out).2.2 | (with_reducible refine Kd.C_alloc ?_ _) | (with_reducible refine Kd.C_drewN ?_ _) | (with_reducible refine Kd.C_drew ?_))); (case side2 => exact (Kd.R_reads' HO_635001.out).2.1); rintro e w95 ⟨rfl, hb⟩; refine ⟨_, rfl, ?_⟩; have n0_ := Aside0.mk (Kd.R_below (by (with_reducible repeat (first | apply Kd.R_alloc | apply Kd.R_drewN | apply Kd.R_drew)); exact HO_3.out) hb); have n1_ := Aside0.mk (Kd.R_below (by (with_reducible repeat (first | apply Kd.R_alloc | apply Kd.R_drewN | apply Kd.R_drew)); exact HO_611001.out) hb); have n2_ := Aside0.mk (Kd.R_below (by (with_reducible repeat (first | apply Kd.R_alloc | apply Kd.R_drewN | apply Kd.R_drew)); exact HO_629001.out) hb); have n3_ := Aside0.mk (Kd.R_below (by (with_reducible repeat (first | apply Kd.R_alloc | apply Kd.R_drewN | apply Kd.R_drew)); exact HO_635001.out) hb); have n4_ := Aside0.mk (blk_below (g := gb610) (o := .cells #[.int .i64 t606, .slice Ao19 t607.length co19] 32 (0, 0)) (by (with_reducible repeat (first | refine blk_drewN ?_ _ | refine blk_drew ?_ | refine blk_alloc ?_ _)); exact BK610.out) hb); have n5_ := Aside0.mk (blk_below (g := gb628) (o := .cells #[.int .i64 t623, .slice Ao30 t624.length co30] 32 (0, 0)) (by (with_reducible repeat (first | refine blk_drewN ?_ _ | refine blk_drew ?_ | refine blk_alloc ?_ _)); exact BK628.out) hb); have n6_ := Aside0.mk (blk_below (g := gb634) (o := .cells #[.int .i64 t629, .slice Ao39 t630.length co39] 32 (0, 0)) (by (with_reducible repeat (first | refine blk_drewN ?_ _ | refine blk_drew ?_ | refine blk_alloc ?_ _)); exact BK634.out) hb); have n7_ := Aside0.mk (below_step (by repeat (first | (with_reducible first | exact HB.out | apply below_alloc | apply pw_below_drewN | apply below_drew1 | refine below_set ?_ GE610.out | refine below_set ?_ GE628.out | refine below_set ?_ GE634.out) | exact HB.out)) hb); clear HO_3; clear HO_611001; clear HO_629001; clear HO_635001; clear BK610; clear BK628; clear BK634; clear HB; have HO_3 := n0_; have HO_611001 := n1_; have HO_629001 := n2_; have HO_635001 := n3_; have BK610 := n4_; have BK628 := n5_; have BK634 := n6_; have HB := n7_; clear n0_ n1_ n2_ n3_ n4_ n5_ n6_ n7_; (try clear hb); (try clear hb2); (try clear hk); (try clear hi)) | ((with_reducible refine gate_dst (N := 77) rfl ?_); (try (refine gate_guard (by rfl) ?_; dsimp only)); refine Kd.R_lit Kd.string _ 9 ?hg (N := 77) ?hd (xs := ([] : List ByteArray)) (inner := []) (ok := fun _ => True) (okp := fun _ => True) ?hr ?hp (fun _ hk => hk) trivial (Below.refl _ _) (Nat.le_refl _) (by simp) ?_; (case hd => rfl); (case hg => rfl); (case hr => first | (go_simp; done) | (go_simp; rfl)); (case hp => exact (Reps.none _ _)); intro v641 w96 ho97 hb hg_ hnew_; clear hg_ hnew_; (first | rw [← Ny640.out] at ho97 | (simp only [Int.reduceToNat] at ho97; rw [← Ny640.out] at ho97)); have n0_ := Aside0.mk (Kd.R_elder' (by (with_reducible repeat (first | apply Kd.R_alloc | apply Kd.R_drewN | apply Kd.R_drew)); exact HO_3.out) (Kd.R_base ho97) hb); have n1_ := Aside0.mk (Kd.R_elder' (by (with_reducible repeat (first | apply Kd.R_alloc | apply Kd.R_drewN | apply Kd.R_drew)); exact HO_611001.out) (Kd.R_base ho97) hb); have n2_ := Aside0.mk (Kd.R_elder' (by (with_reducible repeat (first | apply Kd.R_alloc | apply Kd.R_drewN | apply Kd.R_drew)); exact HO_629001.out) (Kd.R_base ho97) hb); have n3_ := Aside0.mk (Kd.R_elder' (by (with_reducible repeat (first | apply Kd.R_alloc | apply Kd.R_drewN | apply Kd.R_drew)); exact HO_635001.out) (Kd.R_base ho97) hb); have n4_ := Aside0.mk (Kd.R_lower (Kd.R_new' (Kd.R_new' (Kd.R_new' (Kd.R_new' ho97 (Kd.R_lt (by (with_reducible repeat (first | apply Kd.R_alloc | apply Kd.R_drewN | apply Kd.R_drew)); exact HO_3.out))) (Kd.R_lt (by (with_reducible repeat (first | apply Kd.R_alloc | apply Kd.R_drewN | apply Kd.R_drew)); exact HO_611001.out))) (Kd.R_lt (by (with_reducible repeat (first | apply Kd.R_alloc | apply Kd.R_drewN | apply Kd.R_drew)); exact HO_629001.out))) (Kd.R_lt (by (with_reducible repeat (first | apply Kd.R_alloc | apply Kd.R_drewN | apply Kd.R_drew)); exact HO_635001.out))) (below_size (by repeat (first | (with_reducible first | exact HB.out | apply below_alloc | apply pw_below_drewN | apply below_drew1 | refine below_set ?_ GE610.out | refine below_set ?_ GE628.out | refine below_set ?_ GE634.out) | exact HB.out)))); have n5_ := Aside0.mk (blk_below (g := gb610) (o := .cells #[.int .i64 t606, .slice Ao19 t607.length co19] 32 (0, 0)) (by (with_reducible repeat (first | refine blk_drewN ?_ _ | refine blk_drew ?_ | refine blk_alloc ?_ _)); exact BK610.out) hb); have n6_ := Aside0.mk (blk_below (g := gb628) (o := .cells #[.int .i64 t623, .slice Ao30 t624.length co30] 32 (0, 0)) (by (with_reducible repeat (first | refine blk_drewN ?_ _ | refine blk_drew ?_ | refine blk_alloc ?_ _)); exact BK628.out) hb); have n7_ := Aside0.mk (blk_below (g := gb634) (o := .cells #[.int .i64 t629, .slice Ao39 t630.length co39] 32 (0, 0)) (by (with_reducible repeat (first | refine blk_drewN ?_ _ | refine blk_drew ?_ | refine blk_alloc ?_ _)); exact BK634.out) hb); have n8_ := Aside0.mk (below_step (by repeat (first | (with_reducible first | exact HB.out | apply below_alloc | apply pw_below_drewN | apply below_drew1 | refine below_set ?_ GE610.out | refine below_set ?_ GE628.out | refine below_set ?_ GE634.out) | exact HB.out)) hb); clear HO_3; clear HO_611001; clear HO_629001; clear HO_635001; clear BK610; clear BK628; clear BK634; clear HB; have HO_3 := n0_; have HO_611001 := n1_; have HO_629001 := n2_; have HO_635001 := n3_; have HO642 := n4_; have BK610 := n5_; have BK628 := n6_; have BK634 := n7_; have HB := n8_; clear n0_ n1_ n2_ n3_ n4_ n5_ n6_ n7_ n8_; clear hb ho97) | ((with_reducible refine gate_builtin (b := .append) (xs := #[.tmp 77, .tmp 78]) rfl ?_); (try (refine gate_guard (by rfl) ?_; dsimp only)); at_builtin; refine Kd.R_append_rows Kd.string (w0 := w) w.heap.size rfl (.tmp 77) (.tmp 78) 22 9 (.string ⟨#[]⟩) 16 rfl Try.underlying22 info9 rfl (by decide) (by omega) v641 y640 t602 _ _ _ (fun k_ => some k_ ≠ (.slice Ao15 t602.length co15 : Value).ownBlock ∧ some k_ ≠ (.slice Ao19 t607.length co19 : Value).ownBlock ∧ some k_ ≠ (.slice Ao30 t624.length co30 : Value).ownBlock ∧ some k_ ≠ (.slice Ao39 t630.length co39 : Value).ownBlock) (fun _ => False) rfl rfl ?aO ?aR (fun _ _ h => h) (fun _ h => h.elim) ?aF ?aB ?aS ?aL ?_; (case aR => repeat (first | exact (Kd.R_reads' HO_3.out).2.2 | (with_reducible refine Kd.C_alloc ?_ _) | (with_reducible refine Kd.C_drewN ?_ _) | (with_reducible refine Kd.C_drew ?_))); (case aB => exact (by repeat (first | (with_reducible first | exact HB.out | apply below_alloc | apply pw_below_drewN | apply below_drew1 | refine below_set ?_ GE610.out | refine below_set ?_ GE628.out | refine below_set ?_ GE634.out) | exact HB.out))); (case aF => exact (fun k_ hk => ⟨Kd.fresh' (Kd.R_lt (by (with_reducible repeat (first | apply Kd.R_alloc | apply Kd.R_drewN | apply Kd.R_drew)); exact HO_3.out)) k_ hk, Kd.fresh' (Kd.R_lt (by (with_reducible repeat (first | apply Kd.R_alloc | apply Kd.R_drewN | apply Kd.R_drew)); exact HO_611001.out)) k_ hk, Kd.fresh' (Kd.R_lt (by (with_reducible repeat (first | apply Kd.R_alloc | apply Kd.R_drewN | apply Kd.R_drew)); exact HO_629001.out)) k_ hk, Kd.fresh' (Kd.R_lt (by (with_reducible repeat (first | apply Kd.R_alloc | apply Kd.R_drewN | apply Kd.R_drew)); exact HO_635001.out)) k_ hk⟩)); (case aO => exact (by (with_reducible repeat (first | apply Kd.R_alloc | apply Kd.R_drewN | apply Kd.R_drew)); exact Kd.R_mono HO642.out (fun _ hk => ⟨hk.1.1.1.2, ⟨hk.1.1.2, ⟨hk.1.2, hk.2⟩⟩⟩))); (case aS => exact (below_size (by repeat (first | (with_reducible first | exact HB.out | apply below_alloc | apply pw_below_drewN | apply below_drew1 | refine below_set ?_ GE610.out | refine below_set ?_ GE628.out | refine below_set ?_ GE634.out) | exact HB.out)))); (case aL => have := LMc88.out; omega); intro v644 w98 ho hb hg hat; rw [← Ny643.out] at ho; have n0_ := Aside0.mk (Kd.R_after (ok := (fun k_ => some k_ ≠ (.slice Ao19 t607.length co19 : Value).ownBlock ∧ some k_ ≠ (.slice Ao30 t624.length co30 : Value).ownBlock ∧ some k_ ≠ (.slice Ao39 t630.length co39 : Value).ownBlock)) (by (with_reducible repeat (first | apply Kd.R_alloc | apply Kd.R_drewN | apply Kd.R_drew)); exact HO_3.out) hg hat); have n1_ := Aside0.mk (Kd.R_after (ok := (fun k_ => some k_ ≠ (.slice Ao15 t602.length co15 : Value).ownBlock ∧ some k_ ≠ (.slice Ao30 t624.length co30 : Value).ownBlock ∧ some k_ ≠ (.slice Ao39 t630.length co39 : Value).ownBlock)) (by (with_reducible repeat (first | apply Kd.R_alloc | apply Kd.R_drewN | apply Kd.R_drew)); exact HO_611001.out) hg hat); have n2_ := Aside0.mk (Kd.R_after (ok := (fun k_ => some k_ ≠ (.slice Ao15 t602.length co15 : Value).ownBlock ∧ some k_ ≠ (.slice Ao19 t607.length co19 : Value).ownBlock ∧ some k_ ≠ (.slice Ao39 t630.length co39 : Value).ownBlock)) (by (with_reducible repeat (first | apply Kd.R_alloc | apply Kd.R_drewN | apply Kd.R_drew)); exact HO_629001.out) hg hat); have n3_ := Aside0.mk (Kd.R_after (ok := (fun k_ => some k_ ≠ (.slice Ao15 t602.length co15 : Value).ownBlock ∧ some k_ ≠ (.slice Ao19 t607.length co19 : Value).ownBlock ∧ some k_ ≠ (.slice Ao30 t624.length co30 : Value).ownBlock)) (by (with_reducible repeat (first | apply Kd.R_alloc | apply Kd.R_drewN | apply Kd.R_drew)); exact HO_635001.out) hg hat); have n4_ := Aside0.mk (blk_grown (g := gb610) (o := .cells #[.int .i64 t606, .slice Ao19 t607.length co19] 32 (0, 0)) (by (with_reducible repeat (first | refine blk_drewN ?_ _ | refine blk_drew ?_ | refine blk_alloc ?_ _)); exact BK610.out) hg (Kd.R_ne HO642.out BK610.out (by decide))); have n5_ := Aside0.mk (blk_grown (g := gb628) (o := .cells #[.int .i64 t623, .slice Ao30 t624.length co30] 32 (0, 0)) (by (with_reducible repeat (first | refine blk_drewN ?_ _ | refine blk_drew ?_ | refine blk_alloc ?_ _)); exact BK628.out) hg (Kd.R_ne HO642.out BK628.out (by decide))); have n6_ := Aside0.mk (blk_grown (g := gb634) (o := .cells #[.int .i64 t629, .slice Ao39 t630.length co39] 32 (0, 0)) (by (with_reducible repeat (first | refine blk_drewN ?_ _ | refine blk_drew ?_ | refine blk_alloc ?_ _)); exact BK634.out) hg (Kd.R_ne HO642.out BK634.out (by decide))); have n7_ := Aside0.mk (hb); have n8_ := Aside0.mk (ho); clear HO_3; clear HO_611001; clear HO_629001; clear HO_635001; clear BK610; clear BK628; clear BK634; clear HB; clear HO642; have HO_3 := n0_; have HO_611001 := n1_; have HO_629001 := n2_; have HO_635001 := n3_; have BK610 := n4_; have BK628 := n5_; have BK634 := n6_; have HB := n7_; have HO645 := n8_; clear n0_ n1_ n2_ n3_ n4_ n5_ n6_ n7_ n8_; clear ho hb hg hat) | ((with_reducible refine gate_builtin (b := .append) (xs := #[.tmp 79, .tmp 80]) rfl ?_); (try (refine gate_guard (by rfl) ?_; dsimp only)); at_builtin; refine Kd.R_append Kd.string (w0 := w) w.heap.size rfl (.tmp 79) (.tmp 80) 22 9 (.string ⟨#[]⟩) 16 rfl Try.underlying22 info9 rfl (by decide) (by omega) v644 y643 (⟨#[120]⟩ : ByteArray) [.string (⟨#[120]⟩ : ByteArray)] (fun k_ => some k_ ≠ (.slice Ao15 t602.length co15 : Value).ownBlock ∧ some k_ ≠ (.slice Ao19 t607.length co19 : Value).ownBlock ∧ some k_ ≠ (.slice Ao30 t624.length co30 : Value).ownBlock ∧ some k_ ≠ (.slice Ao39 t630.length co39 : Value).ownBlock) (fun _ => False) rfl rfl ?aP (fun _ hk => hk.elim) ?aF ?aO ?aB ?aS ?aL ?_; (case aP => exact rfl); (case aB => exact (by repeat (first | (with_reducible first | exact HB.out | apply below_alloc | apply pw_below_drewN | apply below_drew1 | refine below_set ?_ GE610.out | refine below_set ?_ GE628.out | refine below_set ?_ GE634.out) | exact HB.out))); (case aF => exact (fun k_ hk => ⟨Kd.fresh' (Kd.R_lt (by (with_reducible repeat (first | apply Kd.R_alloc | apply Kd.R_drewN | apply Kd.R_drew)); exact HO_3.out)) k_ hk, Kd.fresh' (Kd.R_lt (by (with_reducible repeat (first | apply Kd.R_alloc | apply Kd.R_drewN | apply Kd.R_drew)); exact HO_611001.out)) k_ hk, Kd.fresh' (Kd.R_lt (by (with_reducible repeat (first | apply Kd.R_alloc | apply Kd.R_drewN | apply Kd.R_drew)); exact HO_629001.out)) k_ hk, Kd.fresh' (Kd.R_lt (by (with_reducible repeat (first | apply Kd.R_alloc | apply Kd.R_drewN | apply Kd.R_drew)); exact HO_635001.out)) k_ hk⟩)); (case aO => exact (by (with_reducible repeat (first | apply Kd.R_alloc | apply Kd.R_drewN | apply Kd.R_drew)); exact HO645.out)); (case aS => exact (below_size (by repeat (first | (with_reducible first | exact HB.out | apply below_alloc | apply pw_below_drewN | apply below_drew1 | refine below_set ?_ GE610.out | refine below_set ?_ GE628.out | refine below_set ?_ GE634.out) | exact HB.out)))); (case aL => have := LMc89.out; omega); intro v647 w99 ho hb hg hat; rw [← Ny646.out] at ho; have n0_ := Aside0.mk (Kd.R_after (ok := (fun k_ => some k_ ≠ (.slice Ao19 t607.length co19 : Value).ownBlock ∧ some k_ ≠ (.slice Ao30 t624.length co30 : Value).ownBlock ∧ some k_ ≠ (.slice Ao39 t630.length co39 : Value).ownBlock)) (by (with_reducible repeat (first | apply Kd.R_alloc | apply Kd.R_drewN | apply Kd.R_drew)); exact HO_3.out) hg hat); have n1_ := Aside0.mk (Kd.R_after (ok := (fun k_ => some k_ ≠ (.slice Ao15 t602.length co15 : Value).ownBlock ∧ some k_ ≠ (.slice Ao30 t624.length co30 : Value).ownBlock ∧ some k_ ≠ (.slice Ao39 t630.length co39 : Value).ownBlock)) (by (with_reducible repeat (first | apply Kd.R_alloc | apply Kd.R_drewN | apply Kd.R_drew)); exact HO_611001.out) hg hat); have n2_ := Aside0.mk (Kd.R_after (ok := (fun k_ => some k_ ≠ (.slice Ao15 t602.length co15 : Value).ownBlock ∧ some k_ ≠ (.slice Ao19 t607.length co19 : Value).ownBlock ∧ some k_ ≠ (.slice Ao39 t630.length co39 : Value).ownBlock)) (by (with_reducible repeat (first | apply Kd.R_alloc | apply Kd.R_drewN | apply Kd.R_drew)); exact HO_629001.out) hg hat); have n3_ := Aside0.mk (Kd.R_after (ok := (fun k_ => some k_ ≠ (.slice Ao15 t602.length co15 : Value).ownBlock ∧ some k_ ≠ (.slice Ao19 t607.length co19 : Value).ownBlock ∧ some k_ ≠ (.slice Ao30 t624.length co30 : Value).ownBlock)) (by (with_reducible repeat (first | apply Kd.R_alloc | apply Kd.R_drewN | apply Kd.R_drew)); exact HO_635001.out) hg hat); have n4_ := Aside0.mk (blk_grown (g := gb610) (o := .cells #[.int .i64 t606, .slice Ao19 t607.length co19] 32 (0, 0)) (by (with_reducible repeat (first | refine blk_drewN ?_ _ | refine blk_drew ?_ | refine blk_alloc ?_ _)); exact BK610.out) hg (Kd.R_ne HO645.out BK610.out (by decide))); have n5_ := Aside0.mk (blk_grown (g := gb628) (o := .cells #[.int .i64 t623, .slice Ao30 t624.length co30] 32 (0, 0)) (by (with_reducible repeat (first | refine blk_drewN ?_ _ | refine blk_drew ?_ | refine blk_alloc ?_ _)); exact BK628.out) hg (Kd.R_ne HO645.out BK628.out (by decide))); have n6_ := Aside0.mk (blk_grown (g := gb634) (o := .cells #[.int .i64 t629, .slice Ao39 t630.length co39] 32 (0, 0)) (by (with_reducible repeat (first | refine blk_drewN ?_ _ | refine blk_drew ?_ | refine blk_alloc ?_ _)); exact BK634.out) hg (Kd.R_ne HO645.out BK634.out (by decide))); have n7_ := Aside0.mk (hb); have n8_ := Aside0.mk (ho); clear HO_3; clear HO_611001; clear HO_629001; clear HO_635001; clear BK610; clear BK628; clear BK634; clear HB; clear HO645; have HO_3 := n0_; have HO_611001 := n1_; have HO_629001 := n2_; have HO_635001 := n3_; have BK610 := n4_; have BK628 := n5_; have BK634 := n6_; have HB := n7_; have HO648 := n8_; clear n0_ n1_ n2_ n3_ n4_ n5_ n6_ n7_ n8_; clear ho hb hg hat; obtain ⟨Ao100, co100, eo100⟩ := Kd.R_slice HO648.out; subst eo100) | ((with_reducible refine gate_callee (f := 33) rfl ?_); refine goesL_ (some 82) rfl rfl Try.func33 (by kernel_rfl) rfl #[.slice Ao100 y646.length co100] rfl (by (try simp only [List.map_toArray, List.map_cons, List.map_nil]); first | done | rfl | (simp only [List.length_drop, List.length_take]; rfl)) ?_; (with_reducible refine (impl_RootOf.calls kj12 _ _ y646 t649 _ ?side1 ?side2 A90.out).mono ?_); (case side1 => repeat (first | exact (Kd.R_reads' HO648.out).2.2 | (with_reducible refine Kd.C_alloc ?_ _) | (with_reducible refine Kd.C_drewN ?_ _) | (with_reducible refine Kd.C_drew ?_))); (case side2 => exact (Kd.R_reads' HO648.out).2.1); rintro e w101 ⟨rfl, hb⟩; refine ⟨_, rfl, ?_⟩; have n0_ := Aside0.mk (Kd.R_below (by (with_reducible repeat (first | apply Kd.R_alloc | apply Kd.R_drewN | apply Kd.R_drew)); exact HO_3.out) hb); have n1_ := Aside0.mk (Kd.R_below (by (with_reducible repeat (first | apply Kd.R_alloc | apply Kd.R_drewN | apply Kd.R_drew)); exact HO_611001.out) hb); have n2_ := Aside0.mk (Kd.R_below (by (with_reducible repeat (first | apply Kd.R_alloc | apply Kd.R_drewN | apply Kd.R_drew)); exact HO_629001.out) hb); have n3_ := Aside0.mk (Kd.R_below (by (with_reducible repeat (first | apply Kd.R_alloc | apply Kd.R_drewN | apply Kd.R_drew)); exact HO_635001.out) hb); have n4_ := Aside0.mk (Kd.R_below (by (with_reducible repeat (first | apply Kd.R_alloc | apply Kd.R_drewN | apply Kd.R_drew)); exact HO648.out) hb); have n5_ := Aside0.mk (blk_below (g := gb610) (o := .cells #[.int .i64 t606, .slice Ao19 t607.length co19] 32 (0, 0)) (by (with_reducible repeat (first | refine blk_drewN ?_ _ | refine blk_drew ?_ | refine blk_alloc ?_ _)); exact BK610.out) hb); have n6_ := Aside0.mk (blk_below (g := gb628) (o := .cells #[.int .i64 t623, .slice Ao30 t624.length co30] 32 (0, 0)) (by (with_reducible repeat (first | refine blk_drewN ?_ _ | refine blk_drew ?_ | refine blk_alloc ?_ _)); exact BK628.out) hb); have n7_ := Aside0.mk (blk_below (g := gb634) (o := .cells #[.int .i64 t629, .slice Ao39 t630.length co39] 32 (0, 0)) (by (with_reducible repeat (first | refine blk_drewN ?_ _ | refine blk_drew ?_ | refine blk_alloc ?_ _)); exact BK634.out) hb); have n8_ := Aside0.mk (below_step (by repeat (first | (with_reducible first | exact HB.out | apply below_alloc | apply pw_below_drewN | apply below_drew1 | refine below_set ?_ GE610.out | refine below_set ?_ GE628.out | refine below_set ?_ GE634.out) | exact HB.out)) hb); clear HO_3; clear HO_611001; clear HO_629001; clear HO_635001; clear HO648; clear BK610; clear BK628; clear BK634; clear HB; have HO_3 := n0_; have HO_611001 := n1_; have HO_629001 := n2_; have HO_635001 := n3_; have HO648 := n4_; have BK610 := n5_; have BK628 := n6_; have BK634 := n7_; have HB := n8_; clear n0_ n1_ n2_ n3_ n4_ n5_ n6_ n7_ n8_; (try clear hb); (try clear hb2); (try clear hk); (try clear hi); have hnb102 := NB610_628.out; have hnc102 := NB628_610.out; have hcz103_0 : w101.cell? ⟨gb610, 0, none⟩ = some (.int .i64 t606) := (blk_cell BK610.out 0).trans rfl; have hcz103_1 : w101.cell? ⟨gb610, 1, none⟩ = some (.slice Ao19 t607.length co19) := (blk_cell BK610.out 1).trans rfl; have hfz103_0 := blk_frozen BK610.out 0; have hfz103_1 := blk_frozen BK610.out 1))
                    go_ret
                    exact ⟨by first | rfl | (simp [errW_none, errW_some] <;> rfl) | (simp [*, errW_none, errW_some] <;> rfl), by repeat (first | (with_reducible first | exact HB.out | apply below_alloc | apply pw_below_drewN | apply below_drew1 | refine below_set ?_ GE610.out | refine below_set ?_ GE628.out | refine below_set ?_ GE634.out) | exact HB.out)⟩
                  · rw [if_neg c91] at H
                    exact absurd H (by simp)
                · rw [if_neg c89] at H
                  exact absurd H (by simp)
              · rw [if_neg c88] at H
                exact absurd H (by simp)
      · rw [if_neg c7] at H
        exact absurd H (by simp)
    · rw [if_neg c6] at H
      exact absurd H (by simp)

end Go.Proofs.Ytnekmofpamnceaa.Q
end
