-- Joined and shortened by a program of this session (wip/tools/shakecopy.py): the words of the print, texts of pp.sh and of mine.
import Derived.Test.YtcogimnpffnanaaKFnExactGetCommit7
import Derived.Test.YtcogimnpffnanaaRows
import Derived.WalkKit
import Derived.ProofKit
import Derived.OpenShut
import Derived.ShutString
import Derived.ChangeOld
import Derived.Below
import Derived.SizedLaws
import Derived.Carry
section
namespace Go.Proofs.Ytcogimnpffnanaa.Q
open Go.RowKit Go.Proofs.YtcogimnpffnanaaW.PrintWords Go.Proofs.YtcogimnpffnanaaW.PrintLast Go.Proofs.YtcogimnpffnanaaW.PrintMore
attribute [local go_sem] max2_int min2_int max_two min_two max_three min_three max_four min_four   -- for this text's walks alone
set_option linter.unusedVariables false
set_option linter.unusedSimpArgs false
mutual
def laws_FnExactGetCommit.j0 : Nat → List Int → Int → List ByteArray → Int → Bool → List Int → List ByteArray → Int → Bool → Bool → Int → ByteArray → Int → ByteArray → Option (Bool)
 | 0, _, _, _, _, _, _, _, _, _, _, _, _, _, _ => none
 | k + 1, x0, x1, x6, x7, x8, x9, x11, x12, x13, x62, x612000, x612001, x623000, x623001 => if x62 = true then (none) else ((laws_toByteS.f k x0).bind fun t625 => ((laws_eqByteS.f k x9 t625).bind fun t628 => (if t628 = true then ((laws_markByteS.f k x9 1).bind fun bt629 => (if bt629.1 < 0 then (laws_FnExactGetCommit.j1 k x0 x1 x6 x7 x8 x11 true x612000 x612001) else ((laws_eqHead.f x623000 x623001 x612000 x612001).bind fun t631 => (if t631 = true then ((laws_eqStringS.f k x11 x6).bind fun t632 => (if t632 = true then (if x12 = x7 then (laws_FnExactGetCommit.j1 k x0 x1 x6 x7 x8 x11 (x13 != x8) x612000 x612001) else (laws_FnExactGetCommit.j1 k x0 x1 x6 x7 x8 x11 true x612000 x612001)) else (laws_FnExactGetCommit.j1 k x0 x1 x6 x7 x8 x11 true x612000 x612001))) else (laws_FnExactGetCommit.j1 k x0 x1 x6 x7 x8 x11 true x612000 x612001))))) else (none))))
def laws_FnExactGetCommit.j1 : Nat → List Int → Int → List ByteArray → Int → Bool → List ByteArray → Bool → Int → ByteArray → Option (Bool)
 | 0, _, _, _, _, _, _, _, _, _ => none
 | k + 1, x0, x1, x6, x7, x8, x11, x94, x612000, x612001 => if x94 = true then (none) else ((laws_markStringS.f k x11 1).bind fun bt633 => ((laws_heldStringS.f k bt633.2 1).bind fun t635 => (if t635 < 0 then (none) else (if t635 = bt633.1 then ((laws_toByteS.f k x0).bind fun t636 => ((impl_GetCommit.f k t636 x1).bind fun bt639 => ((laws_eqHead.f bt639.1 bt639.2.1 x612000 x612001).bind fun t647 => (if t647 = true then ((laws_eqStringS.f k bt639.2.2.1 x6).bind fun t648 => (if t648 = true then (if bt639.2.2.2.1 = x7 then (laws_FnExactGetCommit.j2 k bt633.2 bt633.1 (bt639.2.2.2.2 != x8)) else (laws_FnExactGetCommit.j2 k bt633.2 bt633.1 true)) else (laws_FnExactGetCommit.j2 k bt633.2 bt633.1 true))) else (laws_FnExactGetCommit.j2 k bt633.2 bt633.1 true))))) else (none)))))
def laws_FnExactGetCommit.j2 : Nat → List ByteArray → Int → Bool → Option (Bool)
 | 0, _, _, _ => none
 | k + 1, x11, x15, x134 => if x134 = true then (none) else ((laws_heldStringS.f k x11 1).bind fun t649 => (if t649 < 0 then (none) else (if t649 = x15 then (some true) else (none))))
end
def laws_FnExactGetCommit.f (k : Nat) (l0 : List Int) (a1 : Int) : Option (Bool) := if (l0.length : Int) > 1048576 then (some true) else ((laws_toByteS.f k l0).bind fun t601 => ((spec_GetCommit.f k t601 a1).bind fun bt604 => ((laws_toByteS.f k l0).bind fun t612 => ((impl_GetCommit.f k t612 a1).bind fun bt615 => ((laws_eqHead.f bt615.1 bt615.2.1 bt604.1 bt604.2.1).bind fun t623 => (if t623 = true then ((laws_eqStringS.f k bt615.2.2.1 bt604.2.2.1).bind fun t624 => (if t624 = true then (if bt615.2.2.2.1 = bt604.2.2.2.1 then (laws_FnExactGetCommit.j0 k l0 a1 bt604.2.2.1 bt604.2.2.2.1 bt604.2.2.2.2 t612 bt615.2.2.1 bt615.2.2.2.1 bt615.2.2.2.2 (bt615.2.2.2.2 != bt604.2.2.2.2) bt604.1 bt604.2.1 bt615.1 bt615.2.1) else (laws_FnExactGetCommit.j0 k l0 a1 bt604.2.2.1 bt604.2.2.2.1 bt604.2.2.2.2 t612 bt615.2.2.1 bt615.2.2.2.1 bt615.2.2.2.2 true bt604.1 bt604.2.1 bt615.1 bt615.2.1)) else (laws_FnExactGetCommit.j0 k l0 a1 bt604.2.2.1 bt604.2.2.2.1 bt604.2.2.2.2 t612 bt615.2.2.1 bt615.2.2.2.1 bt615.2.2.2.2 true bt604.1 bt604.2.1 bt615.1 bt615.2.1))) else (laws_FnExactGetCommit.j0 k l0 a1 bt604.2.2.1 bt604.2.2.2.1 bt604.2.2.2.2 t612 bt615.2.2.1 bt615.2.2.2.1 bt615.2.2.2.2 true bt604.1 bt604.2.1 bt615.1 bt615.2.1)))))))
theorem laws_FnExactGetCommit.mono_l : ∀ k, (∀ y0 y1 y2 y3 y4 y5 y6 y7 y8 y9 y10 y11 y12 y13, LeO (laws_FnExactGetCommit.j0 k y0 y1 y2 y3 y4 y5 y6 y7 y8 y9 y10 y11 y12 y13) (laws_FnExactGetCommit.j0 (k + 1) y0 y1 y2 y3 y4 y5 y6 y7 y8 y9 y10 y11 y12 y13)) ∧ (∀ y0 y1 y2 y3 y4 y5 y6 y7 y8, LeO (laws_FnExactGetCommit.j1 k y0 y1 y2 y3 y4 y5 y6 y7 y8) (laws_FnExactGetCommit.j1 (k + 1) y0 y1 y2 y3 y4 y5 y6 y7 y8)) ∧ (∀ y0 y1 y2, LeO (laws_FnExactGetCommit.j2 k y0 y1 y2) (laws_FnExactGetCommit.j2 (k + 1) y0 y1 y2))
 | 0 => ⟨fun _ _ _ _ _ _ _ _ _ _ _ _ _ _ r h => by simp [laws_FnExactGetCommit.j0] at h, fun _ _ _ _ _ _ _ _ _ r h => by simp [laws_FnExactGetCommit.j1] at h, fun _ _ _ r h => by simp [laws_FnExactGetCommit.j2] at h⟩
 | k + 1 => by
  obtain ⟨ih0, ih1, ih2⟩ := laws_FnExactGetCommit.mono_l k
  refine ⟨?_, ?_, ?_⟩
  ·intro y0 y1 y2 y3 y4 y5 y6 y7 y8 y9 y10 y11 y12 y13
   unfold laws_FnExactGetCommit.j0
   repeat' first
   | (with_reducible exact ih0 _ _ _ _ _ _ _ _ _ _ _ _ _ _)
   | (with_reducible exact ih1 _ _ _ _ _ _ _ _ _)
   | (with_reducible exact ih2 _ _ _)
   | (with_reducible exact impl_GetCommit.mono _ _ _)
   | (with_reducible exact laws_eqByteS.mono _ _ _)
   | (with_reducible exact laws_eqStringS.mono _ _ _)
   | (with_reducible exact laws_heldStringS.mono _ _ _)
   | (with_reducible exact laws_markByteS.mono _ _ _)
   | (with_reducible exact laws_markStringS.mono _ _ _)
   | (with_reducible exact laws_toByteS.mono _ _)
   | (with_reducible exact spec_GetCommit.mono _ _ _)
   | (with_reducible exact LeO.refl _)
   | (with_reducible exact LeO.none _)
   | (with_reducible refine LeO.ite ?_ ?_)
   | (with_reducible refine LeO.bind ?_ (fun _ => ?_))
   | exact ih0 _ _ _ _ _ _ _ _ _ _ _ _ _ _
   | exact ih1 _ _ _ _ _ _ _ _ _
   | exact ih2 _ _ _
   | exact impl_GetCommit.mono _ _ _
   | exact laws_eqByteS.mono _ _ _
   | exact laws_eqStringS.mono _ _ _
   | exact laws_heldStringS.mono _ _ _
   | exact laws_markByteS.mono _ _ _
   | exact laws_markStringS.mono _ _ _
   | exact laws_toByteS.mono _ _
   | exact spec_GetCommit.mono _ _ _
   | exact LeO.none _
   | refine LeO.ite ?_ ?_
   | refine LeO.bind ?_ (fun _ => ?_)
  ·intro y0 y1 y2 y3 y4 y5 y6 y7 y8
   unfold laws_FnExactGetCommit.j1
   repeat' first
   | (with_reducible exact ih0 _ _ _ _ _ _ _ _ _ _ _ _ _ _)
   | (with_reducible exact ih1 _ _ _ _ _ _ _ _ _)
   | (with_reducible exact ih2 _ _ _)
   | (with_reducible exact impl_GetCommit.mono _ _ _)
   | (with_reducible exact laws_eqByteS.mono _ _ _)
   | (with_reducible exact laws_eqStringS.mono _ _ _)
   | (with_reducible exact laws_heldStringS.mono _ _ _)
   | (with_reducible exact laws_markByteS.mono _ _ _)
   | (with_reducible exact laws_markStringS.mono _ _ _)
   | (with_reducible exact laws_toByteS.mono _ _)
   | (with_reducible exact spec_GetCommit.mono _ _ _)
   | (with_reducible exact LeO.refl _)
   | (with_reducible exact LeO.none _)
   | (with_reducible refine LeO.ite ?_ ?_)
   | (with_reducible refine LeO.bind ?_ (fun _ => ?_))
   | exact ih0 _ _ _ _ _ _ _ _ _ _ _ _ _ _
   | exact ih1 _ _ _ _ _ _ _ _ _
   | exact ih2 _ _ _
   | exact impl_GetCommit.mono _ _ _
   | exact laws_eqByteS.mono _ _ _
   | exact laws_eqStringS.mono _ _ _
   | exact laws_heldStringS.mono _ _ _
   | exact laws_markByteS.mono _ _ _
   | exact laws_markStringS.mono _ _ _
   | exact laws_toByteS.mono _ _
   | exact spec_GetCommit.mono _ _ _
   | exact LeO.none _
   | refine LeO.ite ?_ ?_
   | refine LeO.bind ?_ (fun _ => ?_)
  ·intro y0 y1 y2
   unfold laws_FnExactGetCommit.j2
   repeat' first
   | (with_reducible exact ih0 _ _ _ _ _ _ _ _ _ _ _ _ _ _)
   | (with_reducible exact ih1 _ _ _ _ _ _ _ _ _)
   | (with_reducible exact ih2 _ _ _)
   | (with_reducible exact impl_GetCommit.mono _ _ _)
   | (with_reducible exact laws_eqByteS.mono _ _ _)
   | (with_reducible exact laws_eqStringS.mono _ _ _)
   | (with_reducible exact laws_heldStringS.mono _ _ _)
   | (with_reducible exact laws_markByteS.mono _ _ _)
   | (with_reducible exact laws_markStringS.mono _ _ _)
   | (with_reducible exact laws_toByteS.mono _ _)
   | (with_reducible exact spec_GetCommit.mono _ _ _)
   | (with_reducible exact LeO.refl _)
   | (with_reducible exact LeO.none _)
   | (with_reducible refine LeO.ite ?_ ?_)
   | (with_reducible refine LeO.bind ?_ (fun _ => ?_))
   | exact ih0 _ _ _ _ _ _ _ _ _ _ _ _ _ _
   | exact ih1 _ _ _ _ _ _ _ _ _
   | exact ih2 _ _ _
   | exact impl_GetCommit.mono _ _ _
   | exact laws_eqByteS.mono _ _ _
   | exact laws_eqStringS.mono _ _ _
   | exact laws_heldStringS.mono _ _ _
   | exact laws_markByteS.mono _ _ _
   | exact laws_markStringS.mono _ _ _
   | exact laws_toByteS.mono _ _
   | exact spec_GetCommit.mono _ _ _
   | exact LeO.none _
   | refine LeO.ite ?_ ?_
   | refine LeO.bind ?_ (fun _ => ?_)
theorem laws_FnExactGetCommit.mono : ∀ a0 a1 k, LeO (laws_FnExactGetCommit.f k a0 a1) (laws_FnExactGetCommit.f (k + 1) a0 a1) := by
 intro a0 a1 k
 obtain ⟨ih0, ih1, ih2⟩ := laws_FnExactGetCommit.mono_l k
 unfold laws_FnExactGetCommit.f
 repeat' first
   | (with_reducible exact ih0 _ _ _ _ _ _ _ _ _ _ _ _ _ _)
   | (with_reducible exact ih1 _ _ _ _ _ _ _ _ _)
   | (with_reducible exact ih2 _ _ _)
   | (with_reducible exact impl_GetCommit.mono _ _ _)
   | (with_reducible exact laws_eqByteS.mono _ _ _)
   | (with_reducible exact laws_eqStringS.mono _ _ _)
   | (with_reducible exact laws_heldStringS.mono _ _ _)
   | (with_reducible exact laws_markByteS.mono _ _ _)
   | (with_reducible exact laws_markStringS.mono _ _ _)
   | (with_reducible exact laws_toByteS.mono _ _)
   | (with_reducible exact spec_GetCommit.mono _ _ _)
   | (with_reducible exact LeO.refl _)
   | (with_reducible exact LeO.none _)
   | (with_reducible refine LeO.ite ?_ ?_)
   | (with_reducible refine LeO.bind ?_ (fun _ => ?_))
   | exact ih0 _ _ _ _ _ _ _ _ _ _ _ _ _ _
   | exact ih1 _ _ _ _ _ _ _ _ _
   | exact ih2 _ _ _
   | exact impl_GetCommit.mono _ _ _
   | exact laws_eqByteS.mono _ _ _
   | exact laws_eqStringS.mono _ _ _
   | exact laws_heldStringS.mono _ _ _
   | exact laws_markByteS.mono _ _ _
   | exact laws_markStringS.mono _ _ _
   | exact laws_toByteS.mono _ _
   | exact spec_GetCommit.mono _ _ _
   | exact LeO.none _
   | refine LeO.ite ?_ ?_
   | refine LeO.bind ?_ (fun _ => ?_)
set_option maxHeartbeats 8000000 in
set_option maxRecDepth 100000 in
theorem laws_FnExactGetCommit.calls (k : Nat) (A0 : Option Addr) (c0 : Nat) (l0 : List Int) (a1 : Int) (r : Bool) (w : World) (hr0 : Kd.C (Kd.int .u8) w A0 l0.length l0) (hc0 : l0.length ≤ c0) (h : laws_FnExactGetCommit.f k l0 a1 = some r) :
  Calls Try.prog 9 #[.slice A0 l0.length c0, .int .i64 a1] w fun e w' => e = .returned (.bool r) ∧ Below w.heap.size w w' := by
 have hu31 := Try.underlying31
 have HR0 := Aside0.mk hr0
 have HC0 := Aside0.mk hc0
 clear hr0 hc0
 have HB := Aside0.mk (Below.refl w.heap.size w)
 have H : (if (l0.length : Int) > 1048576 then (some true) else ((laws_toByteS.f k l0).bind fun t601 => ((spec_GetCommit.f k t601 a1).bind fun bt604 => ((laws_toByteS.f k l0).bind fun t612 => ((impl_GetCommit.f k t612 a1).bind fun bt615 => ((laws_eqHead.f bt615.1 bt615.2.1 bt604.1 bt604.2.1).bind fun t623 => (if t623 = true then ((laws_eqStringS.f k bt615.2.2.1 bt604.2.2.1).bind fun t624 => (if t624 = true then (if bt615.2.2.2.1 = bt604.2.2.2.1 then (laws_FnExactGetCommit.j0 k l0 a1 bt604.2.2.1 bt604.2.2.2.1 bt604.2.2.2.2 t612 bt615.2.2.1 bt615.2.2.2.1 bt615.2.2.2.2 (bt615.2.2.2.2 != bt604.2.2.2.2) bt604.1 bt604.2.1 bt615.1 bt615.2.1) else (laws_FnExactGetCommit.j0 k l0 a1 bt604.2.2.1 bt604.2.2.2.1 bt604.2.2.2.2 t612 bt615.2.2.1 bt615.2.2.2.1 bt615.2.2.2.2 true bt604.1 bt604.2.1 bt615.1 bt615.2.1)) else (laws_FnExactGetCommit.j0 k l0 a1 bt604.2.2.1 bt604.2.2.2.1 bt604.2.2.2.2 t612 bt615.2.2.1 bt615.2.2.2.1 bt615.2.2.2.2 true bt604.1 bt604.2.1 bt615.1 bt615.2.1))) else (laws_FnExactGetCommit.j0 k l0 a1 bt604.2.2.1 bt604.2.2.2.1 bt604.2.2.2.2 t612 bt615.2.2.1 bt615.2.2.2.1 bt615.2.2.2.2 true bt604.1 bt604.2.1 bt615.1 bt615.2.1)))))))) = some r := h
 clear h
 by_cases c3 : (l0.length : Int) > 1048576
 ·rw [if_pos c3] at H
  have c3b0 : decide (1048576 < (l0.length : Int)) = true := decide_eq_true c3
  have c3b1 : decide (1048576 < l0.length) = true := decide_eq_true (by omega)
  clear c3
  obtain rfl := Option.some.inj H
  go_enter Try.func9, Try.ntmps9
  go_wp2
  go_ret
  exact ⟨by first | rfl | (simp [errW_none, errW_some] <;> rfl) | (simp [*, errW_none, errW_some] <;> rfl), by repeat (first | (with_reducible first | exact HB.out | apply below_alloc | apply pw_below_drewN | apply below_drew1) | exact HB.out)⟩
 ·rw [if_neg c3] at H
  have c3b0 : decide (1048576 < (l0.length : Int)) = false := decide_eq_false c3
  have c3b1 : decide (1048576 < l0.length) = false := decide_eq_false (by omega)
  clear c3
  replace H := Option.bind_eq_some_iff.mp H
  obtain ⟨t601, A40, H⟩ := H
  replace H : ((spec_GetCommit.f k t601 a1).bind fun bt604 => ((laws_toByteS.f k l0).bind fun t612 => ((impl_GetCommit.f k t612 a1).bind fun bt615 => ((laws_eqHead.f bt615.1 bt615.2.1 bt604.1 bt604.2.1).bind fun t623 => (if t623 = true then ((laws_eqStringS.f k bt615.2.2.1 bt604.2.2.1).bind fun t624 => (if t624 = true then (if bt615.2.2.2.1 = bt604.2.2.2.1 then (laws_FnExactGetCommit.j0 k l0 a1 bt604.2.2.1 bt604.2.2.2.1 bt604.2.2.2.2 t612 bt615.2.2.1 bt615.2.2.2.1 bt615.2.2.2.2 (bt615.2.2.2.2 != bt604.2.2.2.2) bt604.1 bt604.2.1 bt615.1 bt615.2.1) else (laws_FnExactGetCommit.j0 k l0 a1 bt604.2.2.1 bt604.2.2.2.1 bt604.2.2.2.2 t612 bt615.2.2.1 bt615.2.2.2.1 bt615.2.2.2.2 true bt604.1 bt604.2.1 bt615.1 bt615.2.1)) else (laws_FnExactGetCommit.j0 k l0 a1 bt604.2.2.1 bt604.2.2.2.1 bt604.2.2.2.2 t612 bt615.2.2.1 bt615.2.2.2.1 bt615.2.2.2.2 true bt604.1 bt604.2.1 bt615.1 bt615.2.1))) else (laws_FnExactGetCommit.j0 k l0 a1 bt604.2.2.1 bt604.2.2.2.1 bt604.2.2.2.2 t612 bt615.2.2.1 bt615.2.2.2.1 bt615.2.2.2.2 true bt604.1 bt604.2.1 bt615.1 bt615.2.1)))))) = some r := H
  have A4 := Aside0.mk A40
  clear A40
  replace H := Option.bind_eq_some_iff.mp H
  obtain ⟨⟨t604, t605, t606, t609, t610⟩, A50, H⟩ := H
  replace H : ((laws_toByteS.f k l0).bind fun t612 => ((impl_GetCommit.f k t612 a1).bind fun bt615 => ((laws_eqHead.f bt615.1 bt615.2.1 t604 t605).bind fun t623 => (if t623 = true then ((laws_eqStringS.f k bt615.2.2.1 t606).bind fun t624 => (if t624 = true then (if bt615.2.2.2.1 = t609 then (laws_FnExactGetCommit.j0 k l0 a1 t606 t609 t610 t612 bt615.2.2.1 bt615.2.2.2.1 bt615.2.2.2.2 (bt615.2.2.2.2 != t610) t604 t605 bt615.1 bt615.2.1) else (laws_FnExactGetCommit.j0 k l0 a1 t606 t609 t610 t612 bt615.2.2.1 bt615.2.2.2.1 bt615.2.2.2.2 true t604 t605 bt615.1 bt615.2.1)) else (laws_FnExactGetCommit.j0 k l0 a1 t606 t609 t610 t612 bt615.2.2.1 bt615.2.2.2.1 bt615.2.2.2.2 true t604 t605 bt615.1 bt615.2.1))) else (laws_FnExactGetCommit.j0 k l0 a1 t606 t609 t610 t612 bt615.2.2.1 bt615.2.2.2.1 bt615.2.2.2.2 true t604 t605 bt615.1 bt615.2.1))))) = some r := H
  have A5 := Aside0.mk A50
  clear A50
  replace H := Option.bind_eq_some_iff.mp H
  obtain ⟨t612, A60, H⟩ := H
  replace H : ((impl_GetCommit.f k t612 a1).bind fun bt615 => ((laws_eqHead.f bt615.1 bt615.2.1 t604 t605).bind fun t623 => (if t623 = true then ((laws_eqStringS.f k bt615.2.2.1 t606).bind fun t624 => (if t624 = true then (if bt615.2.2.2.1 = t609 then (laws_FnExactGetCommit.j0 k l0 a1 t606 t609 t610 t612 bt615.2.2.1 bt615.2.2.2.1 bt615.2.2.2.2 (bt615.2.2.2.2 != t610) t604 t605 bt615.1 bt615.2.1) else (laws_FnExactGetCommit.j0 k l0 a1 t606 t609 t610 t612 bt615.2.2.1 bt615.2.2.2.1 bt615.2.2.2.2 true t604 t605 bt615.1 bt615.2.1)) else (laws_FnExactGetCommit.j0 k l0 a1 t606 t609 t610 t612 bt615.2.2.1 bt615.2.2.2.1 bt615.2.2.2.2 true t604 t605 bt615.1 bt615.2.1))) else (laws_FnExactGetCommit.j0 k l0 a1 t606 t609 t610 t612 bt615.2.2.1 bt615.2.2.2.1 bt615.2.2.2.2 true t604 t605 bt615.1 bt615.2.1)))) = some r := H
  have A6 := Aside0.mk A60
  clear A60
  replace H := Option.bind_eq_some_iff.mp H
  obtain ⟨⟨t615, t616, t617, t620, t621⟩, A70, H⟩ := H
  replace H : ((laws_eqHead.f t615 t616 t604 t605).bind fun t623 => (if t623 = true then ((laws_eqStringS.f k t617 t606).bind fun t624 => (if t624 = true then (if t620 = t609 then (laws_FnExactGetCommit.j0 k l0 a1 t606 t609 t610 t612 t617 t620 t621 (t621 != t610) t604 t605 t615 t616) else (laws_FnExactGetCommit.j0 k l0 a1 t606 t609 t610 t612 t617 t620 t621 true t604 t605 t615 t616)) else (laws_FnExactGetCommit.j0 k l0 a1 t606 t609 t610 t612 t617 t620 t621 true t604 t605 t615 t616))) else (laws_FnExactGetCommit.j0 k l0 a1 t606 t609 t610 t612 t617 t620 t621 true t604 t605 t615 t616))) = some r := H
  have A7 := Aside0.mk A70
  clear A70
  have HC8 := Aside0.mk H
  clear H
  go_enter Try.func9, Try.ntmps9
  go_upto_region 6 with (first | ((with_reducible refine gate_callee (f := 27) rfl ?_); refine goesL_ (some 26) rfl rfl Try.func27 (by kernel_rfl) rfl #[.slice A0 l0.length c0] rfl (by (try simp only [List.map_toArray, List.map_cons, List.map_nil]); first | done | rfl | (simp only [List.length_drop, List.length_take]; rfl)) ?_; (with_reducible refine (laws_toByteS.calls k _ _ l0 t601 _ ?side1 ?side2 A4.out).mono ?_); (case side1 => repeat (first | exact HR0.out | (with_reducible refine Kd.C_alloc ?_ _) | (with_reducible refine Kd.C_drewN ?_ _) | (with_reducible refine Kd.C_drew ?_))); (case side2 => exact HC0.out); rintro e w9 ⟨v602, rfl, ho0, hb⟩; refine ⟨_, rfl, ?_⟩; have n0_ := Aside0.mk (Kd.R_lower ho0 (below_size (by repeat (first | (with_reducible first | exact HB.out | apply below_alloc | apply pw_below_drewN | apply below_drew1) | exact HB.out)))); have n1_ := Aside0.mk (below_step (by repeat (first | (with_reducible first | exact HB.out | apply below_alloc | apply pw_below_drewN | apply below_drew1) | exact HB.out)) hb); clear HB; have HO603 := n0_; have HB := n1_; clear n0_ n1_; (try clear hb); (try clear hb2); (try clear hk); (try clear hi); (try clear ho0); obtain ⟨Ao10, co10, eo10⟩ := Kd.R_slice HO603.out; subst eo10) | ((with_reducible refine gate_callee (f := 52) rfl ?_); refine goesL_ (some 28) rfl rfl Try.func52 (by kernel_rfl) rfl #[.slice Ao10 t601.length co10, .int .i64 a1] rfl (by (try simp only [List.map_toArray, List.map_cons, List.map_nil]); first | done | rfl | (simp only [List.length_drop, List.length_take]; rfl)) ?_; (with_reducible refine (spec_GetCommit.calls k _ _ t601 a1 t604 t605 t606 t609 t610 _ ?side1 ?side2 A5.out).mono ?_); (case side1 => repeat (first | exact (Kd.R_reads' HO603.out).2.2 | (with_reducible refine Kd.C_alloc ?_ _) | (with_reducible refine Kd.C_drewN ?_ _) | (with_reducible refine Kd.C_drew ?_))); (case side2 => exact (Kd.R_reads' HO603.out).2.1); rintro e w11 ⟨v607, rfl, ho0, hb⟩; refine ⟨_, rfl, ?_⟩; have n0_ := Aside0.mk (Kd.R_below (by (with_reducible repeat (first | apply Kd.R_alloc | apply Kd.R_drewN | apply Kd.R_drew)); exact HO603.out) hb); have n1_ := Aside0.mk (Kd.R_lower ho0 (below_size (by repeat (first | (with_reducible first | exact HB.out | apply below_alloc | apply pw_below_drewN | apply below_drew1) | exact HB.out)))); have n2_ := Aside0.mk (below_step (by repeat (first | (with_reducible first | exact HB.out | apply below_alloc | apply pw_below_drewN | apply below_drew1) | exact HB.out)) hb); clear HO603; clear HB; have HO603 := n0_; have HO608 := n1_; have HB := n2_; clear n0_ n1_ n2_; (try clear hb); (try clear hb2); (try clear hk); (try clear hi); (try clear ho0)) | ((with_reducible refine gate_dst (N := 5) rfl ?_); refine box_event ?hg (N := 5) ?hd (cs := #[.int .i64 0, .string (⟨#[]⟩ : ByteArray)]) (t := 31) ?hr ?_; (case hd => rfl); (case hg => rfl); (case hr => first | (go_simp; done) | (go_simp; rfl)); intro gb611 hg w12 hbox hb; have n0_ := Aside0.mk (Kd.R_below (by (with_reducible repeat (first | apply Kd.R_alloc | apply Kd.R_drewN | apply Kd.R_drew)); exact HO603.out) hb); have n1_ := Aside0.mk (Kd.R_below (by (with_reducible repeat (first | apply Kd.R_alloc | apply Kd.R_drewN | apply Kd.R_drew)); exact HO608.out) hb); have n2_ := Aside0.mk (below_step (by repeat (first | (with_reducible first | exact HB.out | apply below_alloc | apply pw_below_drewN | apply below_drew1) | exact HB.out)) hb); have n3_ := Aside0.mk (hbox); have n4_ := Aside0.mk ((by rw [hg]; exact (below_size (by repeat (first | (with_reducible first | exact HB.out | apply below_alloc | apply pw_below_drewN | apply below_drew1) | exact HB.out))) : w.heap.size ≤ gb611)); have n5_ := Aside0.mk ((by rw [hg]; exact (below_size (by repeat (first | (with_reducible first | exact HB.out | apply below_alloc | apply pw_below_drewN | apply below_drew1) | exact HB.out))) : w.heap.size ≤ gb611)); clear HO603; clear HO608; clear HB; have HO603 := n0_; have HO608 := n1_; have HB := n2_; have BK611 := n3_; have GW611 := n4_; have GE611 := n5_; clear n0_ n1_ n2_ n3_ n4_ n5_; clear hb hbox hg; have hcz13_0 : w12.cell? ⟨gb611, 0, none⟩ = some (.int .i64 0) := (blk_cell BK611.out 0).trans rfl; have hcz13_1 : w12.cell? ⟨gb611, 1, none⟩ = some (.string (⟨#[]⟩ : ByteArray)) := (blk_cell BK611.out 1).trans rfl; have hfz13_0 := blk_frozen BK611.out 0; have hfz13_1 := blk_frozen BK611.out 1) | ((with_reducible refine gate_callee (f := 27) rfl ?_); refine goesL_ (some 34) rfl rfl Try.func27 (by kernel_rfl) rfl #[.slice A0 l0.length c0] rfl (by (try simp only [List.map_toArray, List.map_cons, List.map_nil]); first | done | rfl | (simp only [List.length_drop, List.length_take]; rfl)) ?_; (with_reducible refine (laws_toByteS.calls k _ _ l0 t612 _ ?side1 ?side2 A6.out).mono ?_); (case side1 => exact Kd.C_below HR0.out (by repeat (first | (with_reducible first | exact HB.out | apply below_alloc | apply pw_below_drewN | apply below_drew1 | refine below_set ?_ GE611.out) | exact HB.out))); (case side2 => exact HC0.out); rintro e w14 ⟨v613, rfl, ho0, hb⟩; refine ⟨_, rfl, ?_⟩; have n0_ := Aside0.mk (Kd.R_elder' (by (with_reducible repeat (first | apply Kd.R_alloc | apply Kd.R_drewN | apply Kd.R_drew)); exact (Kd.R_mono (Kd.R_far (p := ⟨gb611, 1, none⟩) (Kd.R_far (p := ⟨gb611, 0, none⟩) (Kd.R_types HO603.out BK611.out (by decide)) (fun _ hk => hk.2) (.int .i64 t604)) (fun _ hk => hk.2) (.string t605)) (fun _ h_ => h_.1))) (Kd.R_base ho0) hb); have n1_ := Aside0.mk (Kd.R_below (by (with_reducible repeat (first | apply Kd.R_alloc | apply Kd.R_drewN | apply Kd.R_drew)); exact (Kd.R_mono (Kd.R_far (p := ⟨gb611, 1, none⟩) (Kd.R_far (p := ⟨gb611, 0, none⟩) (Kd.R_types HO608.out BK611.out (by decide)) (fun _ hk => hk.2) (.int .i64 t604)) (fun _ hk => hk.2) (.string t605)) (fun _ h_ => h_.1))) hb); have n2_ := Aside0.mk (Kd.R_lower (Kd.R_new' ho0 (Kd.R_lt (by (with_reducible repeat (first | apply Kd.R_alloc | apply Kd.R_drewN | apply Kd.R_drew)); exact (Kd.R_mono (Kd.R_far (p := ⟨gb611, 1, none⟩) (Kd.R_far (p := ⟨gb611, 0, none⟩) (Kd.R_types HO603.out BK611.out (by decide)) (fun _ hk => hk.2) (.int .i64 t604)) (fun _ hk => hk.2) (.string t605)) (fun _ h_ => h_.1))))) (below_size (by repeat (first | (with_reducible first | exact HB.out | apply below_alloc | apply pw_below_drewN | apply below_drew1 | refine below_set ?_ GE611.out) | exact HB.out)))); have n3_ := Aside0.mk (blk_below (g := gb611) (o := .cells #[.int .i64 t604, .string t605] 31 (0, 0)) (by (with_reducible repeat (first | refine blk_drewN ?_ _ | refine blk_drew ?_ | refine blk_alloc ?_ _)); refine blk_put (cs := #[.int .i64 t604, .string (⟨#[]⟩ : ByteArray)]) ?_ 1 _ rfl; (with_reducible repeat (first | refine blk_drewN ?_ _ | refine blk_drew ?_ | refine blk_alloc ?_ _)); refine blk_put (cs := #[.int .i64 0, .string (⟨#[]⟩ : ByteArray)]) ?_ 0 _ rfl; (with_reducible repeat (first | refine blk_drewN ?_ _ | refine blk_drew ?_ | refine blk_alloc ?_ _)); exact BK611.out) hb); have n4_ := Aside0.mk (below_step (by repeat (first | (with_reducible first | exact HB.out | apply below_alloc | apply pw_below_drewN | apply below_drew1 | refine below_set ?_ GE611.out) | exact HB.out)) hb); clear HO603; clear HO608; clear BK611; clear HB; have HO603 := n0_; have HO608 := n1_; have HO614 := n2_; have BK611 := n3_; have HB := n4_; clear n0_ n1_ n2_ n3_ n4_; (try clear hb); (try clear hb2); (try clear hk); (try clear hi); (try clear ho0); obtain ⟨Ao15, co15, eo15⟩ := Kd.R_slice HO614.out; subst eo15) | ((with_reducible refine gate_callee (f := 39) rfl ?_); refine goesL_ (some 38) rfl rfl Try.func39 (by kernel_rfl) rfl #[.slice Ao15 t612.length co15, .int .i64 a1] rfl (by (try simp only [List.map_toArray, List.map_cons, List.map_nil]); first | done | rfl | (simp only [List.length_drop, List.length_take]; rfl)) ?_; (with_reducible refine (impl_GetCommit.calls k _ _ t612 a1 t615 t616 t617 t620 t621 _ ?side1 ?side2 A7.out).mono ?_); (case side1 => repeat (first | exact (Kd.R_reads' HO614.out).2.2 | (with_reducible refine Kd.C_alloc ?_ _) | (with_reducible refine Kd.C_drewN ?_ _) | (with_reducible refine Kd.C_drew ?_))); (case side2 => exact (Kd.R_reads' HO614.out).2.1); rintro e w16 ⟨v618, rfl, ho0, hb⟩; refine ⟨_, rfl, ?_⟩; have n0_ := Aside0.mk (Kd.R_below (by (with_reducible repeat (first | apply Kd.R_alloc | apply Kd.R_drewN | apply Kd.R_drew)); exact HO603.out) hb); have n1_ := Aside0.mk (Kd.R_elder' (by (with_reducible repeat (first | apply Kd.R_alloc | apply Kd.R_drewN | apply Kd.R_drew)); exact HO608.out) (Kd.R_base ho0) hb); have n2_ := Aside0.mk (Kd.R_below (by (with_reducible repeat (first | apply Kd.R_alloc | apply Kd.R_drewN | apply Kd.R_drew)); exact HO614.out) hb); have n3_ := Aside0.mk (Kd.R_lower (Kd.R_new' ho0 (Kd.R_lt (by (with_reducible repeat (first | apply Kd.R_alloc | apply Kd.R_drewN | apply Kd.R_drew)); exact HO608.out))) (below_size (by repeat (first | (with_reducible first | exact HB.out | apply below_alloc | apply pw_below_drewN | apply below_drew1 | refine below_set ?_ GE611.out) | exact HB.out)))); have n4_ := Aside0.mk (blk_below (g := gb611) (o := .cells #[.int .i64 t604, .string t605] 31 (0, 0)) (by (with_reducible repeat (first | refine blk_drewN ?_ _ | refine blk_drew ?_ | refine blk_alloc ?_ _)); exact BK611.out) hb); have n5_ := Aside0.mk (below_step (by repeat (first | (with_reducible first | exact HB.out | apply below_alloc | apply pw_below_drewN | apply below_drew1 | refine below_set ?_ GE611.out) | exact HB.out)) hb); clear HO603; clear HO608; clear HO614; clear BK611; clear HB; have HO603 := n0_; have HO608 := n1_; have HO614 := n2_; have HO619 := n3_; have BK611 := n4_; have HB := n5_; clear n0_ n1_ n2_ n3_ n4_ n5_; (try clear hb); (try clear hb2); (try clear hk); (try clear hi); (try clear ho0)) | ((with_reducible refine gate_dst (N := 10) rfl ?_); refine box_event ?hg (N := 10) ?hd (cs := #[.int .i64 0, .string (⟨#[]⟩ : ByteArray)]) (t := 31) ?hr ?_; (case hd => rfl); (case hg => rfl); (case hr => first | (go_simp; done) | (go_simp; rfl)); intro gb622 hg w17 hbox hb; have n0_ := Aside0.mk (Kd.R_below (by (with_reducible repeat (first | apply Kd.R_alloc | apply Kd.R_drewN | apply Kd.R_drew)); exact HO603.out) hb); have n1_ := Aside0.mk (Kd.R_below (by (with_reducible repeat (first | apply Kd.R_alloc | apply Kd.R_drewN | apply Kd.R_drew)); exact HO608.out) hb); have n2_ := Aside0.mk (Kd.R_below (by (with_reducible repeat (first | apply Kd.R_alloc | apply Kd.R_drewN | apply Kd.R_drew)); exact HO614.out) hb); have n3_ := Aside0.mk (Kd.R_below (by (with_reducible repeat (first | apply Kd.R_alloc | apply Kd.R_drewN | apply Kd.R_drew)); exact HO619.out) hb); have n4_ := Aside0.mk (blk_below (g := gb611) (o := .cells #[.int .i64 t604, .string t605] 31 (0, 0)) (by (with_reducible repeat (first | refine blk_drewN ?_ _ | refine blk_drew ?_ | refine blk_alloc ?_ _)); exact BK611.out) hb); have n5_ := Aside0.mk (below_step (by repeat (first | (with_reducible first | exact HB.out | apply below_alloc | apply pw_below_drewN | apply below_drew1 | refine below_set ?_ GE611.out) | exact HB.out)) hb); have n6_ := Aside0.mk (hbox); have n7_ := Aside0.mk ((by rw [hg]; exact (below_size (by repeat (first | (with_reducible first | exact HB.out | apply below_alloc | apply pw_below_drewN | apply below_drew1 | refine below_set ?_ GE611.out) | exact HB.out))) : w.heap.size ≤ gb622)); have n8_ := Aside0.mk ((by rw [hg]; exact (below_size (by repeat (first | (with_reducible first | exact HB.out | apply below_alloc | apply pw_below_drewN | apply below_drew1 | refine below_set ?_ GE611.out) | exact HB.out))) : w.heap.size ≤ gb622)); have n9_ := Aside0.mk ((by rw [hg]; exact Nat.ne_of_lt (blk_lt (g := gb611) (o := .cells #[.int .i64 t604, .string t605] 31 (0, 0)) (by (with_reducible repeat (first | refine blk_drewN ?_ _ | refine blk_drew ?_ | refine blk_alloc ?_ _)); exact BK611.out)) : gb611 ≠ gb622)); have n10_ := Aside0.mk ((by rw [hg]; exact Nat.ne_of_gt (blk_lt (g := gb611) (o := .cells #[.int .i64 t604, .string t605] 31 (0, 0)) (by (with_reducible repeat (first | refine blk_drewN ?_ _ | refine blk_drew ?_ | refine blk_alloc ?_ _)); exact BK611.out)) : gb622 ≠ gb611)); clear HO603; clear HO608; clear HO614; clear HO619; clear BK611; clear HB; have HO603 := n0_; have HO608 := n1_; have HO614 := n2_; have HO619 := n3_; have BK611 := n4_; have HB := n5_; have BK622 := n6_; have GW622 := n7_; have GE622 := n8_; have NB611_622 := n9_; have NB622_611 := n10_; clear n0_ n1_ n2_ n3_ n4_ n5_ n6_ n7_ n8_ n9_ n10_; clear hb hbox hg; have hnb18 := NB622_611.out; have hnc18 := NB611_622.out; have hcz19_0 : w17.cell? ⟨gb622, 0, none⟩ = some (.int .i64 0) := (blk_cell BK622.out 0).trans rfl; have hcz19_1 : w17.cell? ⟨gb622, 1, none⟩ = some (.string (⟨#[]⟩ : ByteArray)) := (blk_cell BK622.out 1).trans rfl; have hfz19_0 := blk_frozen BK622.out 0; have hfz19_1 := blk_frozen BK622.out 1))
  (try simp only [Act.put, List.setIfInBounds_toArray, List.set_cons_zero, List.set_cons_succ])
  go_cut [62] (fun v62 wc => ∃ (kq : Nat) (x62_7 : Bool), v62 = .bool x62_7 ∧ Aside0 (laws_FnExactGetCommit.j0 kq l0 a1 t606 t609 t610 t612 t617 t620 t621 x62_7 t604 t605 t615 t616 = some r) ∧ Aside0 (kq ≤ k) ∧ Aside0 (Kd.R Kd.string 9 wc w.heap.size (fun k_ => some k_ ≠ (v618 : Value).ownBlock) v607 t606) ∧ Aside0 (Kd.R (Kd.int .u8) 5 wc w.heap.size (fun _ => True) (.slice Ao15 t612.length co15) t612) ∧ Aside0 (Kd.R Kd.string 9 wc w.heap.size (fun k_ => some k_ ≠ (v607 : Value).ownBlock) v618 t617) ∧ Aside0 (wc.heap[gb611]? = some (.cells #[.int .i64 t604, .string t605] 31 (0, 0))) ∧ Aside0 (wc.heap[gb622]? = some (.cells #[.int .i64 t615, .string t616] 31 (0, 0))) ∧ Aside0 (Below w.heap.size w wc))
  case first =>
   have H := HC8.out
   clear HC8
   replace H := Option.bind_eq_some_iff.mp H
   obtain ⟨t623, A200, H⟩ := H
   replace H : (if t623 = true then ((laws_eqStringS.f k t617 t606).bind fun t624 => (if t624 = true then (if t620 = t609 then (laws_FnExactGetCommit.j0 k l0 a1 t606 t609 t610 t612 t617 t620 t621 (t621 != t610) t604 t605 t615 t616) else (laws_FnExactGetCommit.j0 k l0 a1 t606 t609 t610 t612 t617 t620 t621 true t604 t605 t615 t616)) else (laws_FnExactGetCommit.j0 k l0 a1 t606 t609 t610 t612 t617 t620 t621 true t604 t605 t615 t616))) else (laws_FnExactGetCommit.j0 k l0 a1 t606 t609 t610 t612 t617 t620 t621 true t604 t605 t615 t616)) = some r := H
   have A20 := Aside0.mk A200
   clear A200
   by_cases c21 : t623 = true
   ·subst c21
    have H1 : ((laws_eqStringS.f k t617 t606).bind fun t624 => (if t624 = true then (if t620 = t609 then (laws_FnExactGetCommit.j0 k l0 a1 t606 t609 t610 t612 t617 t620 t621 (t621 != t610) t604 t605 t615 t616) else (laws_FnExactGetCommit.j0 k l0 a1 t606 t609 t610 t612 t617 t620 t621 true t604 t605 t615 t616)) else (laws_FnExactGetCommit.j0 k l0 a1 t606 t609 t610 t612 t617 t620 t621 true t604 t605 t615 t616))) = some r := by rw [if_pos rfl] at H; exact H
    clear H
    have H := H1
    clear H1
    replace H := Option.bind_eq_some_iff.mp H
    obtain ⟨t624, A220, H⟩ := H
    replace H : (if t624 = true then (if t620 = t609 then (laws_FnExactGetCommit.j0 k l0 a1 t606 t609 t610 t612 t617 t620 t621 (t621 != t610) t604 t605 t615 t616) else (laws_FnExactGetCommit.j0 k l0 a1 t606 t609 t610 t612 t617 t620 t621 true t604 t605 t615 t616)) else (laws_FnExactGetCommit.j0 k l0 a1 t606 t609 t610 t612 t617 t620 t621 true t604 t605 t615 t616)) = some r := H
    have A22 := Aside0.mk A220
    clear A220
    by_cases c23 : t624 = true
    ·subst c23
     have H1 : (if t620 = t609 then (laws_FnExactGetCommit.j0 k l0 a1 t606 t609 t610 t612 t617 t620 t621 (t621 != t610) t604 t605 t615 t616) else (laws_FnExactGetCommit.j0 k l0 a1 t606 t609 t610 t612 t617 t620 t621 true t604 t605 t615 t616)) = some r := by rw [if_pos rfl] at H; exact H
     clear H
     have H := H1
     clear H1
     by_cases c24 : t620 = t609
     ·rw [if_pos c24] at H
      have c24b0 : (t620 == t609) = true := beq_iff_eq.mpr c24
      have c24b1 : (t620 != t609) = false := bne_eq_false_iff_eq.mpr c24
      clear c24
      (first | rw [c24b0] | (simp only [i64_w, i32_w]; rw [c24b0]) | skip)
      have H' := Aside0.mk H
      clear H
      have hnb25 := NB622_611.out
      have hnc25 := NB611_622.out
      have hcz26_0 : w17.cell? ⟨gb622, 0, none⟩ = some (.int .i64 0) := (blk_cell BK622.out 0).trans rfl
      have hcz26_1 : w17.cell? ⟨gb622, 1, none⟩ = some (.string (⟨#[]⟩ : ByteArray)) := (blk_cell BK622.out 1).trans rfl
      have hfz26_0 := blk_frozen BK622.out 0
      have hfz26_1 := blk_frozen BK622.out 1
      have hcz27_0 : w17.cell? ⟨gb611, 0, none⟩ = some (.int .i64 t604) := (blk_cell BK611.out 0).trans rfl
      have hcz27_1 : w17.cell? ⟨gb611, 1, none⟩ = some (.string t605) := (blk_cell BK611.out 1).trans rfl
      have hfz27_0 := blk_frozen BK611.out 0
      have hfz27_1 := blk_frozen BK611.out 1
      go_wp2_with (first | ((with_reducible refine gate_callee (f := 53) rfl ?_); refine goesL_ (some 45) rfl rfl Try.func53 (by kernel_rfl) rfl #[.agg #[.int .i64 t615, .string t616], .agg #[.int .i64 t604, .string t605]] rfl (by (try simp only [List.map_toArray, List.map_cons, List.map_nil]); first | done | rfl | (simp only [List.length_drop, List.length_take]; rfl)) ?_; (with_reducible refine (laws_eqHead.calls t615 t616 t604 t605 true _ A20.out).mono ?_); rintro e w28 ⟨rfl, hb⟩; refine ⟨_, rfl, ?_⟩; have n0_ := Aside0.mk (Kd.R_below (by (with_reducible repeat (first | apply Kd.R_alloc | apply Kd.R_drewN | apply Kd.R_drew)); exact (Kd.R_mono (Kd.R_far (p := ⟨gb622, 1, none⟩) (Kd.R_far (p := ⟨gb622, 0, none⟩) (Kd.R_types HO603.out BK622.out (by decide)) (fun _ hk => hk.2) (.int .i64 t615)) (fun _ hk => hk.2) (.string t616)) (fun _ h_ => h_.1))) hb); have n1_ := Aside0.mk (Kd.R_below (by (with_reducible repeat (first | apply Kd.R_alloc | apply Kd.R_drewN | apply Kd.R_drew)); exact (Kd.R_mono (Kd.R_far (p := ⟨gb622, 1, none⟩) (Kd.R_far (p := ⟨gb622, 0, none⟩) (Kd.R_types HO608.out BK622.out (by decide)) (fun _ hk => hk.2) (.int .i64 t615)) (fun _ hk => hk.2) (.string t616)) (fun _ h_ => h_.1))) hb); have n2_ := Aside0.mk (Kd.R_below (by (with_reducible repeat (first | apply Kd.R_alloc | apply Kd.R_drewN | apply Kd.R_drew)); exact (Kd.R_mono (Kd.R_far (p := ⟨gb622, 1, none⟩) (Kd.R_far (p := ⟨gb622, 0, none⟩) (Kd.R_types HO614.out BK622.out (by decide)) (fun _ hk => hk.2) (.int .i64 t615)) (fun _ hk => hk.2) (.string t616)) (fun _ h_ => h_.1))) hb); have n3_ := Aside0.mk (Kd.R_below (by (with_reducible repeat (first | apply Kd.R_alloc | apply Kd.R_drewN | apply Kd.R_drew)); exact (Kd.R_mono (Kd.R_far (p := ⟨gb622, 1, none⟩) (Kd.R_far (p := ⟨gb622, 0, none⟩) (Kd.R_types HO619.out BK622.out (by decide)) (fun _ hk => hk.2) (.int .i64 t615)) (fun _ hk => hk.2) (.string t616)) (fun _ h_ => h_.1))) hb); have n4_ := Aside0.mk (blk_below (g := gb611) (o := .cells #[.int .i64 t604, .string t605] 31 (0, 0)) (by (with_reducible repeat (first | refine blk_drewN ?_ _ | refine blk_drew ?_ | refine blk_alloc ?_ _)); refine blk_far ?_ NB611_622.out _; (with_reducible repeat (first | refine blk_drewN ?_ _ | refine blk_drew ?_ | refine blk_alloc ?_ _)); refine blk_far ?_ NB611_622.out _; (with_reducible repeat (first | refine blk_drewN ?_ _ | refine blk_drew ?_ | refine blk_alloc ?_ _)); exact BK611.out) hb); have n5_ := Aside0.mk (blk_below (g := gb622) (o := .cells #[.int .i64 t615, .string t616] 31 (0, 0)) (by (with_reducible repeat (first | refine blk_drewN ?_ _ | refine blk_drew ?_ | refine blk_alloc ?_ _)); refine blk_put (cs := #[.int .i64 t615, .string (⟨#[]⟩ : ByteArray)]) ?_ 1 _ rfl; (with_reducible repeat (first | refine blk_drewN ?_ _ | refine blk_drew ?_ | refine blk_alloc ?_ _)); refine blk_put (cs := #[.int .i64 0, .string (⟨#[]⟩ : ByteArray)]) ?_ 0 _ rfl; (with_reducible repeat (first | refine blk_drewN ?_ _ | refine blk_drew ?_ | refine blk_alloc ?_ _)); exact BK622.out) hb); have n6_ := Aside0.mk (below_step (by repeat (first | (with_reducible first | exact HB.out | apply below_alloc | apply pw_below_drewN | apply below_drew1 | refine below_set ?_ GE611.out | refine below_set ?_ GE622.out) | exact HB.out)) hb); clear HO603; clear HO608; clear HO614; clear HO619; clear BK611; clear BK622; clear HB; have HO603 := n0_; have HO608 := n1_; have HO614 := n2_; have HO619 := n3_; have BK611 := n4_; have BK622 := n5_; have HB := n6_; clear n0_ n1_ n2_ n3_ n4_ n5_ n6_; (try clear hb); (try clear hb2); (try clear hk); (try clear hi); obtain ⟨Ao29, co29, eo29⟩ := Kd.R_slice HO619.out; subst eo29; obtain ⟨Ao30, co30, eo30⟩ := Kd.R_slice HO608.out; subst eo30) | (go_at_call 48; (with_reducible refine (laws_eqStringS.calls k _ _ t617 _ _ t606 true _ ?side1 ?side2 ?side3 ?side4 A22.out).mono ?_); (case side1 => repeat (first | exact (Kd.R_reads' HO619.out).2.2 | (with_reducible refine Kd.C_alloc ?_ _) | (with_reducible refine Kd.C_drewN ?_ _) | (with_reducible refine Kd.C_drew ?_))); (case side2 => exact (Kd.R_reads' HO619.out).2.1); (case side3 => repeat (first | exact (Kd.R_reads' HO608.out).2.2 | (with_reducible refine Kd.C_alloc ?_ _) | (with_reducible refine Kd.C_drewN ?_ _) | (with_reducible refine Kd.C_drew ?_))); (case side4 => exact (Kd.R_reads' HO608.out).2.1); rintro e w' ⟨rfl, ⟨nd, rfl⟩⟩))
      go_meet
      case rel => exact ⟨_, ((t621 != t610)), (by first | rfl | (simp; done) | (simp [*]; done)), H', ⟨by first | omega | exact Nat.le_refl _⟩, ⟨by (with_reducible repeat (first | apply Kd.R_alloc | apply Kd.R_drewN | apply Kd.R_drew)); exact Kd.R_mono HO608.out (fun _ hk => hk.2)⟩, ⟨by (with_reducible repeat (first | apply Kd.R_alloc | apply Kd.R_drewN | apply Kd.R_drew)); exact Kd.R_mono HO614.out (fun _ hk => trivial)⟩, ⟨by (with_reducible repeat (first | apply Kd.R_alloc | apply Kd.R_drewN | apply Kd.R_drew)); exact Kd.R_mono HO619.out (fun _ hk => hk.2)⟩, ⟨by (with_reducible repeat (first | refine blk_drewN ?_ _ | refine blk_drew ?_ | refine blk_alloc ?_ _)); exact BK611.out⟩, ⟨by (with_reducible repeat (first | refine blk_drewN ?_ _ | refine blk_drew ?_ | refine blk_alloc ?_ _)); exact BK622.out⟩, ⟨by repeat (first | (with_reducible first | exact HB.out | apply below_alloc | apply pw_below_drewN | apply below_drew1 | refine below_set ?_ GE611.out | refine below_set ?_ GE622.out) | exact HB.out)⟩⟩
     ·rw [if_neg c24] at H
      have c24b0 : (t620 == t609) = false := beq_eq_false_iff_ne.mpr c24
      have c24b1 : (t620 != t609) = true := bne_iff_ne.mpr c24
      (first | rw [c24b0] | (simp only [i64_w, i32_w]; rw [c24b0]) | skip)
      have H' := Aside0.mk H
      clear H
      have hnb31 := NB622_611.out
      have hnc31 := NB611_622.out
      have hcz32_0 : w17.cell? ⟨gb622, 0, none⟩ = some (.int .i64 0) := (blk_cell BK622.out 0).trans rfl
      have hcz32_1 : w17.cell? ⟨gb622, 1, none⟩ = some (.string (⟨#[]⟩ : ByteArray)) := (blk_cell BK622.out 1).trans rfl
      have hfz32_0 := blk_frozen BK622.out 0
      have hfz32_1 := blk_frozen BK622.out 1
      have hcz33_0 : w17.cell? ⟨gb611, 0, none⟩ = some (.int .i64 t604) := (blk_cell BK611.out 0).trans rfl
      have hcz33_1 : w17.cell? ⟨gb611, 1, none⟩ = some (.string t605) := (blk_cell BK611.out 1).trans rfl
      have hfz33_0 := blk_frozen BK611.out 0
      have hfz33_1 := blk_frozen BK611.out 1
      go_wp2_with (first | ((with_reducible refine gate_callee (f := 53) rfl ?_); refine goesL_ (some 45) rfl rfl Try.func53 (by kernel_rfl) rfl #[.agg #[.int .i64 t615, .string t616], .agg #[.int .i64 t604, .string t605]] rfl (by (try simp only [List.map_toArray, List.map_cons, List.map_nil]); first | done | rfl | (simp only [List.length_drop, List.length_take]; rfl)) ?_; (with_reducible refine (laws_eqHead.calls t615 t616 t604 t605 true _ A20.out).mono ?_); rintro e w34 ⟨rfl, hb⟩; refine ⟨_, rfl, ?_⟩; have n0_ := Aside0.mk (Kd.R_below (by (with_reducible repeat (first | apply Kd.R_alloc | apply Kd.R_drewN | apply Kd.R_drew)); exact (Kd.R_mono (Kd.R_far (p := ⟨gb622, 1, none⟩) (Kd.R_far (p := ⟨gb622, 0, none⟩) (Kd.R_types HO603.out BK622.out (by decide)) (fun _ hk => hk.2) (.int .i64 t615)) (fun _ hk => hk.2) (.string t616)) (fun _ h_ => h_.1))) hb); have n1_ := Aside0.mk (Kd.R_below (by (with_reducible repeat (first | apply Kd.R_alloc | apply Kd.R_drewN | apply Kd.R_drew)); exact (Kd.R_mono (Kd.R_far (p := ⟨gb622, 1, none⟩) (Kd.R_far (p := ⟨gb622, 0, none⟩) (Kd.R_types HO608.out BK622.out (by decide)) (fun _ hk => hk.2) (.int .i64 t615)) (fun _ hk => hk.2) (.string t616)) (fun _ h_ => h_.1))) hb); have n2_ := Aside0.mk (Kd.R_below (by (with_reducible repeat (first | apply Kd.R_alloc | apply Kd.R_drewN | apply Kd.R_drew)); exact (Kd.R_mono (Kd.R_far (p := ⟨gb622, 1, none⟩) (Kd.R_far (p := ⟨gb622, 0, none⟩) (Kd.R_types HO614.out BK622.out (by decide)) (fun _ hk => hk.2) (.int .i64 t615)) (fun _ hk => hk.2) (.string t616)) (fun _ h_ => h_.1))) hb); have n3_ := Aside0.mk (Kd.R_below (by (with_reducible repeat (first | apply Kd.R_alloc | apply Kd.R_drewN | apply Kd.R_drew)); exact (Kd.R_mono (Kd.R_far (p := ⟨gb622, 1, none⟩) (Kd.R_far (p := ⟨gb622, 0, none⟩) (Kd.R_types HO619.out BK622.out (by decide)) (fun _ hk => hk.2) (.int .i64 t615)) (fun _ hk => hk.2) (.string t616)) (fun _ h_ => h_.1))) hb); have n4_ := Aside0.mk (blk_below (g := gb611) (o := .cells #[.int .i64 t604, .string t605] 31 (0, 0)) (by (with_reducible repeat (first | refine blk_drewN ?_ _ | refine blk_drew ?_ | refine blk_alloc ?_ _)); refine blk_far ?_ NB611_622.out _; (with_reducible repeat (first | refine blk_drewN ?_ _ | refine blk_drew ?_ | refine blk_alloc ?_ _)); refine blk_far ?_ NB611_622.out _; (with_reducible repeat (first | refine blk_drewN ?_ _ | refine blk_drew ?_ | refine blk_alloc ?_ _)); exact BK611.out) hb); have n5_ := Aside0.mk (blk_below (g := gb622) (o := .cells #[.int .i64 t615, .string t616] 31 (0, 0)) (by (with_reducible repeat (first | refine blk_drewN ?_ _ | refine blk_drew ?_ | refine blk_alloc ?_ _)); refine blk_put (cs := #[.int .i64 t615, .string (⟨#[]⟩ : ByteArray)]) ?_ 1 _ rfl; (with_reducible repeat (first | refine blk_drewN ?_ _ | refine blk_drew ?_ | refine blk_alloc ?_ _)); refine blk_put (cs := #[.int .i64 0, .string (⟨#[]⟩ : ByteArray)]) ?_ 0 _ rfl; (with_reducible repeat (first | refine blk_drewN ?_ _ | refine blk_drew ?_ | refine blk_alloc ?_ _)); exact BK622.out) hb); have n6_ := Aside0.mk (below_step (by repeat (first | (with_reducible first | exact HB.out | apply below_alloc | apply pw_below_drewN | apply below_drew1 | refine below_set ?_ GE611.out | refine below_set ?_ GE622.out) | exact HB.out)) hb); clear HO603; clear HO608; clear HO614; clear HO619; clear BK611; clear BK622; clear HB; have HO603 := n0_; have HO608 := n1_; have HO614 := n2_; have HO619 := n3_; have BK611 := n4_; have BK622 := n5_; have HB := n6_; clear n0_ n1_ n2_ n3_ n4_ n5_ n6_; (try clear hb); (try clear hb2); (try clear hk); (try clear hi); obtain ⟨Ao35, co35, eo35⟩ := Kd.R_slice HO619.out; subst eo35; obtain ⟨Ao36, co36, eo36⟩ := Kd.R_slice HO608.out; subst eo36) | (go_at_call 48; (with_reducible refine (laws_eqStringS.calls k _ _ t617 _ _ t606 true _ ?side1 ?side2 ?side3 ?side4 A22.out).mono ?_); (case side1 => repeat (first | exact (Kd.R_reads' HO619.out).2.2 | (with_reducible refine Kd.C_alloc ?_ _) | (with_reducible refine Kd.C_drewN ?_ _) | (with_reducible refine Kd.C_drew ?_))); (case side2 => exact (Kd.R_reads' HO619.out).2.1); (case side3 => repeat (first | exact (Kd.R_reads' HO608.out).2.2 | (with_reducible refine Kd.C_alloc ?_ _) | (with_reducible refine Kd.C_drewN ?_ _) | (with_reducible refine Kd.C_drew ?_))); (case side4 => exact (Kd.R_reads' HO608.out).2.1); rintro e w' ⟨rfl, ⟨nd, rfl⟩⟩))
      go_meet
      case rel => exact ⟨_, (true), (by first | rfl | (simp; done) | (simp [*]; done)), H', ⟨by first | omega | exact Nat.le_refl _⟩, ⟨by (with_reducible repeat (first | apply Kd.R_alloc | apply Kd.R_drewN | apply Kd.R_drew)); exact Kd.R_mono HO608.out (fun _ hk => hk.2)⟩, ⟨by (with_reducible repeat (first | apply Kd.R_alloc | apply Kd.R_drewN | apply Kd.R_drew)); exact Kd.R_mono HO614.out (fun _ hk => trivial)⟩, ⟨by (with_reducible repeat (first | apply Kd.R_alloc | apply Kd.R_drewN | apply Kd.R_drew)); exact Kd.R_mono HO619.out (fun _ hk => hk.2)⟩, ⟨by (with_reducible repeat (first | refine blk_drewN ?_ _ | refine blk_drew ?_ | refine blk_alloc ?_ _)); exact BK611.out⟩, ⟨by (with_reducible repeat (first | refine blk_drewN ?_ _ | refine blk_drew ?_ | refine blk_alloc ?_ _)); exact BK622.out⟩, ⟨by repeat (first | (with_reducible first | exact HB.out | apply below_alloc | apply pw_below_drewN | apply below_drew1 | refine below_set ?_ GE611.out | refine below_set ?_ GE622.out) | exact HB.out)⟩⟩
    ·replace c23 := Bool.eq_false_iff.mpr c23
     subst c23
     have H1 : (laws_FnExactGetCommit.j0 k l0 a1 t606 t609 t610 t612 t617 t620 t621 true t604 t605 t615 t616) = some r := by rw [if_neg (show ¬ (false = true) by decide)] at H; exact H
     clear H
     have H := H1
     clear H1
     have H' := Aside0.mk H
     clear H
     have hnb37 := NB622_611.out
     have hnc37 := NB611_622.out
     have hcz38_0 : w17.cell? ⟨gb622, 0, none⟩ = some (.int .i64 0) := (blk_cell BK622.out 0).trans rfl
     have hcz38_1 : w17.cell? ⟨gb622, 1, none⟩ = some (.string (⟨#[]⟩ : ByteArray)) := (blk_cell BK622.out 1).trans rfl
     have hfz38_0 := blk_frozen BK622.out 0
     have hfz38_1 := blk_frozen BK622.out 1
     have hcz39_0 : w17.cell? ⟨gb611, 0, none⟩ = some (.int .i64 t604) := (blk_cell BK611.out 0).trans rfl
     have hcz39_1 : w17.cell? ⟨gb611, 1, none⟩ = some (.string t605) := (blk_cell BK611.out 1).trans rfl
     have hfz39_0 := blk_frozen BK611.out 0
     have hfz39_1 := blk_frozen BK611.out 1
     go_wp2_with (first | ((with_reducible refine gate_callee (f := 53) rfl ?_); refine goesL_ (some 45) rfl rfl Try.func53 (by kernel_rfl) rfl #[.agg #[.int .i64 t615, .string t616], .agg #[.int .i64 t604, .string t605]] rfl (by (try simp only [List.map_toArray, List.map_cons, List.map_nil]); first | done | rfl | (simp only [List.length_drop, List.length_take]; rfl)) ?_; (with_reducible refine (laws_eqHead.calls t615 t616 t604 t605 true _ A20.out).mono ?_); rintro e w40 ⟨rfl, hb⟩; refine ⟨_, rfl, ?_⟩; have n0_ := Aside0.mk (Kd.R_below (by (with_reducible repeat (first | apply Kd.R_alloc | apply Kd.R_drewN | apply Kd.R_drew)); exact (Kd.R_mono (Kd.R_far (p := ⟨gb622, 1, none⟩) (Kd.R_far (p := ⟨gb622, 0, none⟩) (Kd.R_types HO603.out BK622.out (by decide)) (fun _ hk => hk.2) (.int .i64 t615)) (fun _ hk => hk.2) (.string t616)) (fun _ h_ => h_.1))) hb); have n1_ := Aside0.mk (Kd.R_below (by (with_reducible repeat (first | apply Kd.R_alloc | apply Kd.R_drewN | apply Kd.R_drew)); exact (Kd.R_mono (Kd.R_far (p := ⟨gb622, 1, none⟩) (Kd.R_far (p := ⟨gb622, 0, none⟩) (Kd.R_types HO608.out BK622.out (by decide)) (fun _ hk => hk.2) (.int .i64 t615)) (fun _ hk => hk.2) (.string t616)) (fun _ h_ => h_.1))) hb); have n2_ := Aside0.mk (Kd.R_below (by (with_reducible repeat (first | apply Kd.R_alloc | apply Kd.R_drewN | apply Kd.R_drew)); exact (Kd.R_mono (Kd.R_far (p := ⟨gb622, 1, none⟩) (Kd.R_far (p := ⟨gb622, 0, none⟩) (Kd.R_types HO614.out BK622.out (by decide)) (fun _ hk => hk.2) (.int .i64 t615)) (fun _ hk => hk.2) (.string t616)) (fun _ h_ => h_.1))) hb); have n3_ := Aside0.mk (Kd.R_below (by (with_reducible repeat (first | apply Kd.R_alloc | apply Kd.R_drewN | apply Kd.R_drew)); exact (Kd.R_mono (Kd.R_far (p := ⟨gb622, 1, none⟩) (Kd.R_far (p := ⟨gb622, 0, none⟩) (Kd.R_types HO619.out BK622.out (by decide)) (fun _ hk => hk.2) (.int .i64 t615)) (fun _ hk => hk.2) (.string t616)) (fun _ h_ => h_.1))) hb); have n4_ := Aside0.mk (blk_below (g := gb611) (o := .cells #[.int .i64 t604, .string t605] 31 (0, 0)) (by (with_reducible repeat (first | refine blk_drewN ?_ _ | refine blk_drew ?_ | refine blk_alloc ?_ _)); refine blk_far ?_ NB611_622.out _; (with_reducible repeat (first | refine blk_drewN ?_ _ | refine blk_drew ?_ | refine blk_alloc ?_ _)); refine blk_far ?_ NB611_622.out _; (with_reducible repeat (first | refine blk_drewN ?_ _ | refine blk_drew ?_ | refine blk_alloc ?_ _)); exact BK611.out) hb); have n5_ := Aside0.mk (blk_below (g := gb622) (o := .cells #[.int .i64 t615, .string t616] 31 (0, 0)) (by (with_reducible repeat (first | refine blk_drewN ?_ _ | refine blk_drew ?_ | refine blk_alloc ?_ _)); refine blk_put (cs := #[.int .i64 t615, .string (⟨#[]⟩ : ByteArray)]) ?_ 1 _ rfl; (with_reducible repeat (first | refine blk_drewN ?_ _ | refine blk_drew ?_ | refine blk_alloc ?_ _)); refine blk_put (cs := #[.int .i64 0, .string (⟨#[]⟩ : ByteArray)]) ?_ 0 _ rfl; (with_reducible repeat (first | refine blk_drewN ?_ _ | refine blk_drew ?_ | refine blk_alloc ?_ _)); exact BK622.out) hb); have n6_ := Aside0.mk (below_step (by repeat (first | (with_reducible first | exact HB.out | apply below_alloc | apply pw_below_drewN | apply below_drew1 | refine below_set ?_ GE611.out | refine below_set ?_ GE622.out) | exact HB.out)) hb); clear HO603; clear HO608; clear HO614; clear HO619; clear BK611; clear BK622; clear HB; have HO603 := n0_; have HO608 := n1_; have HO614 := n2_; have HO619 := n3_; have BK611 := n4_; have BK622 := n5_; have HB := n6_; clear n0_ n1_ n2_ n3_ n4_ n5_ n6_; (try clear hb); (try clear hb2); (try clear hk); (try clear hi); obtain ⟨Ao41, co41, eo41⟩ := Kd.R_slice HO619.out; subst eo41; obtain ⟨Ao42, co42, eo42⟩ := Kd.R_slice HO608.out; subst eo42) | (go_at_call 48; (with_reducible refine (laws_eqStringS.calls k _ _ t617 _ _ t606 false _ ?side1 ?side2 ?side3 ?side4 A22.out).mono ?_); (case side1 => repeat (first | exact (Kd.R_reads' HO619.out).2.2 | (with_reducible refine Kd.C_alloc ?_ _) | (with_reducible refine Kd.C_drewN ?_ _) | (with_reducible refine Kd.C_drew ?_))); (case side2 => exact (Kd.R_reads' HO619.out).2.1); (case side3 => repeat (first | exact (Kd.R_reads' HO608.out).2.2 | (with_reducible refine Kd.C_alloc ?_ _) | (with_reducible refine Kd.C_drewN ?_ _) | (with_reducible refine Kd.C_drew ?_))); (case side4 => exact (Kd.R_reads' HO608.out).2.1); rintro e w' ⟨rfl, ⟨nd, rfl⟩⟩))
     go_meet
     case rel => exact ⟨_, (true), (by first | rfl | (simp; done) | (simp [*]; done)), H', ⟨by first | omega | exact Nat.le_refl _⟩, ⟨by (with_reducible repeat (first | apply Kd.R_alloc | apply Kd.R_drewN | apply Kd.R_drew)); exact Kd.R_mono HO608.out (fun _ hk => hk.2)⟩, ⟨by (with_reducible repeat (first | apply Kd.R_alloc | apply Kd.R_drewN | apply Kd.R_drew)); exact Kd.R_mono HO614.out (fun _ hk => trivial)⟩, ⟨by (with_reducible repeat (first | apply Kd.R_alloc | apply Kd.R_drewN | apply Kd.R_drew)); exact Kd.R_mono HO619.out (fun _ hk => hk.2)⟩, ⟨by (with_reducible repeat (first | refine blk_drewN ?_ _ | refine blk_drew ?_ | refine blk_alloc ?_ _)); exact BK611.out⟩, ⟨by (with_reducible repeat (first | refine blk_drewN ?_ _ | refine blk_drew ?_ | refine blk_alloc ?_ _)); exact BK622.out⟩, ⟨by repeat (first | (with_reducible first | exact HB.out | apply below_alloc | apply pw_below_drewN | apply below_drew1 | refine below_set ?_ GE611.out | refine below_set ?_ GE622.out) | exact HB.out)⟩⟩
   ·replace c21 := Bool.eq_false_iff.mpr c21
    subst c21
    have H1 : (laws_FnExactGetCommit.j0 k l0 a1 t606 t609 t610 t612 t617 t620 t621 true t604 t605 t615 t616) = some r := by rw [if_neg (show ¬ (false = true) by decide)] at H; exact H
    clear H
    have H := H1
    clear H1
    have H' := Aside0.mk H
    clear H
    have hnb43 := NB622_611.out
    have hnc43 := NB611_622.out
    have hcz44_0 : w17.cell? ⟨gb622, 0, none⟩ = some (.int .i64 0) := (blk_cell BK622.out 0).trans rfl
    have hcz44_1 : w17.cell? ⟨gb622, 1, none⟩ = some (.string (⟨#[]⟩ : ByteArray)) := (blk_cell BK622.out 1).trans rfl
    have hfz44_0 := blk_frozen BK622.out 0
    have hfz44_1 := blk_frozen BK622.out 1
    have hcz45_0 : w17.cell? ⟨gb611, 0, none⟩ = some (.int .i64 t604) := (blk_cell BK611.out 0).trans rfl
    have hcz45_1 : w17.cell? ⟨gb611, 1, none⟩ = some (.string t605) := (blk_cell BK611.out 1).trans rfl
    have hfz45_0 := blk_frozen BK611.out 0
    have hfz45_1 := blk_frozen BK611.out 1
    go_wp2_with (first | ((with_reducible refine gate_callee (f := 53) rfl ?_); refine goesL_ (some 45) rfl rfl Try.func53 (by kernel_rfl) rfl #[.agg #[.int .i64 t615, .string t616], .agg #[.int .i64 t604, .string t605]] rfl (by (try simp only [List.map_toArray, List.map_cons, List.map_nil]); first | done | rfl | (simp only [List.length_drop, List.length_take]; rfl)) ?_; (with_reducible refine (laws_eqHead.calls t615 t616 t604 t605 false _ A20.out).mono ?_); rintro e w46 ⟨rfl, hb⟩; refine ⟨_, rfl, ?_⟩; have n0_ := Aside0.mk (Kd.R_below (by (with_reducible repeat (first | apply Kd.R_alloc | apply Kd.R_drewN | apply Kd.R_drew)); exact (Kd.R_mono (Kd.R_far (p := ⟨gb622, 1, none⟩) (Kd.R_far (p := ⟨gb622, 0, none⟩) (Kd.R_types HO603.out BK622.out (by decide)) (fun _ hk => hk.2) (.int .i64 t615)) (fun _ hk => hk.2) (.string t616)) (fun _ h_ => h_.1))) hb); have n1_ := Aside0.mk (Kd.R_below (by (with_reducible repeat (first | apply Kd.R_alloc | apply Kd.R_drewN | apply Kd.R_drew)); exact (Kd.R_mono (Kd.R_far (p := ⟨gb622, 1, none⟩) (Kd.R_far (p := ⟨gb622, 0, none⟩) (Kd.R_types HO608.out BK622.out (by decide)) (fun _ hk => hk.2) (.int .i64 t615)) (fun _ hk => hk.2) (.string t616)) (fun _ h_ => h_.1))) hb); have n2_ := Aside0.mk (Kd.R_below (by (with_reducible repeat (first | apply Kd.R_alloc | apply Kd.R_drewN | apply Kd.R_drew)); exact (Kd.R_mono (Kd.R_far (p := ⟨gb622, 1, none⟩) (Kd.R_far (p := ⟨gb622, 0, none⟩) (Kd.R_types HO614.out BK622.out (by decide)) (fun _ hk => hk.2) (.int .i64 t615)) (fun _ hk => hk.2) (.string t616)) (fun _ h_ => h_.1))) hb); have n3_ := Aside0.mk (Kd.R_below (by (with_reducible repeat (first | apply Kd.R_alloc | apply Kd.R_drewN | apply Kd.R_drew)); exact (Kd.R_mono (Kd.R_far (p := ⟨gb622, 1, none⟩) (Kd.R_far (p := ⟨gb622, 0, none⟩) (Kd.R_types HO619.out BK622.out (by decide)) (fun _ hk => hk.2) (.int .i64 t615)) (fun _ hk => hk.2) (.string t616)) (fun _ h_ => h_.1))) hb); have n4_ := Aside0.mk (blk_below (g := gb611) (o := .cells #[.int .i64 t604, .string t605] 31 (0, 0)) (by (with_reducible repeat (first | refine blk_drewN ?_ _ | refine blk_drew ?_ | refine blk_alloc ?_ _)); refine blk_far ?_ NB611_622.out _; (with_reducible repeat (first | refine blk_drewN ?_ _ | refine blk_drew ?_ | refine blk_alloc ?_ _)); refine blk_far ?_ NB611_622.out _; (with_reducible repeat (first | refine blk_drewN ?_ _ | refine blk_drew ?_ | refine blk_alloc ?_ _)); exact BK611.out) hb); have n5_ := Aside0.mk (blk_below (g := gb622) (o := .cells #[.int .i64 t615, .string t616] 31 (0, 0)) (by (with_reducible repeat (first | refine blk_drewN ?_ _ | refine blk_drew ?_ | refine blk_alloc ?_ _)); refine blk_put (cs := #[.int .i64 t615, .string (⟨#[]⟩ : ByteArray)]) ?_ 1 _ rfl; (with_reducible repeat (first | refine blk_drewN ?_ _ | refine blk_drew ?_ | refine blk_alloc ?_ _)); refine blk_put (cs := #[.int .i64 0, .string (⟨#[]⟩ : ByteArray)]) ?_ 0 _ rfl; (with_reducible repeat (first | refine blk_drewN ?_ _ | refine blk_drew ?_ | refine blk_alloc ?_ _)); exact BK622.out) hb); have n6_ := Aside0.mk (below_step (by repeat (first | (with_reducible first | exact HB.out | apply below_alloc | apply pw_below_drewN | apply below_drew1 | refine below_set ?_ GE611.out | refine below_set ?_ GE622.out) | exact HB.out)) hb); clear HO603; clear HO608; clear HO614; clear HO619; clear BK611; clear BK622; clear HB; have HO603 := n0_; have HO608 := n1_; have HO614 := n2_; have HO619 := n3_; have BK611 := n4_; have BK622 := n5_; have HB := n6_; clear n0_ n1_ n2_ n3_ n4_ n5_ n6_; (try clear hb); (try clear hb2); (try clear hk); (try clear hi)))
    go_meet
    case rel => exact ⟨_, (true), (by first | rfl | (simp; done) | (simp [*]; done)), H', ⟨by first | omega | exact Nat.le_refl _⟩, ⟨by (with_reducible repeat (first | apply Kd.R_alloc | apply Kd.R_drewN | apply Kd.R_drew)); exact Kd.R_mono HO608.out (fun _ hk => hk.2)⟩, ⟨by (with_reducible repeat (first | apply Kd.R_alloc | apply Kd.R_drewN | apply Kd.R_drew)); exact Kd.R_mono HO614.out (fun _ hk => trivial)⟩, ⟨by (with_reducible repeat (first | apply Kd.R_alloc | apply Kd.R_drewN | apply Kd.R_drew)); exact Kd.R_mono HO619.out (fun _ hk => hk.2)⟩, ⟨by (with_reducible repeat (first | refine blk_drewN ?_ _ | refine blk_drew ?_ | refine blk_alloc ?_ _)); exact BK611.out⟩, ⟨by (with_reducible repeat (first | refine blk_drewN ?_ _ | refine blk_drew ?_ | refine blk_alloc ?_ _)); exact BK622.out⟩, ⟨by repeat (first | (with_reducible first | exact HB.out | apply below_alloc | apply pw_below_drewN | apply below_drew1 | refine below_set ?_ GE611.out | refine below_set ?_ GE622.out) | exact HB.out)⟩⟩
  case rest =>
   clear HC8
   try clear c1
   try clear c2
   try clear p2
   try clear c3
   try clear c3b0
   try clear c3b1
   try clear c4
   try clear c5
   try clear c9
   try clear c18
   try clear c21
   try clear c23
   try clear c24
   try clear c24b0
   try clear c24b1
   try clear c25
   try clear c27
   try clear c31
   try clear c37
   try clear c39
   try clear c43
   try clear hcz13_0
   try clear hcz13_1
   try clear hcz19_0
   try clear hcz19_1
   try clear hcz26_0
   try clear hcz26_1
   try clear hcz27_0
   try clear hcz27_1
   try clear hcz32_0
   try clear hcz32_1
   try clear hcz33_0
   try clear hcz33_1
   try clear hcz38_0
   try clear hcz38_1
   try clear hcz39_0
   try clear hcz39_1
   try clear hcz44_0
   try clear hcz44_1
   try clear hcz45_0
   try clear hcz45_1
   try clear hfz13_0
   try clear hfz13_1
   try clear hfz19_0
   try clear hfz19_1
   try clear hfz26_0
   try clear hfz26_1
   try clear hfz27_0
   try clear hfz27_1
   try clear hfz32_0
   try clear hfz32_1
   try clear hfz33_0
   try clear hfz33_1
   try clear hfz38_0
   try clear hfz38_1
   try clear hfz39_0
   try clear hfz39_1
   try clear hfz44_0
   try clear hfz44_1
   try clear hfz45_0
   try clear hfz45_1
   obtain ⟨kq, x62_7, rfl, HA, HJ7, HO_6, HO_9, HO_11, BK611, BK622, HB⟩ := hcut
   cases kq with
   | zero => exact absurd HA.out (by simp [laws_FnExactGetCommit.j0])
   | succ kj7 =>
    have H := HA.out
    clear HA
    simp only [laws_FnExactGetCommit.j0] at H
    by_cases c47 : x62_7 = true
    ·subst c47
     have H1 : (none) = some r := by rw [if_pos rfl] at H; exact H
     clear H
     have H := H1
     clear H1
     exact absurd H (by simp)
    ·replace c47 := Bool.eq_false_iff.mpr c47
     subst c47
     have H1 : ((laws_toByteS.f kj7 l0).bind fun t625 => ((laws_eqByteS.f kj7 t612 t625).bind fun t628 => (if t628 = true then ((laws_markByteS.f kj7 t612 1).bind fun bt629 => (if bt629.1 < 0 then (laws_FnExactGetCommit.j1 kj7 l0 a1 t606 t609 t610 t617 true t604 t605) else ((laws_eqHead.f t615 t616 t604 t605).bind fun t631 => (if t631 = true then ((laws_eqStringS.f kj7 t617 t606).bind fun t632 => (if t632 = true then (if t620 = t609 then (laws_FnExactGetCommit.j1 kj7 l0 a1 t606 t609 t610 t617 (t621 != t610) t604 t605) else (laws_FnExactGetCommit.j1 kj7 l0 a1 t606 t609 t610 t617 true t604 t605)) else (laws_FnExactGetCommit.j1 kj7 l0 a1 t606 t609 t610 t617 true t604 t605))) else (laws_FnExactGetCommit.j1 kj7 l0 a1 t606 t609 t610 t617 true t604 t605))))) else (none)))) = some r := by rw [if_neg (show ¬ (false = true) by decide)] at H; exact H
     clear H
     have H := H1
     clear H1
     replace H := Option.bind_eq_some_iff.mp H
     obtain ⟨t625, A480, H⟩ := H
     replace H : ((laws_eqByteS.f kj7 t612 t625).bind fun t628 => (if t628 = true then ((laws_markByteS.f kj7 t612 1).bind fun bt629 => (if bt629.1 < 0 then (laws_FnExactGetCommit.j1 kj7 l0 a1 t606 t609 t610 t617 true t604 t605) else ((laws_eqHead.f t615 t616 t604 t605).bind fun t631 => (if t631 = true then ((laws_eqStringS.f kj7 t617 t606).bind fun t632 => (if t632 = true then (if t620 = t609 then (laws_FnExactGetCommit.j1 kj7 l0 a1 t606 t609 t610 t617 (t621 != t610) t604 t605) else (laws_FnExactGetCommit.j1 kj7 l0 a1 t606 t609 t610 t617 true t604 t605)) else (laws_FnExactGetCommit.j1 kj7 l0 a1 t606 t609 t610 t617 true t604 t605))) else (laws_FnExactGetCommit.j1 kj7 l0 a1 t606 t609 t610 t617 true t604 t605))))) else (none))) = some r := H
     have A48 := Aside0.mk A480
     clear A480
     replace H := Option.bind_eq_some_iff.mp H
     obtain ⟨t628, A490, H⟩ := H
     replace H : (if t628 = true then ((laws_markByteS.f kj7 t612 1).bind fun bt629 => (if bt629.1 < 0 then (laws_FnExactGetCommit.j1 kj7 l0 a1 t606 t609 t610 t617 true t604 t605) else ((laws_eqHead.f t615 t616 t604 t605).bind fun t631 => (if t631 = true then ((laws_eqStringS.f kj7 t617 t606).bind fun t632 => (if t632 = true then (if t620 = t609 then (laws_FnExactGetCommit.j1 kj7 l0 a1 t606 t609 t610 t617 (t621 != t610) t604 t605) else (laws_FnExactGetCommit.j1 kj7 l0 a1 t606 t609 t610 t617 true t604 t605)) else (laws_FnExactGetCommit.j1 kj7 l0 a1 t606 t609 t610 t617 true t604 t605))) else (laws_FnExactGetCommit.j1 kj7 l0 a1 t606 t609 t610 t617 true t604 t605))))) else (none)) = some r := H
     have A49 := Aside0.mk A490
     clear A490
     by_cases c50 : t628 = true
     ·subst c50
      have H1 : ((laws_markByteS.f kj7 t612 1).bind fun bt629 => (if bt629.1 < 0 then (laws_FnExactGetCommit.j1 kj7 l0 a1 t606 t609 t610 t617 true t604 t605) else ((laws_eqHead.f t615 t616 t604 t605).bind fun t631 => (if t631 = true then ((laws_eqStringS.f kj7 t617 t606).bind fun t632 => (if t632 = true then (if t620 = t609 then (laws_FnExactGetCommit.j1 kj7 l0 a1 t606 t609 t610 t617 (t621 != t610) t604 t605) else (laws_FnExactGetCommit.j1 kj7 l0 a1 t606 t609 t610 t617 true t604 t605)) else (laws_FnExactGetCommit.j1 kj7 l0 a1 t606 t609 t610 t617 true t604 t605))) else (laws_FnExactGetCommit.j1 kj7 l0 a1 t606 t609 t610 t617 true t604 t605))))) = some r := by rw [if_pos rfl] at H; exact H
      clear H
      have H := H1
      clear H1
      replace H := Option.bind_eq_some_iff.mp H
      obtain ⟨⟨t629, t630⟩, A510, H⟩ := H
      replace H : (if t629 < 0 then (laws_FnExactGetCommit.j1 kj7 l0 a1 t606 t609 t610 t617 true t604 t605) else ((laws_eqHead.f t615 t616 t604 t605).bind fun t631 => (if t631 = true then ((laws_eqStringS.f kj7 t617 t606).bind fun t632 => (if t632 = true then (if t620 = t609 then (laws_FnExactGetCommit.j1 kj7 l0 a1 t606 t609 t610 t617 (t621 != t610) t604 t605) else (laws_FnExactGetCommit.j1 kj7 l0 a1 t606 t609 t610 t617 true t604 t605)) else (laws_FnExactGetCommit.j1 kj7 l0 a1 t606 t609 t610 t617 true t604 t605))) else (laws_FnExactGetCommit.j1 kj7 l0 a1 t606 t609 t610 t617 true t604 t605)))) = some r := H
      have A51 := Aside0.mk A510
      clear A510
      have HC52 := Aside0.mk H
      clear H
      go_upto_region 12 with (first | ((with_reducible refine gate_callee (f := 27) rfl ?_); refine goesL_ (some 65) rfl rfl Try.func27 (by kernel_rfl) rfl #[.slice A0 l0.length c0] rfl (by (try simp only [List.map_toArray, List.map_cons, List.map_nil]); first | done | rfl | (simp only [List.length_drop, List.length_take]; rfl)) ?_; (with_reducible refine (laws_toByteS.calls kj7 _ _ l0 t625 _ ?side1 ?side2 A48.out).mono ?_); (case side1 => repeat (first | exact (Kd.C_below HR0.out HB.out) | (with_reducible refine Kd.C_alloc ?_ _) | (with_reducible refine Kd.C_drewN ?_ _) | (with_reducible refine Kd.C_drew ?_))); (case side2 => exact HC0.out); rintro e w53 ⟨v626, rfl, ho0, hb⟩; refine ⟨_, rfl, ?_⟩; have n0_ := Aside0.mk (Kd.R_below (by (with_reducible repeat (first | apply Kd.R_alloc | apply Kd.R_drewN | apply Kd.R_drew)); exact HO_6.out) hb); have n1_ := Aside0.mk (Kd.R_elder' (by (with_reducible repeat (first | apply Kd.R_alloc | apply Kd.R_drewN | apply Kd.R_drew)); exact HO_9.out) (Kd.R_base ho0) hb); have n2_ := Aside0.mk (Kd.R_below (by (with_reducible repeat (first | apply Kd.R_alloc | apply Kd.R_drewN | apply Kd.R_drew)); exact HO_11.out) hb); have n3_ := Aside0.mk (Kd.R_lower (Kd.R_new' ho0 (Kd.R_lt (by (with_reducible repeat (first | apply Kd.R_alloc | apply Kd.R_drewN | apply Kd.R_drew)); exact HO_9.out))) (below_size (by repeat (first | (with_reducible first | exact HB.out | apply below_alloc | apply pw_below_drewN | apply below_drew1 | refine below_set ?_ GE611.out | refine below_set ?_ GE622.out) | exact HB.out)))); have n4_ := Aside0.mk (blk_below (g := gb611) (o := .cells #[.int .i64 t604, .string t605] 31 (0, 0)) (by (with_reducible repeat (first | refine blk_drewN ?_ _ | refine blk_drew ?_ | refine blk_alloc ?_ _)); exact BK611.out) hb); have n5_ := Aside0.mk (blk_below (g := gb622) (o := .cells #[.int .i64 t615, .string t616] 31 (0, 0)) (by (with_reducible repeat (first | refine blk_drewN ?_ _ | refine blk_drew ?_ | refine blk_alloc ?_ _)); exact BK622.out) hb); have n6_ := Aside0.mk (below_step (by repeat (first | (with_reducible first | exact HB.out | apply below_alloc | apply pw_below_drewN | apply below_drew1 | refine below_set ?_ GE611.out | refine below_set ?_ GE622.out) | exact HB.out)) hb); clear HO_6; clear HO_9; clear HO_11; clear BK611; clear BK622; clear HB; have HO_6 := n0_; have HO_9 := n1_; have HO_11 := n2_; have HO627 := n3_; have BK611 := n4_; have BK622 := n5_; have HB := n6_; clear n0_ n1_ n2_ n3_ n4_ n5_ n6_; (try clear hb); (try clear hb2); (try clear hk); (try clear hi); (try clear ho0); obtain ⟨Ao54, co54, eo54⟩ := Kd.R_slice HO627.out; subst eo54) | ((with_reducible refine gate_callee (f := 21) rfl ?_); refine goesL_ (some 66) rfl rfl Try.func21 (by kernel_rfl) rfl #[.slice Ao15 t612.length co15, .slice Ao54 t625.length co54] rfl (by (try simp only [List.map_toArray, List.map_cons, List.map_nil]); first | done | rfl | (simp only [List.length_drop, List.length_take]; rfl)) ?_; (with_reducible refine (laws_eqByteS.calls kj7 _ _ t612 _ _ t625 true _ ?side1 ?side2 ?side3 ?side4 A49.out).mono ?_); (case side1 => repeat (first | exact (Kd.R_reads' HO_9.out).2.2 | (with_reducible refine Kd.C_alloc ?_ _) | (with_reducible refine Kd.C_drewN ?_ _) | (with_reducible refine Kd.C_drew ?_))); (case side2 => exact (Kd.R_reads' HO_9.out).2.1); (case side3 => repeat (first | exact (Kd.R_reads' HO627.out).2.2 | (with_reducible refine Kd.C_alloc ?_ _) | (with_reducible refine Kd.C_drewN ?_ _) | (with_reducible refine Kd.C_drew ?_))); (case side4 => exact (Kd.R_reads' HO627.out).2.1); rintro e w' ⟨rfl, ⟨nd, rfl⟩⟩; refine ⟨_, rfl, ?_⟩) | ((with_reducible refine gate_callee (f := 24) rfl ?_); refine goesL_ (some 70) rfl rfl Try.func24 (by kernel_rfl) rfl #[.slice Ao15 t612.length co15, .int .i64 1] rfl (by (try simp only [List.map_toArray, List.map_cons, List.map_nil]); first | done | rfl | (simp only [List.length_drop, List.length_take]; rfl)) ?_; (with_reducible refine (laws_markByteS.calls kj7 (fun k_ => some k_ = (.slice Ao15 t612.length co15 : Value).ownBlock) (.slice Ao15 t612.length co15) t612 1 t629 t630 w _ ?side1 ?side2 A51.out).mono ?_); (case side1 => repeat (first | (with_reducible first | exact HB.out | apply below_alloc | apply pw_below_drewN | apply below_drew1 | refine below_set ?_ GE611.out | refine below_set ?_ GE622.out) | exact HB.out)); (case side2 => exact Kd.R_tight rfl HO_9.out); rintro e w55 ⟨rfl, hy0, hb, hkp⟩; refine ⟨_, rfl, ?_⟩; have n0_ := Aside0.mk (Kd.R_mono (ok' := fun k_ => some k_ ≠ (v618 : Value).ownBlock) (Kd.R_keptB ((Kd.R_apart' HO_6.out (Kd.R_typed HO_9.out) (by decide))) hkp (fun k_ hk_ hs_ => (hk_.2) hs_)) (fun k_ hk_ => hk_.1.1)); have n1_ := Aside0.mk (Kd.R_reok rfl hy0 (fun k_ e_ => HO_9.out.1 k_ e_)); have n2_ := Aside0.mk (Kd.R_mono (ok' := fun k_ => some k_ ≠ (v607 : Value).ownBlock) (Kd.R_keptB ((Kd.R_apart' HO_11.out (Kd.R_typed HO_9.out) (by decide))) hkp (fun k_ hk_ hs_ => (hk_.2) hs_)) (fun k_ hk_ => hk_.1.1)); have n3_ := Aside0.mk (blk_kept (by (with_reducible repeat (first | refine blk_drewN ?_ _ | refine blk_drew ?_ | refine blk_alloc ?_ _)); exact BK611.out) hkp (fun hs_ => (fun e_ => (Kd.R_ne HO_9.out BK611.out (by decide)) e_) hs_)); have n4_ := Aside0.mk (blk_kept (by (with_reducible repeat (first | refine blk_drewN ?_ _ | refine blk_drew ?_ | refine blk_alloc ?_ _)); exact BK622.out) hkp (fun hs_ => (fun e_ => (Kd.R_ne HO_9.out BK622.out (by decide)) e_) hs_)); have n5_ := Aside0.mk (Kd.R_mono (ok' := fun k_ => some k_ ≠ (.slice Ao15 t612.length co15 : Value).ownBlock) (Kd.R_keptB (HO627.out) hkp (fun k_ hk_ hs_ => (hk_.2) hs_)) (fun k_ hk_ => hk_.1.2)); have n6_ := Aside0.mk (hb); clear HO_6; clear HO_9; clear HO_11; clear BK611; clear BK622; clear HO627; clear HB; have HO_6 := n0_; have HO_9 := n1_; have HO_11 := n2_; have BK611 := n3_; have BK622 := n4_; have HO627 := n5_; have HB := n6_; clear n0_ n1_ n2_ n3_ n4_ n5_ n6_; (try clear hb); (try clear hkp); (try clear hy0)))
      (try simp only [Act.put, List.setIfInBounds_toArray, List.set_cons_zero, List.set_cons_succ])
      go_cut [94] (fun v94 wc => ∃ (kq : Nat) (x94_51 : Bool), v94 = .bool x94_51 ∧ Aside0 (laws_FnExactGetCommit.j1 kq l0 a1 t606 t609 t610 t617 x94_51 t604 t605 = some r) ∧ Aside0 (kq ≤ kj7) ∧ Aside0 (Kd.R Kd.string 9 wc w.heap.size (fun k_ => some k_ ≠ (v618 : Value).ownBlock) v607 t606) ∧ Aside0 (Kd.R Kd.string 9 wc w.heap.size (fun k_ => some k_ ≠ (v607 : Value).ownBlock) v618 t617) ∧ Aside0 (wc.heap[gb611]? = some (.cells #[.int .i64 t604, .string t605] 31 (0, 0))) ∧ Aside0 (wc.heap[gb622]? = some (.cells #[.int .i64 t615, .string t616] 31 (0, 0))) ∧ Aside0 (Below w.heap.size w wc))
      case first =>
       have H := HC52.out
       clear HC52
       by_cases c56 : t629 < 0
       ·rw [if_pos c56] at H
        have c56b0 : decide (t629 < 0) = true := decide_eq_true c56
        clear c56
        (first | rw [c56b0] | (simp only [i64_w, i32_w]; rw [c56b0]) | skip)
        have H' := Aside0.mk H
        clear H
        go_wp2
        go_meet
        case rel => exact ⟨_, (true), (by first | rfl | (simp; done) | (simp [*]; done)), H', ⟨by have := HJ7.out; first | omega | exact Nat.le_refl _⟩, ⟨by (with_reducible repeat (first | apply Kd.R_alloc | apply Kd.R_drewN | apply Kd.R_drew)); exact HO_6.out⟩, ⟨by (with_reducible repeat (first | apply Kd.R_alloc | apply Kd.R_drewN | apply Kd.R_drew)); exact HO_11.out⟩, ⟨by (with_reducible repeat (first | refine blk_drewN ?_ _ | refine blk_drew ?_ | refine blk_alloc ?_ _)); exact BK611.out⟩, ⟨by (with_reducible repeat (first | refine blk_drewN ?_ _ | refine blk_drew ?_ | refine blk_alloc ?_ _)); exact BK622.out⟩, ⟨by repeat (first | (with_reducible first | exact HB.out | apply below_alloc | apply pw_below_drewN | apply below_drew1 | refine below_set ?_ GE611.out | refine below_set ?_ GE622.out) | exact HB.out)⟩⟩
       ·rw [if_neg c56] at H
        have c56b0 : decide (t629 < 0) = false := decide_eq_false c56
        clear c56
        (first | rw [c56b0] | (simp only [i64_w, i32_w]; rw [c56b0]) | skip)
        replace H := Option.bind_eq_some_iff.mp H
        obtain ⟨t631, A570, H⟩ := H
        replace H : (if t631 = true then ((laws_eqStringS.f kj7 t617 t606).bind fun t632 => (if t632 = true then (if t620 = t609 then (laws_FnExactGetCommit.j1 kj7 l0 a1 t606 t609 t610 t617 (t621 != t610) t604 t605) else (laws_FnExactGetCommit.j1 kj7 l0 a1 t606 t609 t610 t617 true t604 t605)) else (laws_FnExactGetCommit.j1 kj7 l0 a1 t606 t609 t610 t617 true t604 t605))) else (laws_FnExactGetCommit.j1 kj7 l0 a1 t606 t609 t610 t617 true t604 t605)) = some r := H
        have A57 := Aside0.mk A570
        clear A570
        by_cases c58 : t631 = true
        ·subst c58
         have H1 : ((laws_eqStringS.f kj7 t617 t606).bind fun t632 => (if t632 = true then (if t620 = t609 then (laws_FnExactGetCommit.j1 kj7 l0 a1 t606 t609 t610 t617 (t621 != t610) t604 t605) else (laws_FnExactGetCommit.j1 kj7 l0 a1 t606 t609 t610 t617 true t604 t605)) else (laws_FnExactGetCommit.j1 kj7 l0 a1 t606 t609 t610 t617 true t604 t605))) = some r := by rw [if_pos rfl] at H; exact H
         clear H
         have H := H1
         clear H1
         replace H := Option.bind_eq_some_iff.mp H
         obtain ⟨t632, A590, H⟩ := H
         replace H : (if t632 = true then (if t620 = t609 then (laws_FnExactGetCommit.j1 kj7 l0 a1 t606 t609 t610 t617 (t621 != t610) t604 t605) else (laws_FnExactGetCommit.j1 kj7 l0 a1 t606 t609 t610 t617 true t604 t605)) else (laws_FnExactGetCommit.j1 kj7 l0 a1 t606 t609 t610 t617 true t604 t605)) = some r := H
         have A59 := Aside0.mk A590
         clear A590
         by_cases c60 : t632 = true
         ·subst c60
          have H1 : (if t620 = t609 then (laws_FnExactGetCommit.j1 kj7 l0 a1 t606 t609 t610 t617 (t621 != t610) t604 t605) else (laws_FnExactGetCommit.j1 kj7 l0 a1 t606 t609 t610 t617 true t604 t605)) = some r := by rw [if_pos rfl] at H; exact H
          clear H
          have H := H1
          clear H1
          by_cases c61 : t620 = t609
          ·rw [if_pos c61] at H
           have c61b0 : (t620 == t609) = true := beq_iff_eq.mpr c61
           have c61b1 : (t620 != t609) = false := bne_eq_false_iff_eq.mpr c61
           clear c61
           have H' := Aside0.mk H
           clear H
           have hnb62 := NB622_611.out
           have hnc62 := NB611_622.out
           have hcz63_0 : w55.cell? ⟨gb622, 0, none⟩ = some (.int .i64 t615) := (blk_cell BK622.out 0).trans rfl
           have hcz63_1 : w55.cell? ⟨gb622, 1, none⟩ = some (.string t616) := (blk_cell BK622.out 1).trans rfl
           have hfz63_0 := blk_frozen BK622.out 0
           have hfz63_1 := blk_frozen BK622.out 1
           have hcz64_0 : w55.cell? ⟨gb611, 0, none⟩ = some (.int .i64 t604) := (blk_cell BK611.out 0).trans rfl
           have hcz64_1 : w55.cell? ⟨gb611, 1, none⟩ = some (.string t605) := (blk_cell BK611.out 1).trans rfl
           have hfz64_0 := blk_frozen BK611.out 0
           have hfz64_1 := blk_frozen BK611.out 1
           go_wp2_with (first | (go_at_call 53; (with_reducible refine (laws_eqHead.calls t615 t616 t604 t605 true _ A57.out).mono ?_); rintro e w65 ⟨rfl, hb⟩; have n0_ := Aside0.mk (Kd.R_below (by (with_reducible repeat (first | apply Kd.R_alloc | apply Kd.R_drewN | apply Kd.R_drew)); exact HO_6.out) hb); have n1_ := Aside0.mk (Kd.R_below (by (with_reducible repeat (first | apply Kd.R_alloc | apply Kd.R_drewN | apply Kd.R_drew)); exact HO_9.out) hb); have n2_ := Aside0.mk (Kd.R_below (by (with_reducible repeat (first | apply Kd.R_alloc | apply Kd.R_drewN | apply Kd.R_drew)); exact HO_11.out) hb); have n3_ := Aside0.mk (Kd.R_below (by (with_reducible repeat (first | apply Kd.R_alloc | apply Kd.R_drewN | apply Kd.R_drew)); exact HO627.out) hb); have n4_ := Aside0.mk (blk_below (g := gb611) (o := .cells #[.int .i64 t604, .string t605] 31 (0, 0)) (by (with_reducible repeat (first | refine blk_drewN ?_ _ | refine blk_drew ?_ | refine blk_alloc ?_ _)); exact BK611.out) hb); have n5_ := Aside0.mk (blk_below (g := gb622) (o := .cells #[.int .i64 t615, .string t616] 31 (0, 0)) (by (with_reducible repeat (first | refine blk_drewN ?_ _ | refine blk_drew ?_ | refine blk_alloc ?_ _)); exact BK622.out) hb); have n6_ := Aside0.mk (below_step (by repeat (first | (with_reducible first | exact HB.out | apply below_alloc | apply pw_below_drewN | apply below_drew1 | refine below_set ?_ GE611.out | refine below_set ?_ GE622.out) | exact HB.out)) hb); clear HO_6; clear HO_9; clear HO_11; clear HO627; clear BK611; clear BK622; clear HB; have HO_6 := n0_; have HO_9 := n1_; have HO_11 := n2_; have HO627 := n3_; have BK611 := n4_; have BK622 := n5_; have HB := n6_; clear n0_ n1_ n2_ n3_ n4_ n5_ n6_; (try clear hb); (try clear hb2); (try clear hk); (try clear hi); obtain ⟨Ao66, co66, eo66⟩ := Kd.R_slice HO_11.out; subst eo66; obtain ⟨Ao67, co67, eo67⟩ := Kd.R_slice HO_6.out; subst eo67) | (go_at_call 48; (with_reducible refine (laws_eqStringS.calls kj7 _ _ t617 _ _ t606 true _ ?side1 ?side2 ?side3 ?side4 A59.out).mono ?_); (case side1 => repeat (first | exact (Kd.R_reads' HO_11.out).2.2 | (with_reducible refine Kd.C_alloc ?_ _) | (with_reducible refine Kd.C_drewN ?_ _) | (with_reducible refine Kd.C_drew ?_))); (case side2 => exact (Kd.R_reads' HO_11.out).2.1); (case side3 => repeat (first | exact (Kd.R_reads' HO_6.out).2.2 | (with_reducible refine Kd.C_alloc ?_ _) | (with_reducible refine Kd.C_drewN ?_ _) | (with_reducible refine Kd.C_drew ?_))); (case side4 => exact (Kd.R_reads' HO_6.out).2.1); rintro e w' ⟨rfl, ⟨nd, rfl⟩⟩))
           go_meet
           case rel => exact ⟨_, ((t621 != t610)), (by first | rfl | (simp; done) | (simp [*]; done)), H', ⟨by have := HJ7.out; first | omega | exact Nat.le_refl _⟩, ⟨by (with_reducible repeat (first | apply Kd.R_alloc | apply Kd.R_drewN | apply Kd.R_drew)); exact HO_6.out⟩, ⟨by (with_reducible repeat (first | apply Kd.R_alloc | apply Kd.R_drewN | apply Kd.R_drew)); exact HO_11.out⟩, ⟨by (with_reducible repeat (first | refine blk_drewN ?_ _ | refine blk_drew ?_ | refine blk_alloc ?_ _)); exact BK611.out⟩, ⟨by (with_reducible repeat (first | refine blk_drewN ?_ _ | refine blk_drew ?_ | refine blk_alloc ?_ _)); exact BK622.out⟩, ⟨by repeat (first | (with_reducible first | exact HB.out | apply below_alloc | apply pw_below_drewN | apply below_drew1 | refine below_set ?_ GE611.out | refine below_set ?_ GE622.out) | exact HB.out)⟩⟩
          ·rw [if_neg c61] at H
           have c61b0 : (t620 == t609) = false := beq_eq_false_iff_ne.mpr c61
           have c61b1 : (t620 != t609) = true := bne_iff_ne.mpr c61
           have H' := Aside0.mk H
           clear H
           have hnb68 := NB622_611.out
           have hnc68 := NB611_622.out
           have hcz69_0 : w55.cell? ⟨gb622, 0, none⟩ = some (.int .i64 t615) := (blk_cell BK622.out 0).trans rfl
           have hcz69_1 : w55.cell? ⟨gb622, 1, none⟩ = some (.string t616) := (blk_cell BK622.out 1).trans rfl
           have hfz69_0 := blk_frozen BK622.out 0
           have hfz69_1 := blk_frozen BK622.out 1
           have hcz70_0 : w55.cell? ⟨gb611, 0, none⟩ = some (.int .i64 t604) := (blk_cell BK611.out 0).trans rfl
           have hcz70_1 : w55.cell? ⟨gb611, 1, none⟩ = some (.string t605) := (blk_cell BK611.out 1).trans rfl
           have hfz70_0 := blk_frozen BK611.out 0
           have hfz70_1 := blk_frozen BK611.out 1
           go_wp2_with (first | (go_at_call 53; (with_reducible refine (laws_eqHead.calls t615 t616 t604 t605 true _ A57.out).mono ?_); rintro e w71 ⟨rfl, hb⟩; have n0_ := Aside0.mk (Kd.R_below (by (with_reducible repeat (first | apply Kd.R_alloc | apply Kd.R_drewN | apply Kd.R_drew)); exact HO_6.out) hb); have n1_ := Aside0.mk (Kd.R_below (by (with_reducible repeat (first | apply Kd.R_alloc | apply Kd.R_drewN | apply Kd.R_drew)); exact HO_9.out) hb); have n2_ := Aside0.mk (Kd.R_below (by (with_reducible repeat (first | apply Kd.R_alloc | apply Kd.R_drewN | apply Kd.R_drew)); exact HO_11.out) hb); have n3_ := Aside0.mk (Kd.R_below (by (with_reducible repeat (first | apply Kd.R_alloc | apply Kd.R_drewN | apply Kd.R_drew)); exact HO627.out) hb); have n4_ := Aside0.mk (blk_below (g := gb611) (o := .cells #[.int .i64 t604, .string t605] 31 (0, 0)) (by (with_reducible repeat (first | refine blk_drewN ?_ _ | refine blk_drew ?_ | refine blk_alloc ?_ _)); exact BK611.out) hb); have n5_ := Aside0.mk (blk_below (g := gb622) (o := .cells #[.int .i64 t615, .string t616] 31 (0, 0)) (by (with_reducible repeat (first | refine blk_drewN ?_ _ | refine blk_drew ?_ | refine blk_alloc ?_ _)); exact BK622.out) hb); have n6_ := Aside0.mk (below_step (by repeat (first | (with_reducible first | exact HB.out | apply below_alloc | apply pw_below_drewN | apply below_drew1 | refine below_set ?_ GE611.out | refine below_set ?_ GE622.out) | exact HB.out)) hb); clear HO_6; clear HO_9; clear HO_11; clear HO627; clear BK611; clear BK622; clear HB; have HO_6 := n0_; have HO_9 := n1_; have HO_11 := n2_; have HO627 := n3_; have BK611 := n4_; have BK622 := n5_; have HB := n6_; clear n0_ n1_ n2_ n3_ n4_ n5_ n6_; (try clear hb); (try clear hb2); (try clear hk); (try clear hi); obtain ⟨Ao72, co72, eo72⟩ := Kd.R_slice HO_11.out; subst eo72; obtain ⟨Ao73, co73, eo73⟩ := Kd.R_slice HO_6.out; subst eo73) | (go_at_call 48; (with_reducible refine (laws_eqStringS.calls kj7 _ _ t617 _ _ t606 true _ ?side1 ?side2 ?side3 ?side4 A59.out).mono ?_); (case side1 => repeat (first | exact (Kd.R_reads' HO_11.out).2.2 | (with_reducible refine Kd.C_alloc ?_ _) | (with_reducible refine Kd.C_drewN ?_ _) | (with_reducible refine Kd.C_drew ?_))); (case side2 => exact (Kd.R_reads' HO_11.out).2.1); (case side3 => repeat (first | exact (Kd.R_reads' HO_6.out).2.2 | (with_reducible refine Kd.C_alloc ?_ _) | (with_reducible refine Kd.C_drewN ?_ _) | (with_reducible refine Kd.C_drew ?_))); (case side4 => exact (Kd.R_reads' HO_6.out).2.1); rintro e w' ⟨rfl, ⟨nd, rfl⟩⟩))
           go_meet
           case rel => exact ⟨_, (true), (by first | rfl | (simp; done) | (simp [*]; done)), H', ⟨by have := HJ7.out; first | omega | exact Nat.le_refl _⟩, ⟨by (with_reducible repeat (first | apply Kd.R_alloc | apply Kd.R_drewN | apply Kd.R_drew)); exact HO_6.out⟩, ⟨by (with_reducible repeat (first | apply Kd.R_alloc | apply Kd.R_drewN | apply Kd.R_drew)); exact HO_11.out⟩, ⟨by (with_reducible repeat (first | refine blk_drewN ?_ _ | refine blk_drew ?_ | refine blk_alloc ?_ _)); exact BK611.out⟩, ⟨by (with_reducible repeat (first | refine blk_drewN ?_ _ | refine blk_drew ?_ | refine blk_alloc ?_ _)); exact BK622.out⟩, ⟨by repeat (first | (with_reducible first | exact HB.out | apply below_alloc | apply pw_below_drewN | apply below_drew1 | refine below_set ?_ GE611.out | refine below_set ?_ GE622.out) | exact HB.out)⟩⟩
         ·replace c60 := Bool.eq_false_iff.mpr c60
          subst c60
          have H1 : (laws_FnExactGetCommit.j1 kj7 l0 a1 t606 t609 t610 t617 true t604 t605) = some r := by rw [if_neg (show ¬ (false = true) by decide)] at H; exact H
          clear H
          have H := H1
          clear H1
          have H' := Aside0.mk H
          clear H
          have hnb74 := NB622_611.out
          have hnc74 := NB611_622.out
          have hcz75_0 : w55.cell? ⟨gb622, 0, none⟩ = some (.int .i64 t615) := (blk_cell BK622.out 0).trans rfl
          have hcz75_1 : w55.cell? ⟨gb622, 1, none⟩ = some (.string t616) := (blk_cell BK622.out 1).trans rfl
          have hfz75_0 := blk_frozen BK622.out 0
          have hfz75_1 := blk_frozen BK622.out 1
          have hcz76_0 : w55.cell? ⟨gb611, 0, none⟩ = some (.int .i64 t604) := (blk_cell BK611.out 0).trans rfl
          have hcz76_1 : w55.cell? ⟨gb611, 1, none⟩ = some (.string t605) := (blk_cell BK611.out 1).trans rfl
          have hfz76_0 := blk_frozen BK611.out 0
          have hfz76_1 := blk_frozen BK611.out 1
          go_wp2_with (first | (go_at_call 53; (with_reducible refine (laws_eqHead.calls t615 t616 t604 t605 true _ A57.out).mono ?_); rintro e w77 ⟨rfl, hb⟩; have n0_ := Aside0.mk (Kd.R_below (by (with_reducible repeat (first | apply Kd.R_alloc | apply Kd.R_drewN | apply Kd.R_drew)); exact HO_6.out) hb); have n1_ := Aside0.mk (Kd.R_below (by (with_reducible repeat (first | apply Kd.R_alloc | apply Kd.R_drewN | apply Kd.R_drew)); exact HO_9.out) hb); have n2_ := Aside0.mk (Kd.R_below (by (with_reducible repeat (first | apply Kd.R_alloc | apply Kd.R_drewN | apply Kd.R_drew)); exact HO_11.out) hb); have n3_ := Aside0.mk (Kd.R_below (by (with_reducible repeat (first | apply Kd.R_alloc | apply Kd.R_drewN | apply Kd.R_drew)); exact HO627.out) hb); have n4_ := Aside0.mk (blk_below (g := gb611) (o := .cells #[.int .i64 t604, .string t605] 31 (0, 0)) (by (with_reducible repeat (first | refine blk_drewN ?_ _ | refine blk_drew ?_ | refine blk_alloc ?_ _)); exact BK611.out) hb); have n5_ := Aside0.mk (blk_below (g := gb622) (o := .cells #[.int .i64 t615, .string t616] 31 (0, 0)) (by (with_reducible repeat (first | refine blk_drewN ?_ _ | refine blk_drew ?_ | refine blk_alloc ?_ _)); exact BK622.out) hb); have n6_ := Aside0.mk (below_step (by repeat (first | (with_reducible first | exact HB.out | apply below_alloc | apply pw_below_drewN | apply below_drew1 | refine below_set ?_ GE611.out | refine below_set ?_ GE622.out) | exact HB.out)) hb); clear HO_6; clear HO_9; clear HO_11; clear HO627; clear BK611; clear BK622; clear HB; have HO_6 := n0_; have HO_9 := n1_; have HO_11 := n2_; have HO627 := n3_; have BK611 := n4_; have BK622 := n5_; have HB := n6_; clear n0_ n1_ n2_ n3_ n4_ n5_ n6_; (try clear hb); (try clear hb2); (try clear hk); (try clear hi); obtain ⟨Ao78, co78, eo78⟩ := Kd.R_slice HO_11.out; subst eo78; obtain ⟨Ao79, co79, eo79⟩ := Kd.R_slice HO_6.out; subst eo79) | (go_at_call 48; (with_reducible refine (laws_eqStringS.calls kj7 _ _ t617 _ _ t606 false _ ?side1 ?side2 ?side3 ?side4 A59.out).mono ?_); (case side1 => repeat (first | exact (Kd.R_reads' HO_11.out).2.2 | (with_reducible refine Kd.C_alloc ?_ _) | (with_reducible refine Kd.C_drewN ?_ _) | (with_reducible refine Kd.C_drew ?_))); (case side2 => exact (Kd.R_reads' HO_11.out).2.1); (case side3 => repeat (first | exact (Kd.R_reads' HO_6.out).2.2 | (with_reducible refine Kd.C_alloc ?_ _) | (with_reducible refine Kd.C_drewN ?_ _) | (with_reducible refine Kd.C_drew ?_))); (case side4 => exact (Kd.R_reads' HO_6.out).2.1); rintro e w' ⟨rfl, ⟨nd, rfl⟩⟩))
          go_meet
          case rel => exact ⟨_, (true), (by first | rfl | (simp; done) | (simp [*]; done)), H', ⟨by have := HJ7.out; first | omega | exact Nat.le_refl _⟩, ⟨by (with_reducible repeat (first | apply Kd.R_alloc | apply Kd.R_drewN | apply Kd.R_drew)); exact HO_6.out⟩, ⟨by (with_reducible repeat (first | apply Kd.R_alloc | apply Kd.R_drewN | apply Kd.R_drew)); exact HO_11.out⟩, ⟨by (with_reducible repeat (first | refine blk_drewN ?_ _ | refine blk_drew ?_ | refine blk_alloc ?_ _)); exact BK611.out⟩, ⟨by (with_reducible repeat (first | refine blk_drewN ?_ _ | refine blk_drew ?_ | refine blk_alloc ?_ _)); exact BK622.out⟩, ⟨by repeat (first | (with_reducible first | exact HB.out | apply below_alloc | apply pw_below_drewN | apply below_drew1 | refine below_set ?_ GE611.out | refine below_set ?_ GE622.out) | exact HB.out)⟩⟩
        ·replace c58 := Bool.eq_false_iff.mpr c58
         subst c58
         have H1 : (laws_FnExactGetCommit.j1 kj7 l0 a1 t606 t609 t610 t617 true t604 t605) = some r := by rw [if_neg (show ¬ (false = true) by decide)] at H; exact H
         clear H
         have H := H1
         clear H1
         have H' := Aside0.mk H
         clear H
         have hnb80 := NB622_611.out
         have hnc80 := NB611_622.out
         have hcz81_0 : w55.cell? ⟨gb622, 0, none⟩ = some (.int .i64 t615) := (blk_cell BK622.out 0).trans rfl
         have hcz81_1 : w55.cell? ⟨gb622, 1, none⟩ = some (.string t616) := (blk_cell BK622.out 1).trans rfl
         have hfz81_0 := blk_frozen BK622.out 0
         have hfz81_1 := blk_frozen BK622.out 1
         have hcz82_0 : w55.cell? ⟨gb611, 0, none⟩ = some (.int .i64 t604) := (blk_cell BK611.out 0).trans rfl
         have hcz82_1 : w55.cell? ⟨gb611, 1, none⟩ = some (.string t605) := (blk_cell BK611.out 1).trans rfl
         have hfz82_0 := blk_frozen BK611.out 0
         have hfz82_1 := blk_frozen BK611.out 1
         go_wp2_with (first | (go_at_call 53; (with_reducible refine (laws_eqHead.calls t615 t616 t604 t605 false _ A57.out).mono ?_); rintro e w83 ⟨rfl, hb⟩; have n0_ := Aside0.mk (Kd.R_below (by (with_reducible repeat (first | apply Kd.R_alloc | apply Kd.R_drewN | apply Kd.R_drew)); exact HO_6.out) hb); have n1_ := Aside0.mk (Kd.R_below (by (with_reducible repeat (first | apply Kd.R_alloc | apply Kd.R_drewN | apply Kd.R_drew)); exact HO_9.out) hb); have n2_ := Aside0.mk (Kd.R_below (by (with_reducible repeat (first | apply Kd.R_alloc | apply Kd.R_drewN | apply Kd.R_drew)); exact HO_11.out) hb); have n3_ := Aside0.mk (Kd.R_below (by (with_reducible repeat (first | apply Kd.R_alloc | apply Kd.R_drewN | apply Kd.R_drew)); exact HO627.out) hb); have n4_ := Aside0.mk (blk_below (g := gb611) (o := .cells #[.int .i64 t604, .string t605] 31 (0, 0)) (by (with_reducible repeat (first | refine blk_drewN ?_ _ | refine blk_drew ?_ | refine blk_alloc ?_ _)); exact BK611.out) hb); have n5_ := Aside0.mk (blk_below (g := gb622) (o := .cells #[.int .i64 t615, .string t616] 31 (0, 0)) (by (with_reducible repeat (first | refine blk_drewN ?_ _ | refine blk_drew ?_ | refine blk_alloc ?_ _)); exact BK622.out) hb); have n6_ := Aside0.mk (below_step (by repeat (first | (with_reducible first | exact HB.out | apply below_alloc | apply pw_below_drewN | apply below_drew1 | refine below_set ?_ GE611.out | refine below_set ?_ GE622.out) | exact HB.out)) hb); clear HO_6; clear HO_9; clear HO_11; clear HO627; clear BK611; clear BK622; clear HB; have HO_6 := n0_; have HO_9 := n1_; have HO_11 := n2_; have HO627 := n3_; have BK611 := n4_; have BK622 := n5_; have HB := n6_; clear n0_ n1_ n2_ n3_ n4_ n5_ n6_; (try clear hb); (try clear hb2); (try clear hk); (try clear hi)))
         go_meet
         case rel => exact ⟨_, (true), (by first | rfl | (simp; done) | (simp [*]; done)), H', ⟨by have := HJ7.out; first | omega | exact Nat.le_refl _⟩, ⟨by (with_reducible repeat (first | apply Kd.R_alloc | apply Kd.R_drewN | apply Kd.R_drew)); exact HO_6.out⟩, ⟨by (with_reducible repeat (first | apply Kd.R_alloc | apply Kd.R_drewN | apply Kd.R_drew)); exact HO_11.out⟩, ⟨by (with_reducible repeat (first | refine blk_drewN ?_ _ | refine blk_drew ?_ | refine blk_alloc ?_ _)); exact BK611.out⟩, ⟨by (with_reducible repeat (first | refine blk_drewN ?_ _ | refine blk_drew ?_ | refine blk_alloc ?_ _)); exact BK622.out⟩, ⟨by repeat (first | (with_reducible first | exact HB.out | apply below_alloc | apply pw_below_drewN | apply below_drew1 | refine below_set ?_ GE611.out | refine below_set ?_ GE622.out) | exact HB.out)⟩⟩
      case rest =>
       clear HC52
       try clear c1
       try clear c2
       try clear p2
       try clear c3
       try clear c3b0
       try clear c3b1
       try clear c4
       try clear c5
       try clear c6
       try clear c7
       try clear c8
       try clear c9
       try clear c18
       try clear c21
       try clear c23
       try clear c24
       try clear c24b0
       try clear c24b1
       try clear c25
       try clear c27
       try clear c31
       try clear c37
       try clear c39
       try clear c43
       try clear c47
       try clear c50
       try clear c52
       try clear c53
       try clear c56
       try clear c56b0
       try clear c58
       try clear c60
       try clear c61
       try clear c61b0
       try clear c61b1
       try clear c62
       try clear c68
       try clear c74
       try clear c80
       try clear hcz13_0
       try clear hcz13_1
       try clear hcz19_0
       try clear hcz19_1
       try clear hcz26_0
       try clear hcz26_1
       try clear hcz27_0
       try clear hcz27_1
       try clear hcz32_0
       try clear hcz32_1
       try clear hcz33_0
       try clear hcz33_1
       try clear hcz38_0
       try clear hcz38_1
       try clear hcz39_0
       try clear hcz39_1
       try clear hcz44_0
       try clear hcz44_1
       try clear hcz45_0
       try clear hcz45_1
       try clear hcz63_0
       try clear hcz63_1
       try clear hcz64_0
       try clear hcz64_1
       try clear hcz69_0
       try clear hcz69_1
       try clear hcz70_0
       try clear hcz70_1
       try clear hcz75_0
       try clear hcz75_1
       try clear hcz76_0
       try clear hcz76_1
       try clear hcz81_0
       try clear hcz81_1
       try clear hcz82_0
       try clear hcz82_1
       try clear hfz13_0
       try clear hfz13_1
       try clear hfz19_0
       try clear hfz19_1
       try clear hfz26_0
       try clear hfz26_1
       try clear hfz27_0
       try clear hfz27_1
       try clear hfz32_0
       try clear hfz32_1
       try clear hfz33_0
       try clear hfz33_1
       try clear hfz38_0
       try clear hfz38_1
       try clear hfz39_0
       try clear hfz39_1
       try clear hfz44_0
       try clear hfz44_1
       try clear hfz45_0
       try clear hfz45_1
       try clear hfz63_0
       try clear hfz63_1
       try clear hfz64_0
       try clear hfz64_1
       try clear hfz69_0
       try clear hfz69_1
       try clear hfz70_0
       try clear hfz70_1
       try clear hfz75_0
       try clear hfz75_1
       try clear hfz76_0
       try clear hfz76_1
       try clear hfz81_0
       try clear hfz81_1
       try clear hfz82_0
       try clear hfz82_1
       try clear p2
       obtain ⟨kq, x94_51, rfl, HA, HJ51, HO_6, HO_11, BK611, BK622, HB⟩ := hcut
       cases kq with
       | zero => exact absurd HA.out (by simp [laws_FnExactGetCommit.j1])
       | succ kj51 =>
        have H := HA.out
        clear HA
        simp only [laws_FnExactGetCommit.j1] at H
        by_cases c84 : x94_51 = true
        ·subst c84
         have H1 : (none) = some r := by rw [if_pos rfl] at H; exact H
         clear H
         have H := H1
         clear H1
         exact absurd H (by simp)
        ·replace c84 := Bool.eq_false_iff.mpr c84
         subst c84
         have H1 : ((laws_markStringS.f kj51 t617 1).bind fun bt633 => ((laws_heldStringS.f kj51 bt633.2 1).bind fun t635 => (if t635 < 0 then (none) else (if t635 = bt633.1 then ((laws_toByteS.f kj51 l0).bind fun t636 => ((impl_GetCommit.f kj51 t636 a1).bind fun bt639 => ((laws_eqHead.f bt639.1 bt639.2.1 t604 t605).bind fun t647 => (if t647 = true then ((laws_eqStringS.f kj51 bt639.2.2.1 t606).bind fun t648 => (if t648 = true then (if bt639.2.2.2.1 = t609 then (laws_FnExactGetCommit.j2 kj51 bt633.2 bt633.1 (bt639.2.2.2.2 != t610)) else (laws_FnExactGetCommit.j2 kj51 bt633.2 bt633.1 true)) else (laws_FnExactGetCommit.j2 kj51 bt633.2 bt633.1 true))) else (laws_FnExactGetCommit.j2 kj51 bt633.2 bt633.1 true))))) else (none))))) = some r := by rw [if_neg (show ¬ (false = true) by decide)] at H; exact H
         clear H
         have H := H1
         clear H1
         replace H := Option.bind_eq_some_iff.mp H
         obtain ⟨⟨t633, t634⟩, A850, H⟩ := H
         replace H : ((laws_heldStringS.f kj51 t634 1).bind fun t635 => (if t635 < 0 then (none) else (if t635 = t633 then ((laws_toByteS.f kj51 l0).bind fun t636 => ((impl_GetCommit.f kj51 t636 a1).bind fun bt639 => ((laws_eqHead.f bt639.1 bt639.2.1 t604 t605).bind fun t647 => (if t647 = true then ((laws_eqStringS.f kj51 bt639.2.2.1 t606).bind fun t648 => (if t648 = true then (if bt639.2.2.2.1 = t609 then (laws_FnExactGetCommit.j2 kj51 t634 t633 (bt639.2.2.2.2 != t610)) else (laws_FnExactGetCommit.j2 kj51 t634 t633 true)) else (laws_FnExactGetCommit.j2 kj51 t634 t633 true))) else (laws_FnExactGetCommit.j2 kj51 t634 t633 true))))) else (none)))) = some r := H
         have A85 := Aside0.mk A850
         clear A850
         replace H := Option.bind_eq_some_iff.mp H
         obtain ⟨t635, A860, H⟩ := H
         replace H : (if t635 < 0 then (none) else (if t635 = t633 then ((laws_toByteS.f kj51 l0).bind fun t636 => ((impl_GetCommit.f kj51 t636 a1).bind fun bt639 => ((laws_eqHead.f bt639.1 bt639.2.1 t604 t605).bind fun t647 => (if t647 = true then ((laws_eqStringS.f kj51 bt639.2.2.1 t606).bind fun t648 => (if t648 = true then (if bt639.2.2.2.1 = t609 then (laws_FnExactGetCommit.j2 kj51 t634 t633 (bt639.2.2.2.2 != t610)) else (laws_FnExactGetCommit.j2 kj51 t634 t633 true)) else (laws_FnExactGetCommit.j2 kj51 t634 t633 true))) else (laws_FnExactGetCommit.j2 kj51 t634 t633 true))))) else (none))) = some r := H
         have A86 := Aside0.mk A860
         clear A860
         by_cases c87 : t635 < 0
         ·rw [if_pos c87] at H
          exact absurd H (by simp)
         ·rw [if_neg c87] at H
          have c87b0 : decide (t635 < 0) = false := decide_eq_false c87
          clear c87
          by_cases c88 : t635 = t633
          ·rw [if_pos c88] at H
           have c88b0 : (t635 == t633) = true := beq_iff_eq.mpr c88
           have c88b1 : (t635 != t633) = false := bne_eq_false_iff_eq.mpr c88
           clear c88
           replace H := Option.bind_eq_some_iff.mp H
           obtain ⟨t636, A890, H⟩ := H
           replace H : ((impl_GetCommit.f kj51 t636 a1).bind fun bt639 => ((laws_eqHead.f bt639.1 bt639.2.1 t604 t605).bind fun t647 => (if t647 = true then ((laws_eqStringS.f kj51 bt639.2.2.1 t606).bind fun t648 => (if t648 = true then (if bt639.2.2.2.1 = t609 then (laws_FnExactGetCommit.j2 kj51 t634 t633 (bt639.2.2.2.2 != t610)) else (laws_FnExactGetCommit.j2 kj51 t634 t633 true)) else (laws_FnExactGetCommit.j2 kj51 t634 t633 true))) else (laws_FnExactGetCommit.j2 kj51 t634 t633 true)))) = some r := H
           have A89 := Aside0.mk A890
           clear A890
           replace H := Option.bind_eq_some_iff.mp H
           obtain ⟨⟨t639, t640, t641, t644, t645⟩, A900, H⟩ := H
           replace H : ((laws_eqHead.f t639 t640 t604 t605).bind fun t647 => (if t647 = true then ((laws_eqStringS.f kj51 t641 t606).bind fun t648 => (if t648 = true then (if t644 = t609 then (laws_FnExactGetCommit.j2 kj51 t634 t633 (t645 != t610)) else (laws_FnExactGetCommit.j2 kj51 t634 t633 true)) else (laws_FnExactGetCommit.j2 kj51 t634 t633 true))) else (laws_FnExactGetCommit.j2 kj51 t634 t633 true))) = some r := H
           have A90 := Aside0.mk A900
           clear A900
           have HC91 := Aside0.mk H
           clear H
           obtain ⟨Ao92, co92, eo92⟩ := Kd.R_slice HO_11.out
           subst eo92
           go_upto_region 23 with (first | ((with_reducible refine gate_callee (f := 50) rfl ?_); refine goesL_ (some 97) rfl rfl Try.func50 (by kernel_rfl) rfl #[.slice Ao92 t617.length co92, .int .i64 1] rfl (by (try simp only [List.map_toArray, List.map_cons, List.map_nil]); first | done | rfl | (simp only [List.length_drop, List.length_take]; rfl)) ?_; (with_reducible refine (laws_markStringS.calls kj51 (fun k_ => some k_ = (.slice Ao92 t617.length co92 : Value).ownBlock) (.slice Ao92 t617.length co92) t617 1 t633 t634 w _ ?side1 ?side2 A85.out).mono ?_); (case side1 => repeat (first | (with_reducible first | exact HB.out | apply below_alloc | apply pw_below_drewN | apply below_drew1 | refine below_set ?_ GE611.out | refine below_set ?_ GE622.out) | exact HB.out)); (case side2 => exact Kd.R_tight rfl HO_11.out); rintro e w93 ⟨rfl, hy0, hb, hkp⟩; refine ⟨_, rfl, ?_⟩; have n0_ := Aside0.mk (Kd.R_mono (ok' := fun k_ => some k_ ≠ (.slice Ao92 t617.length co92 : Value).ownBlock) (Kd.R_keptB (HO_6.out) hkp (fun k_ hk_ hs_ => (hk_) hs_)) (fun k_ hk_ => hk_.1)); have n1_ := Aside0.mk (Kd.R_reok rfl hy0 (fun k_ e_ => HO_11.out.1 k_ e_)); have n2_ := Aside0.mk (blk_kept (by (with_reducible repeat (first | refine blk_drewN ?_ _ | refine blk_drew ?_ | refine blk_alloc ?_ _)); exact BK611.out) hkp (fun hs_ => (fun e_ => (Kd.R_ne HO_11.out BK611.out (by decide)) e_) hs_)); have n3_ := Aside0.mk (blk_kept (by (with_reducible repeat (first | refine blk_drewN ?_ _ | refine blk_drew ?_ | refine blk_alloc ?_ _)); exact BK622.out) hkp (fun hs_ => (fun e_ => (Kd.R_ne HO_11.out BK622.out (by decide)) e_) hs_)); have n4_ := Aside0.mk (hb); clear HO_6; clear HO_11; clear BK611; clear BK622; clear HB; have HO_6 := n0_; have HO_11 := n1_; have BK611 := n2_; have BK622 := n3_; have HB := n4_; clear n0_ n1_ n2_ n3_ n4_; (try clear hb); (try clear hkp); (try clear hy0)) | ((with_reducible refine gate_callee (f := 54) rfl ?_); refine goesL_ (some 100) rfl rfl Try.func54 (by kernel_rfl) rfl #[.slice Ao92 t634.length co92, .int .i64 1] rfl (by (try simp only [List.map_toArray, List.map_cons, List.map_nil]); first | done | (rw [show t634.length = t617.length from (Kd.R_reads' HO_11.out).1.symm] <;> rfl) | rfl | (simp only [List.length_drop, List.length_take]; rfl)) ?_; (with_reducible refine (laws_heldStringS.calls kj51 _ _ t634 1 t635 _ ?side1 ?side2 A86.out).mono ?_); (case side1 => repeat (first | exact (Kd.R_reads' HO_11.out).2.2 | (with_reducible refine Kd.C_alloc ?_ _) | (with_reducible refine Kd.C_drewN ?_ _) | (with_reducible refine Kd.C_drew ?_))); (case side2 => rw [show t634.length = t617.length from (Kd.R_reads' HO_11.out).1.symm]; exact (Kd.R_reads' HO_11.out).2.1); rintro e w94 ⟨rfl, hb⟩; refine ⟨_, rfl, ?_⟩; have n0_ := Aside0.mk (Kd.R_below (by (with_reducible repeat (first | apply Kd.R_alloc | apply Kd.R_drewN | apply Kd.R_drew)); exact HO_6.out) hb); have n1_ := Aside0.mk (Kd.R_below (by (with_reducible repeat (first | apply Kd.R_alloc | apply Kd.R_drewN | apply Kd.R_drew)); exact HO_11.out) hb); have n2_ := Aside0.mk (blk_below (g := gb611) (o := .cells #[.int .i64 t604, .string t605] 31 (0, 0)) (by (with_reducible repeat (first | refine blk_drewN ?_ _ | refine blk_drew ?_ | refine blk_alloc ?_ _)); exact BK611.out) hb); have n3_ := Aside0.mk (blk_below (g := gb622) (o := .cells #[.int .i64 t615, .string t616] 31 (0, 0)) (by (with_reducible repeat (first | refine blk_drewN ?_ _ | refine blk_drew ?_ | refine blk_alloc ?_ _)); exact BK622.out) hb); have n4_ := Aside0.mk (below_step (by repeat (first | (with_reducible first | exact HB.out | apply below_alloc | apply pw_below_drewN | apply below_drew1 | refine below_set ?_ GE611.out | refine below_set ?_ GE622.out) | exact HB.out)) hb); clear HO_6; clear HO_11; clear BK611; clear BK622; clear HB; have HO_6 := n0_; have HO_11 := n1_; have BK611 := n2_; have BK622 := n3_; have HB := n4_; clear n0_ n1_ n2_ n3_ n4_; (try clear hb); (try clear hb2); (try clear hk); (try clear hi)) | ((with_reducible refine gate_callee (f := 27) rfl ?_); refine goesL_ (some 108) rfl rfl Try.func27 (by kernel_rfl) rfl #[.slice A0 l0.length c0] rfl (by (try simp only [List.map_toArray, List.map_cons, List.map_nil]); first | done | rfl | (simp only [List.length_drop, List.length_take]; rfl)) ?_; (with_reducible refine (laws_toByteS.calls kj51 _ _ l0 t636 _ ?side1 ?side2 A89.out).mono ?_); (case side1 => repeat (first | exact (Kd.C_below HR0.out HB.out) | (with_reducible refine Kd.C_alloc ?_ _) | (with_reducible refine Kd.C_drewN ?_ _) | (with_reducible refine Kd.C_drew ?_))); (case side2 => exact HC0.out); rintro e w95 ⟨v637, rfl, ho0, hb⟩; refine ⟨_, rfl, ?_⟩; have n0_ := Aside0.mk (Kd.R_below (by (with_reducible repeat (first | apply Kd.R_alloc | apply Kd.R_drewN | apply Kd.R_drew)); exact HO_6.out) hb); have n1_ := Aside0.mk (Kd.R_below (by (with_reducible repeat (first | apply Kd.R_alloc | apply Kd.R_drewN | apply Kd.R_drew)); exact HO_11.out) hb); have n2_ := Aside0.mk (Kd.R_lower ho0 (below_size (by repeat (first | (with_reducible first | exact HB.out | apply below_alloc | apply pw_below_drewN | apply below_drew1 | refine below_set ?_ GE611.out | refine below_set ?_ GE622.out) | exact HB.out)))); have n3_ := Aside0.mk (blk_below (g := gb611) (o := .cells #[.int .i64 t604, .string t605] 31 (0, 0)) (by (with_reducible repeat (first | refine blk_drewN ?_ _ | refine blk_drew ?_ | refine blk_alloc ?_ _)); exact BK611.out) hb); have n4_ := Aside0.mk (blk_below (g := gb622) (o := .cells #[.int .i64 t615, .string t616] 31 (0, 0)) (by (with_reducible repeat (first | refine blk_drewN ?_ _ | refine blk_drew ?_ | refine blk_alloc ?_ _)); exact BK622.out) hb); have n5_ := Aside0.mk (below_step (by repeat (first | (with_reducible first | exact HB.out | apply below_alloc | apply pw_below_drewN | apply below_drew1 | refine below_set ?_ GE611.out | refine below_set ?_ GE622.out) | exact HB.out)) hb); clear HO_6; clear HO_11; clear BK611; clear BK622; clear HB; have HO_6 := n0_; have HO_11 := n1_; have HO638 := n2_; have BK611 := n3_; have BK622 := n4_; have HB := n5_; clear n0_ n1_ n2_ n3_ n4_ n5_; (try clear hb); (try clear hb2); (try clear hk); (try clear hi); (try clear ho0); obtain ⟨Ao96, co96, eo96⟩ := Kd.R_slice HO638.out; subst eo96) | ((with_reducible refine gate_callee (f := 39) rfl ?_); refine goesL_ (some 110) rfl rfl Try.func39 (by kernel_rfl) rfl #[.slice Ao96 t636.length co96, .int .i64 a1] rfl (by (try simp only [List.map_toArray, List.map_cons, List.map_nil]); first | done | rfl | (simp only [List.length_drop, List.length_take]; rfl)) ?_; (with_reducible refine (impl_GetCommit.calls kj51 _ _ t636 a1 t639 t640 t641 t644 t645 _ ?side1 ?side2 A90.out).mono ?_); (case side1 => repeat (first | exact (Kd.R_reads' HO638.out).2.2 | (with_reducible refine Kd.C_alloc ?_ _) | (with_reducible refine Kd.C_drewN ?_ _) | (with_reducible refine Kd.C_drew ?_))); (case side2 => exact (Kd.R_reads' HO638.out).2.1); rintro e w97 ⟨v642, rfl, ho0, hb⟩; refine ⟨_, rfl, ?_⟩; have n0_ := Aside0.mk (Kd.R_elder' (by (with_reducible repeat (first | apply Kd.R_alloc | apply Kd.R_drewN | apply Kd.R_drew)); exact HO_6.out) (Kd.R_base ho0) hb); have n1_ := Aside0.mk (Kd.R_elder' (by (with_reducible repeat (first | apply Kd.R_alloc | apply Kd.R_drewN | apply Kd.R_drew)); exact HO_11.out) (Kd.R_base ho0) hb); have n2_ := Aside0.mk (Kd.R_below (by (with_reducible repeat (first | apply Kd.R_alloc | apply Kd.R_drewN | apply Kd.R_drew)); exact HO638.out) hb); have n3_ := Aside0.mk (Kd.R_lower (Kd.R_new' (Kd.R_new' ho0 (Kd.R_lt (by (with_reducible repeat (first | apply Kd.R_alloc | apply Kd.R_drewN | apply Kd.R_drew)); exact HO_6.out))) (Kd.R_lt (by (with_reducible repeat (first | apply Kd.R_alloc | apply Kd.R_drewN | apply Kd.R_drew)); exact HO_11.out))) (below_size (by repeat (first | (with_reducible first | exact HB.out | apply below_alloc | apply pw_below_drewN | apply below_drew1 | refine below_set ?_ GE611.out | refine below_set ?_ GE622.out) | exact HB.out)))); have n4_ := Aside0.mk (blk_below (g := gb611) (o := .cells #[.int .i64 t604, .string t605] 31 (0, 0)) (by (with_reducible repeat (first | refine blk_drewN ?_ _ | refine blk_drew ?_ | refine blk_alloc ?_ _)); exact BK611.out) hb); have n5_ := Aside0.mk (blk_below (g := gb622) (o := .cells #[.int .i64 t615, .string t616] 31 (0, 0)) (by (with_reducible repeat (first | refine blk_drewN ?_ _ | refine blk_drew ?_ | refine blk_alloc ?_ _)); exact BK622.out) hb); have n6_ := Aside0.mk (below_step (by repeat (first | (with_reducible first | exact HB.out | apply below_alloc | apply pw_below_drewN | apply below_drew1 | refine below_set ?_ GE611.out | refine below_set ?_ GE622.out) | exact HB.out)) hb); clear HO_6; clear HO_11; clear HO638; clear BK611; clear BK622; clear HB; have HO_6 := n0_; have HO_11 := n1_; have HO638 := n2_; have HO643 := n3_; have BK611 := n4_; have BK622 := n5_; have HB := n6_; clear n0_ n1_ n2_ n3_ n4_ n5_ n6_; (try clear hb); (try clear hb2); (try clear hk); (try clear hi); (try clear ho0)) | ((with_reducible refine gate_dst (N := 17) rfl ?_); refine box_event ?hg (N := 17) ?hd (cs := #[.int .i64 0, .string (⟨#[]⟩ : ByteArray)]) (t := 31) ?hr ?_; (case hd => rfl); (case hg => rfl); (case hr => first | (go_simp; done) | (go_simp; rfl)); intro gb646 hg w98 hbox hb; have n0_ := Aside0.mk (Kd.R_below (by (with_reducible repeat (first | apply Kd.R_alloc | apply Kd.R_drewN | apply Kd.R_drew)); exact HO_6.out) hb); have n1_ := Aside0.mk (Kd.R_below (by (with_reducible repeat (first | apply Kd.R_alloc | apply Kd.R_drewN | apply Kd.R_drew)); exact HO_11.out) hb); have n2_ := Aside0.mk (Kd.R_below (by (with_reducible repeat (first | apply Kd.R_alloc | apply Kd.R_drewN | apply Kd.R_drew)); exact HO638.out) hb); have n3_ := Aside0.mk (Kd.R_below (by (with_reducible repeat (first | apply Kd.R_alloc | apply Kd.R_drewN | apply Kd.R_drew)); exact HO643.out) hb); have n4_ := Aside0.mk (blk_below (g := gb611) (o := .cells #[.int .i64 t604, .string t605] 31 (0, 0)) (by (with_reducible repeat (first | refine blk_drewN ?_ _ | refine blk_drew ?_ | refine blk_alloc ?_ _)); exact BK611.out) hb); have n5_ := Aside0.mk (blk_below (g := gb622) (o := .cells #[.int .i64 t615, .string t616] 31 (0, 0)) (by (with_reducible repeat (first | refine blk_drewN ?_ _ | refine blk_drew ?_ | refine blk_alloc ?_ _)); exact BK622.out) hb); have n6_ := Aside0.mk (below_step (by repeat (first | (with_reducible first | exact HB.out | apply below_alloc | apply pw_below_drewN | apply below_drew1 | refine below_set ?_ GE611.out | refine below_set ?_ GE622.out) | exact HB.out)) hb); have n7_ := Aside0.mk (hbox); have n8_ := Aside0.mk ((by rw [hg]; exact (below_size (by repeat (first | (with_reducible first | exact HB.out | apply below_alloc | apply pw_below_drewN | apply below_drew1 | refine below_set ?_ GE611.out | refine below_set ?_ GE622.out) | exact HB.out))) : w.heap.size ≤ gb646)); have n9_ := Aside0.mk ((by rw [hg]; exact (below_size (by repeat (first | (with_reducible first | exact HB.out | apply below_alloc | apply pw_below_drewN | apply below_drew1 | refine below_set ?_ GE611.out | refine below_set ?_ GE622.out) | exact HB.out))) : w.heap.size ≤ gb646)); have n10_ := Aside0.mk ((by rw [hg]; exact Nat.ne_of_lt (blk_lt (g := gb611) (o := .cells #[.int .i64 t604, .string t605] 31 (0, 0)) (by (with_reducible repeat (first | refine blk_drewN ?_ _ | refine blk_drew ?_ | refine blk_alloc ?_ _)); exact BK611.out)) : gb611 ≠ gb646)); have n11_ := Aside0.mk ((by rw [hg]; exact Nat.ne_of_gt (blk_lt (g := gb611) (o := .cells #[.int .i64 t604, .string t605] 31 (0, 0)) (by (with_reducible repeat (first | refine blk_drewN ?_ _ | refine blk_drew ?_ | refine blk_alloc ?_ _)); exact BK611.out)) : gb646 ≠ gb611)); have n12_ := Aside0.mk ((by rw [hg]; exact Nat.ne_of_lt (blk_lt (g := gb622) (o := .cells #[.int .i64 t615, .string t616] 31 (0, 0)) (by (with_reducible repeat (first | refine blk_drewN ?_ _ | refine blk_drew ?_ | refine blk_alloc ?_ _)); exact BK622.out)) : gb622 ≠ gb646)); have n13_ := Aside0.mk ((by rw [hg]; exact Nat.ne_of_gt (blk_lt (g := gb622) (o := .cells #[.int .i64 t615, .string t616] 31 (0, 0)) (by (with_reducible repeat (first | refine blk_drewN ?_ _ | refine blk_drew ?_ | refine blk_alloc ?_ _)); exact BK622.out)) : gb646 ≠ gb622)); clear HO_6; clear HO_11; clear HO638; clear HO643; clear BK611; clear BK622; clear HB; have HO_6 := n0_; have HO_11 := n1_; have HO638 := n2_; have HO643 := n3_; have BK611 := n4_; have BK622 := n5_; have HB := n6_; have BK646 := n7_; have GW646 := n8_; have GE646 := n9_; have NB611_646 := n10_; have NB646_611 := n11_; have NB622_646 := n12_; have NB646_622 := n13_; clear n0_ n1_ n2_ n3_ n4_ n5_ n6_ n7_ n8_ n9_ n10_ n11_ n12_ n13_; clear hb hbox hg; have hnb99 := NB646_611.out; have hnc99 := NB611_646.out; have hnb100 := NB646_622.out; have hnc100 := NB622_646.out; have hcz101_0 : w98.cell? ⟨gb646, 0, none⟩ = some (.int .i64 0) := (blk_cell BK646.out 0).trans rfl; have hcz101_1 : w98.cell? ⟨gb646, 1, none⟩ = some (.string (⟨#[]⟩ : ByteArray)) := (blk_cell BK646.out 1).trans rfl; have hfz101_0 := blk_frozen BK646.out 0; have hfz101_1 := blk_frozen BK646.out 1))
           (try simp only [Act.put, List.setIfInBounds_toArray, List.set_cons_zero, List.set_cons_succ])
           go_cut [134] (fun v134 wc => ∃ (kq : Nat) (x134_90 : Bool), v134 = .bool x134_90 ∧ Aside0 (laws_FnExactGetCommit.j2 kq t634 t633 x134_90 = some r) ∧ Aside0 (kq ≤ kj51) ∧ Aside0 (Kd.R Kd.string 9 wc w.heap.size (fun _ => True) (.slice Ao92 t617.length co92) t634) ∧ Aside0 (wc.heap[gb611]? = some (.cells #[.int .i64 t604, .string t605] 31 (0, 0))) ∧ Aside0 (wc.heap[gb622]? = some (.cells #[.int .i64 t615, .string t616] 31 (0, 0))) ∧ Aside0 (wc.heap[gb646]? = some (.cells #[.int .i64 t639, .string t640] 31 (0, 0))) ∧ Aside0 (Below w.heap.size w wc))
           case first =>
            have H := HC91.out
            clear HC91
            replace H := Option.bind_eq_some_iff.mp H
            obtain ⟨t647, A1020, H⟩ := H
            replace H : (if t647 = true then ((laws_eqStringS.f kj51 t641 t606).bind fun t648 => (if t648 = true then (if t644 = t609 then (laws_FnExactGetCommit.j2 kj51 t634 t633 (t645 != t610)) else (laws_FnExactGetCommit.j2 kj51 t634 t633 true)) else (laws_FnExactGetCommit.j2 kj51 t634 t633 true))) else (laws_FnExactGetCommit.j2 kj51 t634 t633 true)) = some r := H
            have A102 := Aside0.mk A1020
            clear A1020
            by_cases c103 : t647 = true
            ·subst c103
             have H1 : ((laws_eqStringS.f kj51 t641 t606).bind fun t648 => (if t648 = true then (if t644 = t609 then (laws_FnExactGetCommit.j2 kj51 t634 t633 (t645 != t610)) else (laws_FnExactGetCommit.j2 kj51 t634 t633 true)) else (laws_FnExactGetCommit.j2 kj51 t634 t633 true))) = some r := by rw [if_pos rfl] at H; exact H
             clear H
             have H := H1
             clear H1
             replace H := Option.bind_eq_some_iff.mp H
             obtain ⟨t648, A1040, H⟩ := H
             replace H : (if t648 = true then (if t644 = t609 then (laws_FnExactGetCommit.j2 kj51 t634 t633 (t645 != t610)) else (laws_FnExactGetCommit.j2 kj51 t634 t633 true)) else (laws_FnExactGetCommit.j2 kj51 t634 t633 true)) = some r := H
             have A104 := Aside0.mk A1040
             clear A1040
             by_cases c105 : t648 = true
             ·subst c105
              have H1 : (if t644 = t609 then (laws_FnExactGetCommit.j2 kj51 t634 t633 (t645 != t610)) else (laws_FnExactGetCommit.j2 kj51 t634 t633 true)) = some r := by rw [if_pos rfl] at H; exact H
              clear H
              have H := H1
              clear H1
              by_cases c106 : t644 = t609
              ·rw [if_pos c106] at H
               have c106b0 : (t644 == t609) = true := beq_iff_eq.mpr c106
               have c106b1 : (t644 != t609) = false := bne_eq_false_iff_eq.mpr c106
               clear c106
               (first | rw [c106b0] | (simp only [i64_w, i32_w]; rw [c106b0]) | skip)
               have H' := Aside0.mk H
               clear H
               have hnb107 := NB646_611.out
               have hnc107 := NB611_646.out
               have hnb108 := NB646_622.out
               have hnc108 := NB622_646.out
               have hcz109_0 : w98.cell? ⟨gb646, 0, none⟩ = some (.int .i64 0) := (blk_cell BK646.out 0).trans rfl
               have hcz109_1 : w98.cell? ⟨gb646, 1, none⟩ = some (.string (⟨#[]⟩ : ByteArray)) := (blk_cell BK646.out 1).trans rfl
               have hfz109_0 := blk_frozen BK646.out 0
               have hfz109_1 := blk_frozen BK646.out 1
               have hnb110 := NB611_622.out
               have hnc110 := NB622_611.out
               have hcz111_0 : w98.cell? ⟨gb611, 0, none⟩ = some (.int .i64 t604) := (blk_cell BK611.out 0).trans rfl
               have hcz111_1 : w98.cell? ⟨gb611, 1, none⟩ = some (.string t605) := (blk_cell BK611.out 1).trans rfl
               have hfz111_0 := blk_frozen BK611.out 0
               have hfz111_1 := blk_frozen BK611.out 1
               go_wp2_with (first | ((with_reducible refine gate_callee (f := 53) rfl ?_); refine goesL_ (some 117) rfl rfl Try.func53 (by kernel_rfl) rfl #[.agg #[.int .i64 t639, .string t640], .agg #[.int .i64 t604, .string t605]] rfl (by (try simp only [List.map_toArray, List.map_cons, List.map_nil]); first | done | rfl | (simp only [List.length_drop, List.length_take]; rfl)) ?_; (with_reducible refine (laws_eqHead.calls t639 t640 t604 t605 true _ A102.out).mono ?_); rintro e w112 ⟨rfl, hb⟩; refine ⟨_, rfl, ?_⟩; have n0_ := Aside0.mk (Kd.R_below (by (with_reducible repeat (first | apply Kd.R_alloc | apply Kd.R_drewN | apply Kd.R_drew)); exact (Kd.R_mono (Kd.R_far (p := ⟨gb646, 1, none⟩) (Kd.R_far (p := ⟨gb646, 0, none⟩) (Kd.R_types HO_6.out BK646.out (by decide)) (fun _ hk => hk.2) (.int .i64 t639)) (fun _ hk => hk.2) (.string t640)) (fun _ h_ => h_.1))) hb); have n1_ := Aside0.mk (Kd.R_below (by (with_reducible repeat (first | apply Kd.R_alloc | apply Kd.R_drewN | apply Kd.R_drew)); exact (Kd.R_mono (Kd.R_far (p := ⟨gb646, 1, none⟩) (Kd.R_far (p := ⟨gb646, 0, none⟩) (Kd.R_types HO_11.out BK646.out (by decide)) (fun _ hk => hk.2) (.int .i64 t639)) (fun _ hk => hk.2) (.string t640)) (fun _ h_ => h_.1))) hb); have n2_ := Aside0.mk (Kd.R_below (by (with_reducible repeat (first | apply Kd.R_alloc | apply Kd.R_drewN | apply Kd.R_drew)); exact (Kd.R_mono (Kd.R_far (p := ⟨gb646, 1, none⟩) (Kd.R_far (p := ⟨gb646, 0, none⟩) (Kd.R_types HO638.out BK646.out (by decide)) (fun _ hk => hk.2) (.int .i64 t639)) (fun _ hk => hk.2) (.string t640)) (fun _ h_ => h_.1))) hb); have n3_ := Aside0.mk (Kd.R_below (by (with_reducible repeat (first | apply Kd.R_alloc | apply Kd.R_drewN | apply Kd.R_drew)); exact (Kd.R_mono (Kd.R_far (p := ⟨gb646, 1, none⟩) (Kd.R_far (p := ⟨gb646, 0, none⟩) (Kd.R_types HO643.out BK646.out (by decide)) (fun _ hk => hk.2) (.int .i64 t639)) (fun _ hk => hk.2) (.string t640)) (fun _ h_ => h_.1))) hb); have n4_ := Aside0.mk (blk_below (g := gb611) (o := .cells #[.int .i64 t604, .string t605] 31 (0, 0)) (by (with_reducible repeat (first | refine blk_drewN ?_ _ | refine blk_drew ?_ | refine blk_alloc ?_ _)); refine blk_far ?_ NB611_646.out _; (with_reducible repeat (first | refine blk_drewN ?_ _ | refine blk_drew ?_ | refine blk_alloc ?_ _)); refine blk_far ?_ NB611_646.out _; (with_reducible repeat (first | refine blk_drewN ?_ _ | refine blk_drew ?_ | refine blk_alloc ?_ _)); exact BK611.out) hb); have n5_ := Aside0.mk (blk_below (g := gb622) (o := .cells #[.int .i64 t615, .string t616] 31 (0, 0)) (by (with_reducible repeat (first | refine blk_drewN ?_ _ | refine blk_drew ?_ | refine blk_alloc ?_ _)); refine blk_far ?_ NB622_646.out _; (with_reducible repeat (first | refine blk_drewN ?_ _ | refine blk_drew ?_ | refine blk_alloc ?_ _)); refine blk_far ?_ NB622_646.out _; (with_reducible repeat (first | refine blk_drewN ?_ _ | refine blk_drew ?_ | refine blk_alloc ?_ _)); exact BK622.out) hb); have n6_ := Aside0.mk (blk_below (g := gb646) (o := .cells #[.int .i64 t639, .string t640] 31 (0, 0)) (by (with_reducible repeat (first | refine blk_drewN ?_ _ | refine blk_drew ?_ | refine blk_alloc ?_ _)); refine blk_put (cs := #[.int .i64 t639, .string (⟨#[]⟩ : ByteArray)]) ?_ 1 _ rfl; (with_reducible repeat (first | refine blk_drewN ?_ _ | refine blk_drew ?_ | refine blk_alloc ?_ _)); refine blk_put (cs := #[.int .i64 0, .string (⟨#[]⟩ : ByteArray)]) ?_ 0 _ rfl; (with_reducible repeat (first | refine blk_drewN ?_ _ | refine blk_drew ?_ | refine blk_alloc ?_ _)); exact BK646.out) hb); have n7_ := Aside0.mk (below_step (by repeat (first | (with_reducible first | exact HB.out | apply below_alloc | apply pw_below_drewN | apply below_drew1 | refine below_set ?_ GE611.out | refine below_set ?_ GE622.out | refine below_set ?_ GE646.out) | exact HB.out)) hb); clear HO_6; clear HO_11; clear HO638; clear HO643; clear BK611; clear BK622; clear BK646; clear HB; have HO_6 := n0_; have HO_11 := n1_; have HO638 := n2_; have HO643 := n3_; have BK611 := n4_; have BK622 := n5_; have BK646 := n6_; have HB := n7_; clear n0_ n1_ n2_ n3_ n4_ n5_ n6_ n7_; (try clear hb); (try clear hb2); (try clear hk); (try clear hi); obtain ⟨Ao113, co113, eo113⟩ := Kd.R_slice HO643.out; subst eo113; obtain ⟨Ao114, co114, eo114⟩ := Kd.R_slice HO_6.out; subst eo114) | (go_at_call 48; (with_reducible refine (laws_eqStringS.calls kj51 _ _ t641 _ _ t606 true _ ?side1 ?side2 ?side3 ?side4 A104.out).mono ?_); (case side1 => repeat (first | exact (Kd.R_reads' HO643.out).2.2 | (with_reducible refine Kd.C_alloc ?_ _) | (with_reducible refine Kd.C_drewN ?_ _) | (with_reducible refine Kd.C_drew ?_))); (case side2 => exact (Kd.R_reads' HO643.out).2.1); (case side3 => repeat (first | exact (Kd.R_reads' HO_6.out).2.2 | (with_reducible refine Kd.C_alloc ?_ _) | (with_reducible refine Kd.C_drewN ?_ _) | (with_reducible refine Kd.C_drew ?_))); (case side4 => exact (Kd.R_reads' HO_6.out).2.1); rintro e w' ⟨rfl, ⟨nd, rfl⟩⟩))
               go_meet
               case rel => exact ⟨_, ((t645 != t610)), (by first | rfl | (simp; done) | (simp [*]; done)), H', ⟨by have := HJ7.out; have := HJ51.out; first | omega | exact Nat.le_refl _⟩, ⟨by (with_reducible repeat (first | apply Kd.R_alloc | apply Kd.R_drewN | apply Kd.R_drew)); exact Kd.R_mono HO_11.out (fun _ hk => trivial)⟩, ⟨by (with_reducible repeat (first | refine blk_drewN ?_ _ | refine blk_drew ?_ | refine blk_alloc ?_ _)); exact BK611.out⟩, ⟨by (with_reducible repeat (first | refine blk_drewN ?_ _ | refine blk_drew ?_ | refine blk_alloc ?_ _)); exact BK622.out⟩, ⟨by (with_reducible repeat (first | refine blk_drewN ?_ _ | refine blk_drew ?_ | refine blk_alloc ?_ _)); exact BK646.out⟩, ⟨by repeat (first | (with_reducible first | exact HB.out | apply below_alloc | apply pw_below_drewN | apply below_drew1 | refine below_set ?_ GE611.out | refine below_set ?_ GE622.out | refine below_set ?_ GE646.out) | exact HB.out)⟩⟩
              ·rw [if_neg c106] at H
               have c106b0 : (t644 == t609) = false := beq_eq_false_iff_ne.mpr c106
               have c106b1 : (t644 != t609) = true := bne_iff_ne.mpr c106
               (first | rw [c106b0] | (simp only [i64_w, i32_w]; rw [c106b0]) | skip)
               have H' := Aside0.mk H
               clear H
               have hnb115 := NB646_611.out
               have hnc115 := NB611_646.out
               have hnb116 := NB646_622.out
               have hnc116 := NB622_646.out
               have hcz117_0 : w98.cell? ⟨gb646, 0, none⟩ = some (.int .i64 0) := (blk_cell BK646.out 0).trans rfl
               have hcz117_1 : w98.cell? ⟨gb646, 1, none⟩ = some (.string (⟨#[]⟩ : ByteArray)) := (blk_cell BK646.out 1).trans rfl
               have hfz117_0 := blk_frozen BK646.out 0
               have hfz117_1 := blk_frozen BK646.out 1
               have hnb118 := NB611_622.out
               have hnc118 := NB622_611.out
               have hcz119_0 : w98.cell? ⟨gb611, 0, none⟩ = some (.int .i64 t604) := (blk_cell BK611.out 0).trans rfl
               have hcz119_1 : w98.cell? ⟨gb611, 1, none⟩ = some (.string t605) := (blk_cell BK611.out 1).trans rfl
               have hfz119_0 := blk_frozen BK611.out 0
               have hfz119_1 := blk_frozen BK611.out 1
               go_wp2_with (first | ((with_reducible refine gate_callee (f := 53) rfl ?_); refine goesL_ (some 117) rfl rfl Try.func53 (by kernel_rfl) rfl #[.agg #[.int .i64 t639, .string t640], .agg #[.int .i64 t604, .string t605]] rfl (by (try simp only [List.map_toArray, List.map_cons, List.map_nil]); first | done | rfl | (simp only [List.length_drop, List.length_take]; rfl)) ?_; (with_reducible refine (laws_eqHead.calls t639 t640 t604 t605 true _ A102.out).mono ?_); rintro e w120 ⟨rfl, hb⟩; refine ⟨_, rfl, ?_⟩; have n0_ := Aside0.mk (Kd.R_below (by (with_reducible repeat (first | apply Kd.R_alloc | apply Kd.R_drewN | apply Kd.R_drew)); exact (Kd.R_mono (Kd.R_far (p := ⟨gb646, 1, none⟩) (Kd.R_far (p := ⟨gb646, 0, none⟩) (Kd.R_types HO_6.out BK646.out (by decide)) (fun _ hk => hk.2) (.int .i64 t639)) (fun _ hk => hk.2) (.string t640)) (fun _ h_ => h_.1))) hb); have n1_ := Aside0.mk (Kd.R_below (by (with_reducible repeat (first | apply Kd.R_alloc | apply Kd.R_drewN | apply Kd.R_drew)); exact (Kd.R_mono (Kd.R_far (p := ⟨gb646, 1, none⟩) (Kd.R_far (p := ⟨gb646, 0, none⟩) (Kd.R_types HO_11.out BK646.out (by decide)) (fun _ hk => hk.2) (.int .i64 t639)) (fun _ hk => hk.2) (.string t640)) (fun _ h_ => h_.1))) hb); have n2_ := Aside0.mk (Kd.R_below (by (with_reducible repeat (first | apply Kd.R_alloc | apply Kd.R_drewN | apply Kd.R_drew)); exact (Kd.R_mono (Kd.R_far (p := ⟨gb646, 1, none⟩) (Kd.R_far (p := ⟨gb646, 0, none⟩) (Kd.R_types HO638.out BK646.out (by decide)) (fun _ hk => hk.2) (.int .i64 t639)) (fun _ hk => hk.2) (.string t640)) (fun _ h_ => h_.1))) hb); have n3_ := Aside0.mk (Kd.R_below (by (with_reducible repeat (first | apply Kd.R_alloc | apply Kd.R_drewN | apply Kd.R_drew)); exact (Kd.R_mono (Kd.R_far (p := ⟨gb646, 1, none⟩) (Kd.R_far (p := ⟨gb646, 0, none⟩) (Kd.R_types HO643.out BK646.out (by decide)) (fun _ hk => hk.2) (.int .i64 t639)) (fun _ hk => hk.2) (.string t640)) (fun _ h_ => h_.1))) hb); have n4_ := Aside0.mk (blk_below (g := gb611) (o := .cells #[.int .i64 t604, .string t605] 31 (0, 0)) (by (with_reducible repeat (first | refine blk_drewN ?_ _ | refine blk_drew ?_ | refine blk_alloc ?_ _)); refine blk_far ?_ NB611_646.out _; (with_reducible repeat (first | refine blk_drewN ?_ _ | refine blk_drew ?_ | refine blk_alloc ?_ _)); refine blk_far ?_ NB611_646.out _; (with_reducible repeat (first | refine blk_drewN ?_ _ | refine blk_drew ?_ | refine blk_alloc ?_ _)); exact BK611.out) hb); have n5_ := Aside0.mk (blk_below (g := gb622) (o := .cells #[.int .i64 t615, .string t616] 31 (0, 0)) (by (with_reducible repeat (first | refine blk_drewN ?_ _ | refine blk_drew ?_ | refine blk_alloc ?_ _)); refine blk_far ?_ NB622_646.out _; (with_reducible repeat (first | refine blk_drewN ?_ _ | refine blk_drew ?_ | refine blk_alloc ?_ _)); refine blk_far ?_ NB622_646.out _; (with_reducible repeat (first | refine blk_drewN ?_ _ | refine blk_drew ?_ | refine blk_alloc ?_ _)); exact BK622.out) hb); have n6_ := Aside0.mk (blk_below (g := gb646) (o := .cells #[.int .i64 t639, .string t640] 31 (0, 0)) (by (with_reducible repeat (first | refine blk_drewN ?_ _ | refine blk_drew ?_ | refine blk_alloc ?_ _)); refine blk_put (cs := #[.int .i64 t639, .string (⟨#[]⟩ : ByteArray)]) ?_ 1 _ rfl; (with_reducible repeat (first | refine blk_drewN ?_ _ | refine blk_drew ?_ | refine blk_alloc ?_ _)); refine blk_put (cs := #[.int .i64 0, .string (⟨#[]⟩ : ByteArray)]) ?_ 0 _ rfl; (with_reducible repeat (first | refine blk_drewN ?_ _ | refine blk_drew ?_ | refine blk_alloc ?_ _)); exact BK646.out) hb); have n7_ := Aside0.mk (below_step (by repeat (first | (with_reducible first | exact HB.out | apply below_alloc | apply pw_below_drewN | apply below_drew1 | refine below_set ?_ GE611.out | refine below_set ?_ GE622.out | refine below_set ?_ GE646.out) | exact HB.out)) hb); clear HO_6; clear HO_11; clear HO638; clear HO643; clear BK611; clear BK622; clear BK646; clear HB; have HO_6 := n0_; have HO_11 := n1_; have HO638 := n2_; have HO643 := n3_; have BK611 := n4_; have BK622 := n5_; have BK646 := n6_; have HB := n7_; clear n0_ n1_ n2_ n3_ n4_ n5_ n6_ n7_; (try clear hb); (try clear hb2); (try clear hk); (try clear hi); obtain ⟨Ao121, co121, eo121⟩ := Kd.R_slice HO643.out; subst eo121; obtain ⟨Ao122, co122, eo122⟩ := Kd.R_slice HO_6.out; subst eo122) | (go_at_call 48; (with_reducible refine (laws_eqStringS.calls kj51 _ _ t641 _ _ t606 true _ ?side1 ?side2 ?side3 ?side4 A104.out).mono ?_); (case side1 => repeat (first | exact (Kd.R_reads' HO643.out).2.2 | (with_reducible refine Kd.C_alloc ?_ _) | (with_reducible refine Kd.C_drewN ?_ _) | (with_reducible refine Kd.C_drew ?_))); (case side2 => exact (Kd.R_reads' HO643.out).2.1); (case side3 => repeat (first | exact (Kd.R_reads' HO_6.out).2.2 | (with_reducible refine Kd.C_alloc ?_ _) | (with_reducible refine Kd.C_drewN ?_ _) | (with_reducible refine Kd.C_drew ?_))); (case side4 => exact (Kd.R_reads' HO_6.out).2.1); rintro e w' ⟨rfl, ⟨nd, rfl⟩⟩))
               go_meet
               case rel => exact ⟨_, (true), (by first | rfl | (simp; done) | (simp [*]; done)), H', ⟨by have := HJ7.out; have := HJ51.out; first | omega | exact Nat.le_refl _⟩, ⟨by (with_reducible repeat (first | apply Kd.R_alloc | apply Kd.R_drewN | apply Kd.R_drew)); exact Kd.R_mono HO_11.out (fun _ hk => trivial)⟩, ⟨by (with_reducible repeat (first | refine blk_drewN ?_ _ | refine blk_drew ?_ | refine blk_alloc ?_ _)); exact BK611.out⟩, ⟨by (with_reducible repeat (first | refine blk_drewN ?_ _ | refine blk_drew ?_ | refine blk_alloc ?_ _)); exact BK622.out⟩, ⟨by (with_reducible repeat (first | refine blk_drewN ?_ _ | refine blk_drew ?_ | refine blk_alloc ?_ _)); exact BK646.out⟩, ⟨by repeat (first | (with_reducible first | exact HB.out | apply below_alloc | apply pw_below_drewN | apply below_drew1 | refine below_set ?_ GE611.out | refine below_set ?_ GE622.out | refine below_set ?_ GE646.out) | exact HB.out)⟩⟩
             ·replace c105 := Bool.eq_false_iff.mpr c105
              subst c105
              have H1 : (laws_FnExactGetCommit.j2 kj51 t634 t633 true) = some r := by rw [if_neg (show ¬ (false = true) by decide)] at H; exact H
              clear H
              have H := H1
              clear H1
              have H' := Aside0.mk H
              clear H
              have hnb123 := NB646_611.out
              have hnc123 := NB611_646.out
              have hnb124 := NB646_622.out
              have hnc124 := NB622_646.out
              have hcz125_0 : w98.cell? ⟨gb646, 0, none⟩ = some (.int .i64 0) := (blk_cell BK646.out 0).trans rfl
              have hcz125_1 : w98.cell? ⟨gb646, 1, none⟩ = some (.string (⟨#[]⟩ : ByteArray)) := (blk_cell BK646.out 1).trans rfl
              have hfz125_0 := blk_frozen BK646.out 0
              have hfz125_1 := blk_frozen BK646.out 1
              have hnb126 := NB611_622.out
              have hnc126 := NB622_611.out
              have hcz127_0 : w98.cell? ⟨gb611, 0, none⟩ = some (.int .i64 t604) := (blk_cell BK611.out 0).trans rfl
              have hcz127_1 : w98.cell? ⟨gb611, 1, none⟩ = some (.string t605) := (blk_cell BK611.out 1).trans rfl
              have hfz127_0 := blk_frozen BK611.out 0
              have hfz127_1 := blk_frozen BK611.out 1
              go_wp2_with (first | ((with_reducible refine gate_callee (f := 53) rfl ?_); refine goesL_ (some 117) rfl rfl Try.func53 (by kernel_rfl) rfl #[.agg #[.int .i64 t639, .string t640], .agg #[.int .i64 t604, .string t605]] rfl (by (try simp only [List.map_toArray, List.map_cons, List.map_nil]); first | done | rfl | (simp only [List.length_drop, List.length_take]; rfl)) ?_; (with_reducible refine (laws_eqHead.calls t639 t640 t604 t605 true _ A102.out).mono ?_); rintro e w128 ⟨rfl, hb⟩; refine ⟨_, rfl, ?_⟩; have n0_ := Aside0.mk (Kd.R_below (by (with_reducible repeat (first | apply Kd.R_alloc | apply Kd.R_drewN | apply Kd.R_drew)); exact (Kd.R_mono (Kd.R_far (p := ⟨gb646, 1, none⟩) (Kd.R_far (p := ⟨gb646, 0, none⟩) (Kd.R_types HO_6.out BK646.out (by decide)) (fun _ hk => hk.2) (.int .i64 t639)) (fun _ hk => hk.2) (.string t640)) (fun _ h_ => h_.1))) hb); have n1_ := Aside0.mk (Kd.R_below (by (with_reducible repeat (first | apply Kd.R_alloc | apply Kd.R_drewN | apply Kd.R_drew)); exact (Kd.R_mono (Kd.R_far (p := ⟨gb646, 1, none⟩) (Kd.R_far (p := ⟨gb646, 0, none⟩) (Kd.R_types HO_11.out BK646.out (by decide)) (fun _ hk => hk.2) (.int .i64 t639)) (fun _ hk => hk.2) (.string t640)) (fun _ h_ => h_.1))) hb); have n2_ := Aside0.mk (Kd.R_below (by (with_reducible repeat (first | apply Kd.R_alloc | apply Kd.R_drewN | apply Kd.R_drew)); exact (Kd.R_mono (Kd.R_far (p := ⟨gb646, 1, none⟩) (Kd.R_far (p := ⟨gb646, 0, none⟩) (Kd.R_types HO638.out BK646.out (by decide)) (fun _ hk => hk.2) (.int .i64 t639)) (fun _ hk => hk.2) (.string t640)) (fun _ h_ => h_.1))) hb); have n3_ := Aside0.mk (Kd.R_below (by (with_reducible repeat (first | apply Kd.R_alloc | apply Kd.R_drewN | apply Kd.R_drew)); exact (Kd.R_mono (Kd.R_far (p := ⟨gb646, 1, none⟩) (Kd.R_far (p := ⟨gb646, 0, none⟩) (Kd.R_types HO643.out BK646.out (by decide)) (fun _ hk => hk.2) (.int .i64 t639)) (fun _ hk => hk.2) (.string t640)) (fun _ h_ => h_.1))) hb); have n4_ := Aside0.mk (blk_below (g := gb611) (o := .cells #[.int .i64 t604, .string t605] 31 (0, 0)) (by (with_reducible repeat (first | refine blk_drewN ?_ _ | refine blk_drew ?_ | refine blk_alloc ?_ _)); refine blk_far ?_ NB611_646.out _; (with_reducible repeat (first | refine blk_drewN ?_ _ | refine blk_drew ?_ | refine blk_alloc ?_ _)); refine blk_far ?_ NB611_646.out _; (with_reducible repeat (first | refine blk_drewN ?_ _ | refine blk_drew ?_ | refine blk_alloc ?_ _)); exact BK611.out) hb); have n5_ := Aside0.mk (blk_below (g := gb622) (o := .cells #[.int .i64 t615, .string t616] 31 (0, 0)) (by (with_reducible repeat (first | refine blk_drewN ?_ _ | refine blk_drew ?_ | refine blk_alloc ?_ _)); refine blk_far ?_ NB622_646.out _; (with_reducible repeat (first | refine blk_drewN ?_ _ | refine blk_drew ?_ | refine blk_alloc ?_ _)); refine blk_far ?_ NB622_646.out _; (with_reducible repeat (first | refine blk_drewN ?_ _ | refine blk_drew ?_ | refine blk_alloc ?_ _)); exact BK622.out) hb); have n6_ := Aside0.mk (blk_below (g := gb646) (o := .cells #[.int .i64 t639, .string t640] 31 (0, 0)) (by (with_reducible repeat (first | refine blk_drewN ?_ _ | refine blk_drew ?_ | refine blk_alloc ?_ _)); refine blk_put (cs := #[.int .i64 t639, .string (⟨#[]⟩ : ByteArray)]) ?_ 1 _ rfl; (with_reducible repeat (first | refine blk_drewN ?_ _ | refine blk_drew ?_ | refine blk_alloc ?_ _)); refine blk_put (cs := #[.int .i64 0, .string (⟨#[]⟩ : ByteArray)]) ?_ 0 _ rfl; (with_reducible repeat (first | refine blk_drewN ?_ _ | refine blk_drew ?_ | refine blk_alloc ?_ _)); exact BK646.out) hb); have n7_ := Aside0.mk (below_step (by repeat (first | (with_reducible first | exact HB.out | apply below_alloc | apply pw_below_drewN | apply below_drew1 | refine below_set ?_ GE611.out | refine below_set ?_ GE622.out | refine below_set ?_ GE646.out) | exact HB.out)) hb); clear HO_6; clear HO_11; clear HO638; clear HO643; clear BK611; clear BK622; clear BK646; clear HB; have HO_6 := n0_; have HO_11 := n1_; have HO638 := n2_; have HO643 := n3_; have BK611 := n4_; have BK622 := n5_; have BK646 := n6_; have HB := n7_; clear n0_ n1_ n2_ n3_ n4_ n5_ n6_ n7_; (try clear hb); (try clear hb2); (try clear hk); (try clear hi); obtain ⟨Ao129, co129, eo129⟩ := Kd.R_slice HO643.out; subst eo129; obtain ⟨Ao130, co130, eo130⟩ := Kd.R_slice HO_6.out; subst eo130) | (go_at_call 48; (with_reducible refine (laws_eqStringS.calls kj51 _ _ t641 _ _ t606 false _ ?side1 ?side2 ?side3 ?side4 A104.out).mono ?_); (case side1 => repeat (first | exact (Kd.R_reads' HO643.out).2.2 | (with_reducible refine Kd.C_alloc ?_ _) | (with_reducible refine Kd.C_drewN ?_ _) | (with_reducible refine Kd.C_drew ?_))); (case side2 => exact (Kd.R_reads' HO643.out).2.1); (case side3 => repeat (first | exact (Kd.R_reads' HO_6.out).2.2 | (with_reducible refine Kd.C_alloc ?_ _) | (with_reducible refine Kd.C_drewN ?_ _) | (with_reducible refine Kd.C_drew ?_))); (case side4 => exact (Kd.R_reads' HO_6.out).2.1); rintro e w' ⟨rfl, ⟨nd, rfl⟩⟩))
              go_meet
              case rel => exact ⟨_, (true), (by first | rfl | (simp; done) | (simp [*]; done)), H', ⟨by have := HJ7.out; have := HJ51.out; first | omega | exact Nat.le_refl _⟩, ⟨by (with_reducible repeat (first | apply Kd.R_alloc | apply Kd.R_drewN | apply Kd.R_drew)); exact Kd.R_mono HO_11.out (fun _ hk => trivial)⟩, ⟨by (with_reducible repeat (first | refine blk_drewN ?_ _ | refine blk_drew ?_ | refine blk_alloc ?_ _)); exact BK611.out⟩, ⟨by (with_reducible repeat (first | refine blk_drewN ?_ _ | refine blk_drew ?_ | refine blk_alloc ?_ _)); exact BK622.out⟩, ⟨by (with_reducible repeat (first | refine blk_drewN ?_ _ | refine blk_drew ?_ | refine blk_alloc ?_ _)); exact BK646.out⟩, ⟨by repeat (first | (with_reducible first | exact HB.out | apply below_alloc | apply pw_below_drewN | apply below_drew1 | refine below_set ?_ GE611.out | refine below_set ?_ GE622.out | refine below_set ?_ GE646.out) | exact HB.out)⟩⟩
            ·replace c103 := Bool.eq_false_iff.mpr c103
             subst c103
             have H1 : (laws_FnExactGetCommit.j2 kj51 t634 t633 true) = some r := by rw [if_neg (show ¬ (false = true) by decide)] at H; exact H
             clear H
             have H := H1
             clear H1
             have H' := Aside0.mk H
             clear H
             have hnb131 := NB646_611.out
             have hnc131 := NB611_646.out
             have hnb132 := NB646_622.out
             have hnc132 := NB622_646.out
             have hcz133_0 : w98.cell? ⟨gb646, 0, none⟩ = some (.int .i64 0) := (blk_cell BK646.out 0).trans rfl
             have hcz133_1 : w98.cell? ⟨gb646, 1, none⟩ = some (.string (⟨#[]⟩ : ByteArray)) := (blk_cell BK646.out 1).trans rfl
             have hfz133_0 := blk_frozen BK646.out 0
             have hfz133_1 := blk_frozen BK646.out 1
             have hnb134 := NB611_622.out
             have hnc134 := NB622_611.out
             have hcz135_0 : w98.cell? ⟨gb611, 0, none⟩ = some (.int .i64 t604) := (blk_cell BK611.out 0).trans rfl
             have hcz135_1 : w98.cell? ⟨gb611, 1, none⟩ = some (.string t605) := (blk_cell BK611.out 1).trans rfl
             have hfz135_0 := blk_frozen BK611.out 0
             have hfz135_1 := blk_frozen BK611.out 1
             go_wp2_with (first | ((with_reducible refine gate_callee (f := 53) rfl ?_); refine goesL_ (some 117) rfl rfl Try.func53 (by kernel_rfl) rfl #[.agg #[.int .i64 t639, .string t640], .agg #[.int .i64 t604, .string t605]] rfl (by (try simp only [List.map_toArray, List.map_cons, List.map_nil]); first | done | rfl | (simp only [List.length_drop, List.length_take]; rfl)) ?_; (with_reducible refine (laws_eqHead.calls t639 t640 t604 t605 false _ A102.out).mono ?_); rintro e w136 ⟨rfl, hb⟩; refine ⟨_, rfl, ?_⟩; have n0_ := Aside0.mk (Kd.R_below (by (with_reducible repeat (first | apply Kd.R_alloc | apply Kd.R_drewN | apply Kd.R_drew)); exact (Kd.R_mono (Kd.R_far (p := ⟨gb646, 1, none⟩) (Kd.R_far (p := ⟨gb646, 0, none⟩) (Kd.R_types HO_6.out BK646.out (by decide)) (fun _ hk => hk.2) (.int .i64 t639)) (fun _ hk => hk.2) (.string t640)) (fun _ h_ => h_.1))) hb); have n1_ := Aside0.mk (Kd.R_below (by (with_reducible repeat (first | apply Kd.R_alloc | apply Kd.R_drewN | apply Kd.R_drew)); exact (Kd.R_mono (Kd.R_far (p := ⟨gb646, 1, none⟩) (Kd.R_far (p := ⟨gb646, 0, none⟩) (Kd.R_types HO_11.out BK646.out (by decide)) (fun _ hk => hk.2) (.int .i64 t639)) (fun _ hk => hk.2) (.string t640)) (fun _ h_ => h_.1))) hb); have n2_ := Aside0.mk (Kd.R_below (by (with_reducible repeat (first | apply Kd.R_alloc | apply Kd.R_drewN | apply Kd.R_drew)); exact (Kd.R_mono (Kd.R_far (p := ⟨gb646, 1, none⟩) (Kd.R_far (p := ⟨gb646, 0, none⟩) (Kd.R_types HO638.out BK646.out (by decide)) (fun _ hk => hk.2) (.int .i64 t639)) (fun _ hk => hk.2) (.string t640)) (fun _ h_ => h_.1))) hb); have n3_ := Aside0.mk (Kd.R_below (by (with_reducible repeat (first | apply Kd.R_alloc | apply Kd.R_drewN | apply Kd.R_drew)); exact (Kd.R_mono (Kd.R_far (p := ⟨gb646, 1, none⟩) (Kd.R_far (p := ⟨gb646, 0, none⟩) (Kd.R_types HO643.out BK646.out (by decide)) (fun _ hk => hk.2) (.int .i64 t639)) (fun _ hk => hk.2) (.string t640)) (fun _ h_ => h_.1))) hb); have n4_ := Aside0.mk (blk_below (g := gb611) (o := .cells #[.int .i64 t604, .string t605] 31 (0, 0)) (by (with_reducible repeat (first | refine blk_drewN ?_ _ | refine blk_drew ?_ | refine blk_alloc ?_ _)); refine blk_far ?_ NB611_646.out _; (with_reducible repeat (first | refine blk_drewN ?_ _ | refine blk_drew ?_ | refine blk_alloc ?_ _)); refine blk_far ?_ NB611_646.out _; (with_reducible repeat (first | refine blk_drewN ?_ _ | refine blk_drew ?_ | refine blk_alloc ?_ _)); exact BK611.out) hb); have n5_ := Aside0.mk (blk_below (g := gb622) (o := .cells #[.int .i64 t615, .string t616] 31 (0, 0)) (by (with_reducible repeat (first | refine blk_drewN ?_ _ | refine blk_drew ?_ | refine blk_alloc ?_ _)); refine blk_far ?_ NB622_646.out _; (with_reducible repeat (first | refine blk_drewN ?_ _ | refine blk_drew ?_ | refine blk_alloc ?_ _)); refine blk_far ?_ NB622_646.out _; (with_reducible repeat (first | refine blk_drewN ?_ _ | refine blk_drew ?_ | refine blk_alloc ?_ _)); exact BK622.out) hb); have n6_ := Aside0.mk (blk_below (g := gb646) (o := .cells #[.int .i64 t639, .string t640] 31 (0, 0)) (by (with_reducible repeat (first | refine blk_drewN ?_ _ | refine blk_drew ?_ | refine blk_alloc ?_ _)); refine blk_put (cs := #[.int .i64 t639, .string (⟨#[]⟩ : ByteArray)]) ?_ 1 _ rfl; (with_reducible repeat (first | refine blk_drewN ?_ _ | refine blk_drew ?_ | refine blk_alloc ?_ _)); refine blk_put (cs := #[.int .i64 0, .string (⟨#[]⟩ : ByteArray)]) ?_ 0 _ rfl; (with_reducible repeat (first | refine blk_drewN ?_ _ | refine blk_drew ?_ | refine blk_alloc ?_ _)); exact BK646.out) hb); have n7_ := Aside0.mk (below_step (by repeat (first | (with_reducible first | exact HB.out | apply below_alloc | apply pw_below_drewN | apply below_drew1 | refine below_set ?_ GE611.out | refine below_set ?_ GE622.out | refine below_set ?_ GE646.out) | exact HB.out)) hb); clear HO_6; clear HO_11; clear HO638; clear HO643; clear BK611; clear BK622; clear BK646; clear HB; have HO_6 := n0_; have HO_11 := n1_; have HO638 := n2_; have HO643 := n3_; have BK611 := n4_; have BK622 := n5_; have BK646 := n6_; have HB := n7_; clear n0_ n1_ n2_ n3_ n4_ n5_ n6_ n7_; (try clear hb); (try clear hb2); (try clear hk); (try clear hi)))
             go_meet
             case rel => exact ⟨_, (true), (by first | rfl | (simp; done) | (simp [*]; done)), H', ⟨by have := HJ7.out; have := HJ51.out; first | omega | exact Nat.le_refl _⟩, ⟨by (with_reducible repeat (first | apply Kd.R_alloc | apply Kd.R_drewN | apply Kd.R_drew)); exact Kd.R_mono HO_11.out (fun _ hk => trivial)⟩, ⟨by (with_reducible repeat (first | refine blk_drewN ?_ _ | refine blk_drew ?_ | refine blk_alloc ?_ _)); exact BK611.out⟩, ⟨by (with_reducible repeat (first | refine blk_drewN ?_ _ | refine blk_drew ?_ | refine blk_alloc ?_ _)); exact BK622.out⟩, ⟨by (with_reducible repeat (first | refine blk_drewN ?_ _ | refine blk_drew ?_ | refine blk_alloc ?_ _)); exact BK646.out⟩, ⟨by repeat (first | (with_reducible first | exact HB.out | apply below_alloc | apply pw_below_drewN | apply below_drew1 | refine below_set ?_ GE611.out | refine below_set ?_ GE622.out | refine below_set ?_ GE646.out) | exact HB.out)⟩⟩
           case rest =>
            clear HC91
            try clear c1
            try clear c2
            try clear p2
            try clear c3
            try clear c3b0
            try clear c3b1
            try clear c4
            try clear c5
            try clear c6
            try clear c7
            try clear c8
            try clear c9
            try clear c10
            try clear c11
            try clear c12
            try clear c13
            try clear c18
            try clear c21
            try clear c23
            try clear c24
            try clear c24b0
            try clear c24b1
            try clear c25
            try clear c27
            try clear c31
            try clear c37
            try clear c39
            try clear c43
            try clear c47
            try clear c50
            try clear c52
            try clear c53
            try clear c54
            try clear c56
            try clear c56b0
            try clear c58
            try clear c60
            try clear c61
            try clear c61b0
            try clear c61b1
            try clear c62
            try clear c68
            try clear c74
            try clear c80
            try clear c84
            try clear c87
            try clear c87b0
            try clear c88
            try clear c88b0
            try clear c88b1
            try clear c99
            try clear c100
            try clear c103
            try clear c105
            try clear c106
            try clear c106b0
            try clear c106b1
            try clear c107
            try clear c108
            try clear c110
            try clear c115
            try clear c116
            try clear c118
            try clear c123
            try clear c124
            try clear c126
            try clear c131
            try clear c132
            try clear c134
            try clear hcz101_0
            try clear hcz101_1
            try clear hcz109_0
            try clear hcz109_1
            try clear hcz111_0
            try clear hcz111_1
            try clear hcz117_0
            try clear hcz117_1
            try clear hcz119_0
            try clear hcz119_1
            try clear hcz125_0
            try clear hcz125_1
            try clear hcz127_0
            try clear hcz127_1
            try clear hcz133_0
            try clear hcz133_1
            try clear hcz135_0
            try clear hcz135_1
            try clear hcz13_0
            try clear hcz13_1
            try clear hcz19_0
            try clear hcz19_1
            try clear hcz26_0
            try clear hcz26_1
            try clear hcz27_0
            try clear hcz27_1
            try clear hcz32_0
            try clear hcz32_1
            try clear hcz33_0
            try clear hcz33_1
            try clear hcz38_0
            try clear hcz38_1
            try clear hcz39_0
            try clear hcz39_1
            try clear hcz44_0
            try clear hcz44_1
            try clear hcz45_0
            try clear hcz45_1
            try clear hcz63_0
            try clear hcz63_1
            try clear hcz64_0
            try clear hcz64_1
            try clear hcz69_0
            try clear hcz69_1
            try clear hcz70_0
            try clear hcz70_1
            try clear hcz75_0
            try clear hcz75_1
            try clear hcz76_0
            try clear hcz76_1
            try clear hcz81_0
            try clear hcz81_1
            try clear hcz82_0
            try clear hcz82_1
            try clear hfz101_0
            try clear hfz101_1
            try clear hfz109_0
            try clear hfz109_1
            try clear hfz111_0
            try clear hfz111_1
            try clear hfz117_0
            try clear hfz117_1
            try clear hfz119_0
            try clear hfz119_1
            try clear hfz125_0
            try clear hfz125_1
            try clear hfz127_0
            try clear hfz127_1
            try clear hfz133_0
            try clear hfz133_1
            try clear hfz135_0
            try clear hfz135_1
            try clear hfz13_0
            try clear hfz13_1
            try clear hfz19_0
            try clear hfz19_1
            try clear hfz26_0
            try clear hfz26_1
            try clear hfz27_0
            try clear hfz27_1
            try clear hfz32_0
            try clear hfz32_1
            try clear hfz33_0
            try clear hfz33_1
            try clear hfz38_0
            try clear hfz38_1
            try clear hfz39_0
            try clear hfz39_1
            try clear hfz44_0
            try clear hfz44_1
            try clear hfz45_0
            try clear hfz45_1
            try clear hfz63_0
            try clear hfz63_1
            try clear hfz64_0
            try clear hfz64_1
            try clear hfz69_0
            try clear hfz69_1
            try clear hfz70_0
            try clear hfz70_1
            try clear hfz75_0
            try clear hfz75_1
            try clear hfz76_0
            try clear hfz76_1
            try clear hfz81_0
            try clear hfz81_1
            try clear hfz82_0
            try clear hfz82_1
            try clear p2
            obtain ⟨kq, x134_90, rfl, HA, HJ90, HO_11, BK611, BK622, BK646, HB⟩ := hcut
            have hl11_90 := (Kd.R_reads' HO_11.out).1
            rw [hl11_90] at HO_11
            (try simp only [hl11_90])
            (try simp only [hl11_90] at BK611)
            (try simp only [hl11_90] at BK622)
            (try simp only [hl11_90] at BK646)
            cases kq with
            | zero => exact absurd HA.out (by simp [laws_FnExactGetCommit.j2])
            | succ kj90 =>
             have H := HA.out
             clear HA
             simp only [laws_FnExactGetCommit.j2] at H
             by_cases c137 : x134_90 = true
             ·subst c137
              have H1 : (none) = some r := by rw [if_pos rfl] at H; exact H
              clear H
              have H := H1
              clear H1
              exact absurd H (by simp)
             ·replace c137 := Bool.eq_false_iff.mpr c137
              subst c137
              have H1 : ((laws_heldStringS.f kj90 t634 1).bind fun t649 => (if t649 < 0 then (none) else (if t649 = t633 then (some true) else (none)))) = some r := by rw [if_neg (show ¬ (false = true) by decide)] at H; exact H
              clear H
              have H := H1
              clear H1
              replace H := Option.bind_eq_some_iff.mp H
              obtain ⟨t649, A1380, H⟩ := H
              replace H : (if t649 < 0 then (none) else (if t649 = t633 then (some true) else (none))) = some r := H
              have A138 := Aside0.mk A1380
              clear A1380
              by_cases c139 : t649 < 0
              ·rw [if_pos c139] at H
               exact absurd H (by simp)
              ·rw [if_neg c139] at H
               have c139b0 : decide (t649 < 0) = false := decide_eq_false c139
               clear c139
               by_cases c140 : t649 = t633
               ·rw [if_pos c140] at H
                have c140b0 : (t649 == t633) = true := beq_iff_eq.mpr c140
                have c140b1 : (t649 != t633) = false := bne_eq_false_iff_eq.mpr c140
                clear c140
                obtain rfl := Option.some.inj H
                go_wp2_with (first | ((with_reducible refine gate_callee (f := 54) rfl ?_); refine goesL_ (some 137) rfl rfl Try.func54 (by kernel_rfl) rfl #[.slice Ao92 t634.length co92, .int .i64 1] rfl (by (try simp only [List.map_toArray, List.map_cons, List.map_nil]); first | done | rfl | (simp only [List.length_drop, List.length_take]; rfl)) ?_; (with_reducible refine (laws_heldStringS.calls kj90 _ _ t634 1 t649 _ ?side1 ?side2 A138.out).mono ?_); (case side1 => repeat (first | exact (Kd.R_reads' HO_11.out).2.2 | (with_reducible refine Kd.C_alloc ?_ _) | (with_reducible refine Kd.C_drewN ?_ _) | (with_reducible refine Kd.C_drew ?_))); (case side2 => exact (Kd.R_reads' HO_11.out).2.1); rintro e w141 ⟨rfl, hb⟩; refine ⟨_, rfl, ?_⟩; have n0_ := Aside0.mk (Kd.R_below (by (with_reducible repeat (first | apply Kd.R_alloc | apply Kd.R_drewN | apply Kd.R_drew)); exact HO_11.out) hb); have n1_ := Aside0.mk (blk_below (g := gb611) (o := .cells #[.int .i64 t604, .string t605] 31 (0, 0)) (by (with_reducible repeat (first | refine blk_drewN ?_ _ | refine blk_drew ?_ | refine blk_alloc ?_ _)); exact BK611.out) hb); have n2_ := Aside0.mk (blk_below (g := gb622) (o := .cells #[.int .i64 t615, .string t616] 31 (0, 0)) (by (with_reducible repeat (first | refine blk_drewN ?_ _ | refine blk_drew ?_ | refine blk_alloc ?_ _)); exact BK622.out) hb); have n3_ := Aside0.mk (blk_below (g := gb646) (o := .cells #[.int .i64 t639, .string t640] 31 (0, 0)) (by (with_reducible repeat (first | refine blk_drewN ?_ _ | refine blk_drew ?_ | refine blk_alloc ?_ _)); exact BK646.out) hb); have n4_ := Aside0.mk (below_step (by repeat (first | (with_reducible first | exact HB.out | apply below_alloc | apply pw_below_drewN | apply below_drew1 | refine below_set ?_ GE611.out | refine below_set ?_ GE622.out | refine below_set ?_ GE646.out) | exact HB.out)) hb); clear HO_11; clear BK611; clear BK622; clear BK646; clear HB; have HO_11 := n0_; have BK611 := n1_; have BK622 := n2_; have BK646 := n3_; have HB := n4_; clear n0_ n1_ n2_ n3_ n4_; (try clear hb); (try clear hb2); (try clear hk); (try clear hi)))
                go_ret
                exact ⟨by first | rfl | (simp [errW_none, errW_some] <;> rfl) | (simp [*, errW_none, errW_some] <;> rfl), by repeat (first | (with_reducible first | exact HB.out | apply below_alloc | apply pw_below_drewN | apply below_drew1 | refine below_set ?_ GE611.out | refine below_set ?_ GE622.out | refine below_set ?_ GE646.out) | exact HB.out)⟩
               ·rw [if_neg c140] at H
                exact absurd H (by simp)
          ·rw [if_neg c88] at H
           exact absurd H (by simp)
     ·replace c50 := Bool.eq_false_iff.mpr c50
      subst c50
      have H1 : (none) = some r := by rw [if_neg (show ¬ (false = true) by decide)] at H; exact H
      clear H
      have H := H1
      clear H1
      exact absurd H (by simp)
end Go.Proofs.Ytcogimnpffnanaa.Q
end
section
/- The row of the law FnExactGetCommit out of its pure statement and the printed walk. -/
namespace Go.Proofs.Ytcogimnpffnanaa.Q
open Go.RowKit Go.Proofs.Ytcogimnpffnanaa.XO Go.Proofs.YtcogimnpffnanaaW.PrintWords Go.ChangeShapes Go.WideShapes Go.ChangeAt
set_option linter.unusedVariables false
set_option linter.unusedSimpArgs false
def laws_FnExactGetCommit.Pure : Prop := ∀ (x0 : List Int) (x1 : Int), (x0.length ≤ 9223372036854775807 ∧ ∀ y0 ∈ x0, (Lit.int .u8 y0).wf = true) → (Lit.int .i64 x1).wf = true → ∃ k, laws_FnExactGetCommit.f k x0 x1 = some true
namespace RFnExactGetCommit
theorem own : ownKnob Try.prog.godebug = none := by kernel_rfl
theorem laidOut : laidOutB Try.prog = true := by kernel_rfl
set_option maxRecDepth 100000 in
theorem lifted (PU : laws_FnExactGetCommit.Pure) (os : Os) (started : os.Started) (H : Type) (enc : TypeId × Value → H) :
  ReturnsInHanded {} Try.checked os 9 .any (Rows.fnExactGetCommitSpec.pre6 enc Try.prog Try.f9 Rows.fnExactGetCommitRow.domain false) (Rows.fnExactGetCommitSpec.post enc Try.prog Try.f9 false true false false) := by
 refine returnsInHanded_of_change_sized (C := Try.checked) own started (by kernel_rfl) Try.func9
  (ChangeSpec.witness6 (enc := enc) (C := Try.checked) false ⟨#[], #[.slice none 0 0, .int .i64 0], []⟩ 8 (by kernel_rfl) (by kernel_rfl) (by kernel_rfl) (by kernel_rfl)) ?_
 intro W base args ds gs before hval0 hW hcnd hsz0 _
 have hval : ∀ (j : Nat) t v, Try.f9.params[j]? = some t → args[j]? = some v → Value.okWide Try.prog W .any base t v := hval0
 have hW' := hW
 obtain ⟨p, q, hA0, hV, rfl, hfz, hnd⟩ := hW
 have hA : DataW.TrodAll enc Try.prog W 0 (fun _ => true) true Try.f9.params.toList args.toList ds p := hA0
 rw [Try.params9] at hA hval
 obtain ⟨v0, vs0, d0, ds0, p0, q0, hargs, rfl, rfl, h0, r0⟩ := trodAll_cons hA
 obtain ⟨v1, vs1, d1, ds1, p1, q1, rfl, rfl, rfl, h1, r1⟩ := trodAll_cons r0
 obtain ⟨rfl, rfl, rfl⟩ := trodAll_nil r1
 obtain rfl : args = #[v0, v1] := by cases args; simp_all
 obtain ⟨rfl, rfl⟩ := trodVars_none hV
 have kk0 := h0
 have lt0 : ∀ x ∈ p0, x.block < W.heap.size := by obtain ⟨m, hm⟩ := kk0; exact DataW.trod_lt m _ _ _ hm
 obtain ⟨A0, len0, c0, rfl⟩ := okWide_slice Try.underlying29 (hval 0 29 v0 rfl rfl)
 obtain ⟨fu0, hf0⟩ := h0
 obtain ⟨x0, ⟨A0', c0', he0, hc0, hr0⟩, g0⟩ := (opens_slice Try.underlying29 (by kernel_rfl) (opens_int Try.underlying5)) hf0
 obtain ⟨rfl, rfl, rfl⟩ : A0 = A0' ∧ len0 = x0.length ∧ c0 = c0' := by simpa [Value.cells] using he0
 have kk1 := h1
 have lt1 : ∀ x ∈ p1, x.block < W.heap.size := by obtain ⟨m, hm⟩ := kk1; exact DataW.trod_lt m _ _ _ hm
 obtain ⟨x1, rfl, rfl, rfl, g1⟩ := open_int Try.underlying3 (hval 1 3 v1 rfl rfl) h1
 clear hA0 hval0 hsz0
 obtain ⟨k, hp⟩ := PU x0 x1 g0 g1
 refine (laws_FnExactGetCommit.calls k _ _ x0 x1 true W hr0 hc0 hp).mono fun e W' ⟨he, bel0⟩ => ?_
 have bel : Below W.heap.size W W' := bel0
 subst he
 exact ⟨_, rfl, _, _, _, [], _, [], hW', trodAll_mk1 (shut_bool Try.underlying4 _), (trodAll_cons_mk (Below.trod laidOut (by kernel_rfl) (of_decide_eq_true (by kernel_rfl)) kk0 bel lt0) (trodAll_cons_mk (Below.trod laidOut (by kernel_rfl) (of_decide_eq_true (by kernel_rfl)) kk1 bel lt1) trodAll_mk0)), rfl, bel.frame _, fun h => by cases h⟩
theorem over (PU : laws_FnExactGetCommit.Pure) : Rows.fnExactGetCommitRow.holds Try.pinned (OpenSpec.ofChange Rows.fnExactGetCommitSpec) :=
 OpenClaim.holds_of_wide 9 Try.f9 rfl rfl rfl rfl rfl rfl rfl ⟨rfl, rfl, rfl, rfl, rfl⟩ rfl rfl rfl rfl rfl (by kernel_rfl) Try.func9 (by kernel_rfl)
  (of_decide_eq_true (by kernel_rfl)) (by unfold Func.isWrapper; first | (rw [if_pos (by decide +kernel)]; kernel_rfl) | (rw [if_neg (by decide +kernel)]; exact ⟨rfl, rfl⟩))
  (fun os started H enc _ => lifted PU os started H enc)
end RFnExactGetCommit
theorem FnExactGetCommit_row (PU : laws_FnExactGetCommit.Pure) : Rows.FnExactGetCommitSaid := RFnExactGetCommit.over PU
end Go.Proofs.Ytcogimnpffnanaa.Q
end
section
/- The program's GetCommit and the reference's return the same for all bytes and places; no condition. -/
namespace Go.Proofs.Ytcogimnpffnanaa.Q
open Go.RowKit Go.Proofs.Ytcogimnpffnanaa.B Go.Proofs.YtcogimnpffnanaaW.PrintWords
set_option linter.unusedVariables false
set_option linter.unusedSimpArgs false
theorem int_range {x : Int} (h : (Lit.int .i64 x).wf = true) : -9223372036854775808 ≤ x ∧ x ≤ 9223372036854775807 := by
 simp only [Lit.wf, IntKind.min, IntKind.max, IntKind.signed, IntKind.bits, Bool.and_eq_true, decide_eq_true_eq, if_true, Bool.false_eq_true, if_false] at h
 omega
theorem pure_FnExactGetCommit : laws_FnExactGetCommit.Pure := by
 intro b a gb ga
 refine Ev.rounds (g := fun k => laws_FnExactGetCommit.f k b a) ?_
 unfold laws_FnExactGetCommit.f
 by_cases hc : (b.length : Int) > 1048576
 ·exact Ev.pos hc (Ev.now _)
 ·have hb : InB b := int_bytes gb.2
  have har := int_range ga
  obtain ⟨n, s, t, x, ok, e1, e2, hl⟩ := getCommit_both b hb (by omega) a har.1 har.2
  have hT := toByteS_ev b (by omega)
  have hH := eqHead_eq n s
  have hE := eqStringS_ev t (by omega)
  have hB := eqByteS_ev b (by omega)
  have hM := markByteS_ev b 1 (by omega) (by omega)
  obtain ⟨M, m1, m2, m3⟩ := markStringS_ev t 1 (by omega) (by omega)
  have hh := heldStringS_ev M 1 (by omega) (by omega) m3
  rw [m2] at hh
  have hbb : (ok != ok) = false := by simp
  refine Ev.neg hc (Ev.bind hT (Ev.bind e1 (Ev.bind hT (Ev.bind e2 (Ev.bind (Ev.const hH) (Ev.pos rfl (Ev.bind hE (Ev.pos rfl (Ev.pos (by simp) ?_)))))))))
  simp only [hbb]
  refine Ev.step (fun q => by simp only [laws_FnExactGetCommit.j0]; rfl) ?_
  refine Ev.neg (by simp) (Ev.bind hT (Ev.bind hB (Ev.pos rfl (Ev.bind hM (Ev.neg (by simp only; omega) (Ev.bind (Ev.const hH) (Ev.pos rfl (Ev.bind hE (Ev.pos rfl (Ev.pos (by simp) ?_))))))))))
  simp only [hbb]
  refine Ev.step (fun q => by simp only [laws_FnExactGetCommit.j1]; rfl) ?_
  refine Ev.neg (by simp) (Ev.bind m1 (Ev.bind hh (Ev.neg (by omega) (Ev.pos rfl (Ev.bind hT (Ev.bind e2 (Ev.bind (Ev.const hH) (Ev.pos rfl (Ev.bind hE (Ev.pos rfl (Ev.pos (by simp) ?_)))))))))))
  simp only [hbb]
  refine Ev.step (fun q => by simp only [laws_FnExactGetCommit.j2]; rfl) ?_
  exact Ev.neg (by simp) (Ev.bind hh (Ev.neg (by omega) (Ev.pos rfl (Ev.now _))))
end Go.Proofs.Ytcogimnpffnanaa.Q
namespace Go.Proofs.Ytcogimnpffnanaa
theorem fnExactGetCommit_holds : Rows.FnExactGetCommitSaid := Q.FnExactGetCommit_row Q.pure_FnExactGetCommit
end Go.Proofs.Ytcogimnpffnanaa
end
