-- Joined and shortened by a program of this session (wip/tools/shakecopy.py): the words of the print, texts of pp.sh and of mine.
import Derived.Test.YtcogimnpffnanaaKFnClashes5
import Derived.Deep.Slices
import Derived.ChangeArms
import Derived.Test.YtcogimnpffnanaaRows
import Derived.WalkKit
import Derived.ProofKit
import Derived.OpenShut
import Derived.ShutString
import Derived.ChangeOld
import Derived.Below
import Derived.SizedLaws
import Derived.Carry
section
-- Written by a program of this session (wip/tools/pp.sh) over the print of the kit.
namespace Go.Proofs.Ytcogimnpffnanaa.Q
open Go.RowKit Go.Proofs.YtcogimnpffnanaaW.PrintWords Go.Proofs.YtcogimnpffnanaaW.PrintLast Go.Proofs.YtcogimnpffnanaaW.PrintMore
attribute [local go_sem] max2_int min2_int max_two min_two max_three min_three max_four min_four   -- for this text's walks alone
set_option linter.unusedVariables false
set_option linter.unusedSimpArgs false

/-! ### spec_DrawIsClash: function 35 -/
def spec_DrawIsClash.f (k : Nat) (l0 : List Int) : Option (ByteArray × ByteArray × Int) := (spec_l1New.f k l0).bind fun bt601 => ((spec_l1Some.f k bt601.1 bt601.2.1 bt601.2.2).bind fun bt605 => ((spec_l1Int.f bt601.1 bt605.2.1 bt605.2.2 (([0, 0, 1, 32, 33, (-1)] : List Int))).bind fun bt613 => ((spec_l1Once.f bt601.1 bt613.2.1 bt613.2.2 4).bind fun bt616 => (if bt616.1 = true then (some (strOfNums bt605.1, strOfNums bt605.1, bt613.1)) else ((spec_l1Once.f bt601.1 bt616.2.1 bt616.2.2 3).bind fun bt619 => (if bt619.1 = true then ((spec_l8Twin.f k).bind fun t622 => (some (t622, strOfNums (([0] : List Int)), 1))) else ((spec_l1Some.f k bt601.1 bt619.2.1 bt619.2.2).bind fun bt626 => (some (strOfNums bt605.1, strOfNums bt626.1, bt613.1)))))))))
theorem spec_DrawIsClash.mono : ∀ a0 k, LeO (spec_DrawIsClash.f k a0) (spec_DrawIsClash.f (k + 1) a0) := by
 intro a0 k
 unfold spec_DrawIsClash.f
 repeat' first
   | (with_reducible exact spec_l1New.mono _ _)
   | (with_reducible exact spec_l1Some.mono _ _ _ _)
   | (with_reducible exact spec_l8Twin.mono _)
   | (with_reducible exact LeO.refl _)
   | (with_reducible exact LeO.none _)
   | (with_reducible refine LeO.ite ?_ ?_)
   | (with_reducible refine LeO.bind ?_ (fun _ => ?_))
   | exact spec_l1New.mono _ _
   | exact spec_l1Some.mono _ _ _ _
   | exact spec_l8Twin.mono _
   | exact LeO.none _
   | refine LeO.ite ?_ ?_
   | refine LeO.bind ?_ (fun _ => ?_)
def spec_DrawIsClash.T8 : Bool × List (List Nat × List Nat) := (true, [([], []), ([], []), ([1], [1]), ([2], [2]), ([], []), ([0, 2, 0], [0]), ([3, 5, 0, 1, 2, 3, 5], [3]), ([4, 6, 0, 1, 2, 3, 4, 5, 6], [4])])
def spec_DrawIsClash.B8 : List Nat := [0, 0, 2, 6, 0, 7, 47, 127]
theorem spec_DrawIsClash.tab8 : rtab .any (opsOf Try.f35 8) = spec_DrawIsClash.T8 := by kernel_rfl
theorem spec_DrawIsClash.bits8 : waitsOk spec_DrawIsClash.T8.2 spec_DrawIsClash.B8 = true := by kernel_rfl
set_option maxHeartbeats 8000000 in
set_option maxRecDepth 100000 in
theorem spec_DrawIsClash.calls (k : Nat) (A0 : Option Addr) (c0 : Nat) (l0 : List Int) (r1 : ByteArray) (r2 : ByteArray) (r3 : Int) (w : World) (hr0 : Kd.C (Kd.int .u8) w A0 l0.length l0) (hc0 : l0.length ≤ c0) (h : spec_DrawIsClash.f k l0 = some (r1, r2, r3)) :
  Calls Try.prog 35 #[.slice A0 l0.length c0] w fun e w' => e = .returned (.tuple #[.string r1, .string r2, .int .i64 r3]) ∧ Below w.heap.size w w' := by
 have HR0 := Aside0.mk hr0
 have HC0 := Aside0.mk hc0
 clear hr0 hc0
 have HB := Aside0.mk (Below.refl w.heap.size w)
 have H : ((spec_l1New.f k l0).bind fun bt601 => ((spec_l1Some.f k bt601.1 bt601.2.1 bt601.2.2).bind fun bt605 => ((spec_l1Int.f bt601.1 bt605.2.1 bt605.2.2 (([0, 0, 1, 32, 33, (-1)] : List Int))).bind fun bt613 => ((spec_l1Once.f bt601.1 bt613.2.1 bt613.2.2 4).bind fun bt616 => (if bt616.1 = true then (some (strOfNums bt605.1, strOfNums bt605.1, bt613.1)) else ((spec_l1Once.f bt601.1 bt616.2.1 bt616.2.2 3).bind fun bt619 => (if bt619.1 = true then ((spec_l8Twin.f k).bind fun t622 => (some (t622, strOfNums (([0] : List Int)), 1))) else ((spec_l1Some.f k bt601.1 bt619.2.1 bt619.2.2).bind fun bt626 => (some (strOfNums bt605.1, strOfNums bt626.1, bt613.1)))))))))) = some (r1, r2, r3) := h
 clear h
 replace H := Option.bind_eq_some_iff.mp H
 obtain ⟨⟨t601, t602, t603⟩, A20, H⟩ := H
 replace H : ((spec_l1Some.f k t601 t602 t603).bind fun bt605 => ((spec_l1Int.f t601 bt605.2.1 bt605.2.2 (([0, 0, 1, 32, 33, (-1)] : List Int))).bind fun bt613 => ((spec_l1Once.f t601 bt613.2.1 bt613.2.2 4).bind fun bt616 => (if bt616.1 = true then (some (strOfNums bt605.1, strOfNums bt605.1, bt613.1)) else ((spec_l1Once.f t601 bt616.2.1 bt616.2.2 3).bind fun bt619 => (if bt619.1 = true then ((spec_l8Twin.f k).bind fun t622 => (some (t622, strOfNums (([0] : List Int)), 1))) else ((spec_l1Some.f k t601 bt619.2.1 bt619.2.2).bind fun bt626 => (some (strOfNums bt605.1, strOfNums bt626.1, bt613.1))))))))) = some (r1, r2, r3) := H
 have A2 := Aside0.mk A20
 clear A20
 replace H := Option.bind_eq_some_iff.mp H
 obtain ⟨⟨t605, t608, t609⟩, A30, H⟩ := H
 replace H : ((spec_l1Int.f t601 t608 t609 (([0, 0, 1, 32, 33, (-1)] : List Int))).bind fun bt613 => ((spec_l1Once.f t601 bt613.2.1 bt613.2.2 4).bind fun bt616 => (if bt616.1 = true then (some (strOfNums t605, strOfNums t605, bt613.1)) else ((spec_l1Once.f t601 bt616.2.1 bt616.2.2 3).bind fun bt619 => (if bt619.1 = true then ((spec_l8Twin.f k).bind fun t622 => (some (t622, strOfNums (([0] : List Int)), 1))) else ((spec_l1Some.f k t601 bt619.2.1 bt619.2.2).bind fun bt626 => (some (strOfNums t605, strOfNums bt626.1, bt613.1)))))))) = some (r1, r2, r3) := H
 have A3 := Aside0.mk A30
 clear A30
 obtain ⟨y610, hy610⟩ : ∃ y_ : List Int, y_ = (([0, 0, 1, 32, 33, (-1)] : List Int)) := ⟨_, rfl⟩
 replace H : ((spec_l1Int.f t601 t608 t609 y610).bind fun bt613 => ((spec_l1Once.f t601 bt613.2.1 bt613.2.2 4).bind fun bt616 => (if bt616.1 = true then (some (strOfNums t605, strOfNums t605, bt613.1)) else ((spec_l1Once.f t601 bt616.2.1 bt616.2.2 3).bind fun bt619 => (if bt619.1 = true then ((spec_l8Twin.f k).bind fun t622 => (some (t622, strOfNums (([0] : List Int)), 1))) else ((spec_l1Some.f k t601 bt619.2.1 bt619.2.2).bind fun bt626 => (some (strOfNums t605, strOfNums bt626.1, bt613.1)))))))) = some (r1, r2, r3) := by first | (rw [hy610]; with_reducible exact H) | (have H2_ := (Option.bind_some _ _).symm.trans H; rw [hy610]; with_reducible exact H2_) | (have H2_ := (Option.bind_some _ _).symm.trans H; with_reducible exact H2_) | with_reducible exact H | (rw [hy610]; exact H) | exact H
 have Ny610 := Aside0.mk hy610
 clear hy610
 replace H := Option.bind_eq_some_iff.mp H
 obtain ⟨⟨t613, t614, t615⟩, A40, H⟩ := H
 replace H : ((spec_l1Once.f t601 t614 t615 4).bind fun bt616 => (if bt616.1 = true then (some (strOfNums t605, strOfNums t605, t613)) else ((spec_l1Once.f t601 bt616.2.1 bt616.2.2 3).bind fun bt619 => (if bt619.1 = true then ((spec_l8Twin.f k).bind fun t622 => (some (t622, strOfNums (([0] : List Int)), 1))) else ((spec_l1Some.f k t601 bt619.2.1 bt619.2.2).bind fun bt626 => (some (strOfNums t605, strOfNums bt626.1, t613))))))) = some (r1, r2, r3) := H
 have A4 := Aside0.mk A40
 clear A40
 replace H := Option.bind_eq_some_iff.mp H
 obtain ⟨⟨t616, t617, t618⟩, A50, H⟩ := H
 replace H : (if t616 = true then (some (strOfNums t605, strOfNums t605, t613)) else ((spec_l1Once.f t601 t617 t618 3).bind fun bt619 => (if bt619.1 = true then ((spec_l8Twin.f k).bind fun t622 => (some (t622, strOfNums (([0] : List Int)), 1))) else ((spec_l1Some.f k t601 bt619.2.1 bt619.2.2).bind fun bt626 => (some (strOfNums t605, strOfNums bt626.1, t613)))))) = some (r1, r2, r3) := H
 have A5 := Aside0.mk A50
 clear A50
 by_cases c6 : t616 = true
 ·subst c6
  have H1 : (some (strOfNums t605, strOfNums t605, t613)) = some (r1, r2, r3) := by rw [if_pos rfl] at H; exact H
  clear H
  have H := H1
  clear H1
  simp only [Option.some.injEq, Prod.mk.injEq] at H
  obtain ⟨rfl, rfl, rfl⟩ := H
  go_enter Try.func35, Try.ntmps35
  go_wp2_with (first | ((with_reducible refine gate_callee (f := 108) rfl ?_); refine goesL_ (some 9) rfl rfl Try.func108 (by kernel_rfl) rfl #[.slice A0 l0.length c0] rfl (by (try simp only [List.map_toArray, List.map_cons, List.map_nil]); first | done | rfl | (simp only [List.length_drop, List.length_take]; rfl)) ?_; (with_reducible refine (spec_l1New.calls k _ _ l0 t601 t602 t603 w _ ?side1 ?side2 ?side3 A2.out).mono ?_); (case side1 => repeat (first | (with_reducible first | exact HB.out | apply below_alloc | apply pw_below_drewN | apply below_drew1) | exact HB.out)); (case side2 => exact HR0.out); (case side3 => exact HC0.out); rintro e w7 ⟨g604, rfl, hi, hb, hb2⟩; refine ⟨_, rfl, ?_⟩; have n0_ := Aside0.mk (hb); have n1_ := Aside0.mk (hi); clear HB; have HB := n0_; have HI604 := n1_; clear n0_ n1_; (try clear hb); (try clear hb2); (try clear hk); (try clear hi)) | ((with_reducible refine gate_callee (f := 115) rfl ?_); refine goesL_ (some 11) rfl rfl Try.func115 (by kernel_rfl) rfl #[.pointer (some ⟨g604, 0, none⟩)] rfl (by (try simp only [List.map_toArray, List.map_cons, List.map_nil]); first | done | rfl | (simp only [List.length_drop, List.length_take]; rfl)) ?_; (with_reducible refine (spec_l1Some.calls k g604 t601 t602 t603 t605 t608 t609 w _ ?side1 ?side2 A3.out).mono ?_); (case side1 => repeat (first | (with_reducible first | exact HI604.out | apply IsS173.alloc | apply IsS173.drewN | apply IsS173.drew | apply IsS173.set_1 | apply IsS173.set_2) | exact HI604.out)); (case side2 => repeat (first | (with_reducible first | exact HB.out | apply below_alloc | apply pw_below_drewN | apply below_drew1 | refine below_set ?_ (IsS173.ge HI604.out)) | exact HB.out)); rintro e w8 ⟨v606, rfl, ho0, hi, hb, hk⟩; refine ⟨_, rfl, ?_⟩; have n0_ := Aside0.mk (Kd.R_lower ho0 (below_size (by repeat (first | (with_reducible first | exact HB.out | apply below_alloc | apply pw_below_drewN | apply below_drew1 | refine below_set ?_ (IsS173.ge HI604.out)) | exact HB.out)))); have n1_ := Aside0.mk (hb); have n2_ := Aside0.mk (hi); clear HB; clear HI604; have HO607 := n0_; have HB := n1_; have HI604 := n2_; clear n0_ n1_ n2_; (try clear hb); (try clear hb2); (try clear hk); (try clear hi); (try clear ho0); have hcv9 := own_string (P := Try.prog) Try.underlying29 Try.underlying5 Try.underlying9 (Kd.own_of_R HO607.out)) | ((with_reducible refine gate_dst (N := 14) rfl ?_); refine Kd.R_lit (Kd.int .i64) _ 3 ?hg (N := 14) ?hd (xs := ([0, 0, 1, 32, 33, (-1)] : List Int)) (inner := [.int .i64 0, .int .i64 0, .int .i64 1, .int .i64 32, .int .i64 33, .int .i64 (-1)]) (ok := fun _ => True) (okp := fun _ => True) ?hr ?hp (fun _ hk => hk) trivial (Below.refl _ _) (Nat.le_refl _) (by simp) ?_; (case hd => rfl); (case hg => rfl); (case hr => first | (go_simp; done) | (go_simp; rfl)); (case hp => exact (Reps.one (show Kd.M (Kd.int .i64) _ _ _ 0 [.int .i64 0] from rfl) (Reps.one (show Kd.M (Kd.int .i64) _ _ _ 0 [.int .i64 0] from rfl) (Reps.one (show Kd.M (Kd.int .i64) _ _ _ 1 [.int .i64 1] from rfl) (Reps.one (show Kd.M (Kd.int .i64) _ _ _ 32 [.int .i64 32] from rfl) (Reps.one (show Kd.M (Kd.int .i64) _ _ _ 33 [.int .i64 33] from rfl) (Reps.one (show Kd.M (Kd.int .i64) _ _ _ (-1) [.int .i64 (-1)] from rfl) (Reps.none _ _)))))))); intro v611 w10 ho11 hb hg_ hnew_; clear hg_ hnew_; (first | rw [← Ny610.out] at ho11 | (simp only [Int.reduceToNat] at ho11; rw [← Ny610.out] at ho11)); have n0_ := Aside0.mk (Kd.R_below (by (with_reducible repeat (first | apply Kd.R_alloc | apply Kd.R_drewN | apply Kd.R_drew)); exact HO607.out) hb); have n1_ := Aside0.mk (Kd.R_lower ho11 (below_size (by repeat (first | (with_reducible first | exact HB.out | apply below_alloc | apply pw_below_drewN | apply below_drew1 | refine below_set ?_ (IsS173.ge HI604.out)) | exact HB.out)))); have n2_ := Aside0.mk (IsS173.below (by repeat (first | (with_reducible first | exact HI604.out | apply IsS173.alloc | apply IsS173.drewN | apply IsS173.drew | apply IsS173.set_1 | apply IsS173.set_2) | exact HI604.out)) hb); have n3_ := Aside0.mk (below_step (by repeat (first | (with_reducible first | exact HB.out | apply below_alloc | apply pw_below_drewN | apply below_drew1 | refine below_set ?_ (IsS173.ge HI604.out)) | exact HB.out)) hb); clear HO607; clear HI604; clear HB; have HO607 := n0_; have HO612 := n1_; have HI604 := n2_; have HB := n3_; clear n0_ n1_ n2_ n3_; clear hb ho11; obtain ⟨Ao12, co12, eo12⟩ := Kd.R_slice HO612.out; subst eo12) | ((with_reducible refine gate_callee (f := 116) rfl ?_); refine goesL_ (some 15) rfl rfl Try.func116 (by kernel_rfl) rfl #[.pointer (some ⟨g604, 0, none⟩), .slice Ao12 y610.length co12] rfl (by (try simp only [List.map_toArray, List.map_cons, List.map_nil]); first | done | rfl | (simp only [List.length_drop, List.length_take]; rfl)) ?_; (with_reducible refine (spec_l1Int.calls g604 t601 t608 t609 _ _ y610 t613 t614 t615 w _ ?side1 ?side2 ?side3 ?side4 ?side5 A4.out).mono ?_); (case side1 => repeat (first | (with_reducible first | exact HI604.out | apply IsS173.alloc | apply IsS173.drewN | apply IsS173.drew | apply IsS173.set_1 | apply IsS173.set_2) | exact HI604.out)); (case side2 => repeat (first | (with_reducible first | exact HB.out | apply below_alloc | apply pw_below_drewN | apply below_drew1 | refine below_set ?_ (IsS173.ge HI604.out)) | exact HB.out)); (case side3 => repeat (first | exact (Kd.R_reads' HO612.out).2.2 | (with_reducible refine Kd.C_alloc ?_ _) | (with_reducible refine Kd.C_drewN ?_ _) | (with_reducible refine Kd.C_drew ?_))); (case side4 => exact (Kd.R_reads' HO612.out).2.1); (case side5 => exact far_slice (IsS173.own_ne HI604.out HO612.out (by decide))); rintro e w13 ⟨rfl, hi, hb, hk⟩; refine ⟨_, rfl, ?_⟩; have n0_ := Aside0.mk (Kd.R_mono (Kd.R_keep (IsS173.apart (show IsS173 w _ g604 t601 t608 t609 from by repeat (first | (with_reducible first | exact HI604.out | apply IsS173.alloc | apply IsS173.drewN | apply IsS173.drew | apply IsS173.set_1 | apply IsS173.set_2) | exact HI604.out)) (by (with_reducible repeat (first | apply Kd.R_alloc | apply Kd.R_drewN | apply Kd.R_drew)); exact HO607.out) (by decide)) hk (fun _ h => h.2)) (fun _ h => h.1)); have n1_ := Aside0.mk (Kd.R_mono (Kd.R_keep (IsS173.apart (show IsS173 w _ g604 t601 t608 t609 from by repeat (first | (with_reducible first | exact HI604.out | apply IsS173.alloc | apply IsS173.drewN | apply IsS173.drew | apply IsS173.set_1 | apply IsS173.set_2) | exact HI604.out)) (by (with_reducible repeat (first | apply Kd.R_alloc | apply Kd.R_drewN | apply Kd.R_drew)); exact HO612.out) (by decide)) hk (fun _ h => h.2)) (fun _ h => h.1)); have n2_ := Aside0.mk (hb); have n3_ := Aside0.mk (hi); clear HO607; clear HO612; clear HB; clear HI604; have HO607 := n0_; have HO612 := n1_; have HB := n2_; have HI604 := n3_; clear n0_ n1_ n2_ n3_; (try clear hb); (try clear hb2); (try clear hk); (try clear hi)) | ((with_reducible refine gate_callee (f := 110) rfl ?_); refine goesL_ (some 17) rfl rfl Try.func110 (by kernel_rfl) rfl #[.pointer (some ⟨g604, 0, none⟩), .int .i64 4] rfl (by (try simp only [List.map_toArray, List.map_cons, List.map_nil]); first | done | rfl | (simp only [List.length_drop, List.length_take]; rfl)) ?_; (with_reducible refine (spec_l1Once.calls g604 t601 t614 t615 4 true t617 t618 w _ ?side1 ?side2 A5.out).mono ?_); (case side1 => repeat (first | (with_reducible first | exact HI604.out | apply IsS173.alloc | apply IsS173.drewN | apply IsS173.drew | apply IsS173.set_1 | apply IsS173.set_2) | exact HI604.out)); (case side2 => repeat (first | (with_reducible first | exact HB.out | apply below_alloc | apply pw_below_drewN | apply below_drew1 | refine below_set ?_ (IsS173.ge HI604.out)) | exact HB.out)); rintro e w14 ⟨rfl, hi, hb, hk⟩; refine ⟨_, rfl, ?_⟩; have n0_ := Aside0.mk (Kd.R_mono (Kd.R_keep (IsS173.apart (show IsS173 w _ g604 t601 t614 t615 from by repeat (first | (with_reducible first | exact HI604.out | apply IsS173.alloc | apply IsS173.drewN | apply IsS173.drew | apply IsS173.set_1 | apply IsS173.set_2) | exact HI604.out)) (by (with_reducible repeat (first | apply Kd.R_alloc | apply Kd.R_drewN | apply Kd.R_drew)); exact HO607.out) (by decide)) hk (fun _ h => h.2)) (fun _ h => h.1)); have n1_ := Aside0.mk (Kd.R_mono (Kd.R_keep (IsS173.apart (show IsS173 w _ g604 t601 t614 t615 from by repeat (first | (with_reducible first | exact HI604.out | apply IsS173.alloc | apply IsS173.drewN | apply IsS173.drew | apply IsS173.set_1 | apply IsS173.set_2) | exact HI604.out)) (by (with_reducible repeat (first | apply Kd.R_alloc | apply Kd.R_drewN | apply Kd.R_drew)); exact HO612.out) (by decide)) hk (fun _ h => h.2)) (fun _ h => h.1)); have n2_ := Aside0.mk (hb); have n3_ := Aside0.mk (hi); clear HO607; clear HO612; clear HB; clear HI604; have HO607 := n0_; have HO612 := n1_; have HB := n2_; have HI604 := n3_; clear n0_ n1_ n2_ n3_; (try clear hb); (try clear hb2); (try clear hk); (try clear hi)))
  go_ret3
  exact ⟨by first | rfl | (simp [errW_none, errW_some] <;> rfl) | (simp [*, errW_none, errW_some] <;> rfl), by repeat (first | (with_reducible first | exact HB.out | apply below_alloc | apply pw_below_drewN | apply below_drew1 | refine below_set ?_ (IsS173.ge HI604.out)) | exact HB.out)⟩
 ·replace c6 := Bool.eq_false_iff.mpr c6
  subst c6
  have H1 : ((spec_l1Once.f t601 t617 t618 3).bind fun bt619 => (if bt619.1 = true then ((spec_l8Twin.f k).bind fun t622 => (some (t622, strOfNums (([0] : List Int)), 1))) else ((spec_l1Some.f k t601 bt619.2.1 bt619.2.2).bind fun bt626 => (some (strOfNums t605, strOfNums bt626.1, t613))))) = some (r1, r2, r3) := by rw [if_neg (show ¬ (false = true) by decide)] at H; exact H
  clear H
  have H := H1
  clear H1
  replace H := Option.bind_eq_some_iff.mp H
  obtain ⟨⟨t619, t620, t621⟩, A150, H⟩ := H
  replace H : (if t619 = true then ((spec_l8Twin.f k).bind fun t622 => (some (t622, strOfNums (([0] : List Int)), 1))) else ((spec_l1Some.f k t601 t620 t621).bind fun bt626 => (some (strOfNums t605, strOfNums bt626.1, t613)))) = some (r1, r2, r3) := H
  have A15 := Aside0.mk A150
  clear A150
  by_cases c16 : t619 = true
  ·subst c16
   have H1 : ((spec_l8Twin.f k).bind fun t622 => (some (t622, strOfNums (([0] : List Int)), 1))) = some (r1, r2, r3) := by rw [if_pos rfl] at H; exact H
   clear H
   have H := H1
   clear H1
   replace H := Option.bind_eq_some_iff.mp H
   obtain ⟨t622, A170, H⟩ := H
   replace H : (some (t622, strOfNums (([0] : List Int)), 1)) = some (r1, r2, r3) := H
   have A17 := Aside0.mk A170
   clear A170
   obtain ⟨y623, hy623⟩ : ∃ y_ : List Int, y_ = (([0] : List Int)) := ⟨_, rfl⟩
   replace H : (some (t622, strOfNums y623, 1)) = some (r1, r2, r3) := by first | (rw [hy623]; with_reducible exact H) | (have H2_ := (Option.bind_some _ _).symm.trans H; rw [hy623]; with_reducible exact H2_) | (have H2_ := (Option.bind_some _ _).symm.trans H; with_reducible exact H2_) | with_reducible exact H | (rw [hy623]; exact H) | exact H
   have Ny623 := Aside0.mk hy623
   clear hy623
   simp only [Option.some.injEq, Prod.mk.injEq] at H
   obtain ⟨rfl, rfl, rfl⟩ := H
   go_enter Try.func35, Try.ntmps35
   try go_wp2_with (first | ((with_reducible refine gate_callee (f := 108) rfl ?_); refine goesL_ (some 9) rfl rfl Try.func108 (by kernel_rfl) rfl #[.slice A0 l0.length c0] rfl (by (try simp only [List.map_toArray, List.map_cons, List.map_nil]); first | done | rfl | (simp only [List.length_drop, List.length_take]; rfl)) ?_; (with_reducible refine (spec_l1New.calls k _ _ l0 t601 t602 t603 w _ ?side1 ?side2 ?side3 A2.out).mono ?_); (case side1 => repeat (first | (with_reducible first | exact HB.out | apply below_alloc | apply pw_below_drewN | apply below_drew1) | exact HB.out)); (case side2 => exact HR0.out); (case side3 => exact HC0.out); rintro e w18 ⟨g604, rfl, hi, hb, hb2⟩; refine ⟨_, rfl, ?_⟩; have n0_ := Aside0.mk (hb); have n1_ := Aside0.mk (hi); clear HB; have HB := n0_; have HI604 := n1_; clear n0_ n1_; (try clear hb); (try clear hb2); (try clear hk); (try clear hi)) | ((with_reducible refine gate_callee (f := 115) rfl ?_); refine goesL_ (some 11) rfl rfl Try.func115 (by kernel_rfl) rfl #[.pointer (some ⟨g604, 0, none⟩)] rfl (by (try simp only [List.map_toArray, List.map_cons, List.map_nil]); first | done | rfl | (simp only [List.length_drop, List.length_take]; rfl)) ?_; (with_reducible refine (spec_l1Some.calls k g604 t601 t602 t603 t605 t608 t609 w _ ?side1 ?side2 A3.out).mono ?_); (case side1 => repeat (first | (with_reducible first | exact HI604.out | apply IsS173.alloc | apply IsS173.drewN | apply IsS173.drew | apply IsS173.set_1 | apply IsS173.set_2) | exact HI604.out)); (case side2 => repeat (first | (with_reducible first | exact HB.out | apply below_alloc | apply pw_below_drewN | apply below_drew1 | refine below_set ?_ (IsS173.ge HI604.out)) | exact HB.out)); rintro e w19 ⟨v606, rfl, ho0, hi, hb, hk⟩; refine ⟨_, rfl, ?_⟩; have n0_ := Aside0.mk (Kd.R_lower ho0 (below_size (by repeat (first | (with_reducible first | exact HB.out | apply below_alloc | apply pw_below_drewN | apply below_drew1 | refine below_set ?_ (IsS173.ge HI604.out)) | exact HB.out)))); have n1_ := Aside0.mk (hb); have n2_ := Aside0.mk (hi); clear HB; clear HI604; have HO607 := n0_; have HB := n1_; have HI604 := n2_; clear n0_ n1_ n2_; (try clear hb); (try clear hb2); (try clear hk); (try clear hi); (try clear ho0); have hcv20 := own_string (P := Try.prog) Try.underlying29 Try.underlying5 Try.underlying9 (Kd.own_of_R HO607.out)) | ((with_reducible refine gate_dst (N := 14) rfl ?_); refine Kd.R_lit (Kd.int .i64) _ 3 ?hg (N := 14) ?hd (xs := ([0, 0, 1, 32, 33, (-1)] : List Int)) (inner := [.int .i64 0, .int .i64 0, .int .i64 1, .int .i64 32, .int .i64 33, .int .i64 (-1)]) (ok := fun _ => True) (okp := fun _ => True) ?hr ?hp (fun _ hk => hk) trivial (Below.refl _ _) (Nat.le_refl _) (by simp) ?_; (case hd => rfl); (case hg => rfl); (case hr => first | (go_simp; done) | (go_simp; rfl)); (case hp => exact (Reps.one (show Kd.M (Kd.int .i64) _ _ _ 0 [.int .i64 0] from rfl) (Reps.one (show Kd.M (Kd.int .i64) _ _ _ 0 [.int .i64 0] from rfl) (Reps.one (show Kd.M (Kd.int .i64) _ _ _ 1 [.int .i64 1] from rfl) (Reps.one (show Kd.M (Kd.int .i64) _ _ _ 32 [.int .i64 32] from rfl) (Reps.one (show Kd.M (Kd.int .i64) _ _ _ 33 [.int .i64 33] from rfl) (Reps.one (show Kd.M (Kd.int .i64) _ _ _ (-1) [.int .i64 (-1)] from rfl) (Reps.none _ _)))))))); intro v611 w21 ho22 hb hg_ hnew_; clear hg_ hnew_; (first | rw [← Ny610.out] at ho22 | (simp only [Int.reduceToNat] at ho22; rw [← Ny610.out] at ho22)); have n0_ := Aside0.mk (Kd.R_below (by (with_reducible repeat (first | apply Kd.R_alloc | apply Kd.R_drewN | apply Kd.R_drew)); exact HO607.out) hb); have n1_ := Aside0.mk (Kd.R_lower ho22 (below_size (by repeat (first | (with_reducible first | exact HB.out | apply below_alloc | apply pw_below_drewN | apply below_drew1 | refine below_set ?_ (IsS173.ge HI604.out)) | exact HB.out)))); have n2_ := Aside0.mk (IsS173.below (by repeat (first | (with_reducible first | exact HI604.out | apply IsS173.alloc | apply IsS173.drewN | apply IsS173.drew | apply IsS173.set_1 | apply IsS173.set_2) | exact HI604.out)) hb); have n3_ := Aside0.mk (below_step (by repeat (first | (with_reducible first | exact HB.out | apply below_alloc | apply pw_below_drewN | apply below_drew1 | refine below_set ?_ (IsS173.ge HI604.out)) | exact HB.out)) hb); clear HO607; clear HI604; clear HB; have HO607 := n0_; have HO612 := n1_; have HI604 := n2_; have HB := n3_; clear n0_ n1_ n2_ n3_; clear hb ho22; obtain ⟨Ao23, co23, eo23⟩ := Kd.R_slice HO612.out; subst eo23) | ((with_reducible refine gate_callee (f := 116) rfl ?_); refine goesL_ (some 15) rfl rfl Try.func116 (by kernel_rfl) rfl #[.pointer (some ⟨g604, 0, none⟩), .slice Ao23 y610.length co23] rfl (by (try simp only [List.map_toArray, List.map_cons, List.map_nil]); first | done | rfl | (simp only [List.length_drop, List.length_take]; rfl)) ?_; (with_reducible refine (spec_l1Int.calls g604 t601 t608 t609 _ _ y610 t613 t614 t615 w _ ?side1 ?side2 ?side3 ?side4 ?side5 A4.out).mono ?_); (case side1 => repeat (first | (with_reducible first | exact HI604.out | apply IsS173.alloc | apply IsS173.drewN | apply IsS173.drew | apply IsS173.set_1 | apply IsS173.set_2) | exact HI604.out)); (case side2 => repeat (first | (with_reducible first | exact HB.out | apply below_alloc | apply pw_below_drewN | apply below_drew1 | refine below_set ?_ (IsS173.ge HI604.out)) | exact HB.out)); (case side3 => repeat (first | exact (Kd.R_reads' HO612.out).2.2 | (with_reducible refine Kd.C_alloc ?_ _) | (with_reducible refine Kd.C_drewN ?_ _) | (with_reducible refine Kd.C_drew ?_))); (case side4 => exact (Kd.R_reads' HO612.out).2.1); (case side5 => exact far_slice (IsS173.own_ne HI604.out HO612.out (by decide))); rintro e w24 ⟨rfl, hi, hb, hk⟩; refine ⟨_, rfl, ?_⟩; have n0_ := Aside0.mk (Kd.R_mono (Kd.R_keep (IsS173.apart (show IsS173 w _ g604 t601 t608 t609 from by repeat (first | (with_reducible first | exact HI604.out | apply IsS173.alloc | apply IsS173.drewN | apply IsS173.drew | apply IsS173.set_1 | apply IsS173.set_2) | exact HI604.out)) (by (with_reducible repeat (first | apply Kd.R_alloc | apply Kd.R_drewN | apply Kd.R_drew)); exact HO607.out) (by decide)) hk (fun _ h => h.2)) (fun _ h => h.1)); have n1_ := Aside0.mk (Kd.R_mono (Kd.R_keep (IsS173.apart (show IsS173 w _ g604 t601 t608 t609 from by repeat (first | (with_reducible first | exact HI604.out | apply IsS173.alloc | apply IsS173.drewN | apply IsS173.drew | apply IsS173.set_1 | apply IsS173.set_2) | exact HI604.out)) (by (with_reducible repeat (first | apply Kd.R_alloc | apply Kd.R_drewN | apply Kd.R_drew)); exact HO612.out) (by decide)) hk (fun _ h => h.2)) (fun _ h => h.1)); have n2_ := Aside0.mk (hb); have n3_ := Aside0.mk (hi); clear HO607; clear HO612; clear HB; clear HI604; have HO607 := n0_; have HO612 := n1_; have HB := n2_; have HI604 := n3_; clear n0_ n1_ n2_ n3_; (try clear hb); (try clear hb2); (try clear hk); (try clear hi)) | ((with_reducible refine gate_callee (f := 110) rfl ?_); refine goesL_ (some 17) rfl rfl Try.func110 (by kernel_rfl) rfl #[.pointer (some ⟨g604, 0, none⟩), .int .i64 4] rfl (by (try simp only [List.map_toArray, List.map_cons, List.map_nil]); first | done | rfl | (simp only [List.length_drop, List.length_take]; rfl)) ?_; (with_reducible refine (spec_l1Once.calls g604 t601 t614 t615 4 false t617 t618 w _ ?side1 ?side2 A5.out).mono ?_); (case side1 => repeat (first | (with_reducible first | exact HI604.out | apply IsS173.alloc | apply IsS173.drewN | apply IsS173.drew | apply IsS173.set_1 | apply IsS173.set_2) | exact HI604.out)); (case side2 => repeat (first | (with_reducible first | exact HB.out | apply below_alloc | apply pw_below_drewN | apply below_drew1 | refine below_set ?_ (IsS173.ge HI604.out)) | exact HB.out)); rintro e w25 ⟨rfl, hi, hb, hk⟩; refine ⟨_, rfl, ?_⟩; have n0_ := Aside0.mk (Kd.R_mono (Kd.R_keep (IsS173.apart (show IsS173 w _ g604 t601 t614 t615 from by repeat (first | (with_reducible first | exact HI604.out | apply IsS173.alloc | apply IsS173.drewN | apply IsS173.drew | apply IsS173.set_1 | apply IsS173.set_2) | exact HI604.out)) (by (with_reducible repeat (first | apply Kd.R_alloc | apply Kd.R_drewN | apply Kd.R_drew)); exact HO607.out) (by decide)) hk (fun _ h => h.2)) (fun _ h => h.1)); have n1_ := Aside0.mk (Kd.R_mono (Kd.R_keep (IsS173.apart (show IsS173 w _ g604 t601 t614 t615 from by repeat (first | (with_reducible first | exact HI604.out | apply IsS173.alloc | apply IsS173.drewN | apply IsS173.drew | apply IsS173.set_1 | apply IsS173.set_2) | exact HI604.out)) (by (with_reducible repeat (first | apply Kd.R_alloc | apply Kd.R_drewN | apply Kd.R_drew)); exact HO612.out) (by decide)) hk (fun _ h => h.2)) (fun _ h => h.1)); have n2_ := Aside0.mk (hb); have n3_ := Aside0.mk (hi); clear HO607; clear HO612; clear HB; clear HI604; have HO607 := n0_; have HO612 := n1_; have HB := n2_; have HI604 := n3_; clear n0_ n1_ n2_ n3_; (try clear hb); (try clear hb2); (try clear hk); (try clear hi)) | ((with_reducible refine gate_callee (f := 110) rfl ?_); refine goesL_ (some 22) rfl rfl Try.func110 (by kernel_rfl) rfl #[.pointer (some ⟨g604, 0, none⟩), .int .i64 3] rfl (by (try simp only [List.map_toArray, List.map_cons, List.map_nil]); first | done | rfl | (simp only [List.length_drop, List.length_take]; rfl)) ?_; (with_reducible refine (spec_l1Once.calls g604 t601 t617 t618 3 true t620 t621 w _ ?side1 ?side2 A15.out).mono ?_); (case side1 => repeat (first | (with_reducible first | exact HI604.out | apply IsS173.alloc | apply IsS173.drewN | apply IsS173.drew | apply IsS173.set_1 | apply IsS173.set_2) | exact HI604.out)); (case side2 => repeat (first | (with_reducible first | exact HB.out | apply below_alloc | apply pw_below_drewN | apply below_drew1 | refine below_set ?_ (IsS173.ge HI604.out)) | exact HB.out)); rintro e w26 ⟨rfl, hi, hb, hk⟩; refine ⟨_, rfl, ?_⟩; have n0_ := Aside0.mk (Kd.R_mono (Kd.R_keep (IsS173.apart (show IsS173 w _ g604 t601 t617 t618 from by repeat (first | (with_reducible first | exact HI604.out | apply IsS173.alloc | apply IsS173.drewN | apply IsS173.drew | apply IsS173.set_1 | apply IsS173.set_2) | exact HI604.out)) (by (with_reducible repeat (first | apply Kd.R_alloc | apply Kd.R_drewN | apply Kd.R_drew)); exact HO607.out) (by decide)) hk (fun _ h => h.2)) (fun _ h => h.1)); have n1_ := Aside0.mk (Kd.R_mono (Kd.R_keep (IsS173.apart (show IsS173 w _ g604 t601 t617 t618 from by repeat (first | (with_reducible first | exact HI604.out | apply IsS173.alloc | apply IsS173.drewN | apply IsS173.drew | apply IsS173.set_1 | apply IsS173.set_2) | exact HI604.out)) (by (with_reducible repeat (first | apply Kd.R_alloc | apply Kd.R_drewN | apply Kd.R_drew)); exact HO612.out) (by decide)) hk (fun _ h => h.2)) (fun _ h => h.1)); have n2_ := Aside0.mk (hb); have n3_ := Aside0.mk (hi); clear HO607; clear HO612; clear HB; clear HI604; have HO607 := n0_; have HO612 := n1_; have HB := n2_; have HI604 := n3_; clear n0_ n1_ n2_ n3_; (try clear hb); (try clear hb2); (try clear hk); (try clear hi)))
   have n0_ := Aside0.mk (Kd.R_drew HO607.out)
   have n1_ := Aside0.mk (Kd.R_drew HO612.out)
   have n2_ := Aside0.mk (IsS173.drew HI604.out)
   have n3_ := Aside0.mk (below_drew1 HB.out)
   clear HO607
   clear HO612
   clear HI604
   clear HB
   have HO607 := n0_
   have HO612 := n1_
   have HI604 := n2_
   have HB := n3_
   clear n0_ n1_ n2_ n3_
   refine start_ (n := 6) (S := fun w' => True) (ds := []) #[false, false, false, false, false, false] (by kernel_rfl) rfl rfl trivial (fun hHeld => ?_)
   generalize w26.drew = w27 at HO607 HO612 HI604 HB hHeld ⊢
   refine join_ (σ := Value) 2 #[true, true, true, true, false, false] (fun s_ => [(23, .string t622), (24, s_), (25, .string (strOfNums y623)), (2, .string t622)]) (fun s_ w' => (Kd.R (Kd.int .u8) 5 w' w.heap.size (fun k_ => some k_ ≠ (s_ : Value).ownBlock) v606 t605) ∧ (Kd.R (Kd.int .i64) 3 w' w.heap.size (fun _ => True) (.slice Ao23 y610.length co23) y610) ∧ (Kd.R (Kd.int .u8) 5 w' w.heap.size (fun k_ => some k_ ≠ (v606 : Value).ownBlock) s_ y623) ∧ (IsS173 w w' g604 t601 t620 t621) ∧ (Below w.heap.size w w')) ?_ ?_
   rotate_left
   ·intro hCont
    refine two_ (i := 0) (j := 1) (Ni := some 23) (Nj := some 24) #[true, false, false, false, false, false] #[false, true, false, false, false, false] rfl rfl rfl rfl (by kernel_rfl) (by decide) (by decide) (fun K hK => ?_) (fun K hK => ?_)
    ·skip
     refine goes_ Try.func117 (by kernel_rfl) rfl #[] (by rfl) rfl rfl (by (try simp only [List.map_toArray, List.map_cons, List.map_nil]); first | done | rfl | (simp only [List.length_drop, List.length_take]; rfl)) ?_
     with_reducible refine (spec_l8Twin.calls k  t622 _ A17.out).mono ?_
     rintro e w28 ⟨rfl, hb⟩
     refine ⟨_, rfl, ?_⟩
     have n0_ := Aside0.mk (Kd.R_below (by (with_reducible repeat (first | apply Kd.R_alloc | apply Kd.R_drewN | apply Kd.R_drew)); exact HO607.out) hb)
     have n1_ := Aside0.mk (Kd.R_below (by (with_reducible repeat (first | apply Kd.R_alloc | apply Kd.R_drewN | apply Kd.R_drew)); exact HO612.out) hb)
     have n2_ := Aside0.mk (IsS173.below (by repeat (first | (with_reducible first | exact HI604.out | apply IsS173.alloc | apply IsS173.drewN | apply IsS173.drew | apply IsS173.set_1 | apply IsS173.set_2) | exact HI604.out)) hb)
     have n3_ := Aside0.mk (below_step (by repeat (first | (with_reducible first | exact HB.out | apply below_alloc | apply pw_below_drewN | apply below_drew1 | refine below_set ?_ (IsS173.ge HI604.out)) | exact HB.out)) hb)
     clear HO607
     clear HO612
     clear HI604
     clear HB
     have HO607 := n0_
     have HO612 := n1_
     have HI604 := n2_
     have HB := n3_
     clear n0_ n1_ n2_ n3_
     (try clear hb)
     (try clear hb2)
     (try clear hk)
     (try clear hi)
     refine hK.out _ _ trivial (fun hHeld => ?_)
     clear hK K
     refine norm_ (a' := ?_) ?_ ?_
     rotate_left
     ·show Act.put _ (some 23) _ = _
      simp only [Act.put, List.setIfInBounds_toArray, List.set_cons_zero, List.set_cons_succ, i64_w, i32_w]
      rfl
     refine pure_ (i := 3) (N := some 2) (v := ?_) (a' := ?_) #[true, false, false, true, false, false] rfl rfl (by kernel_rfl) (fun _ _ _ h => h) (Or.inl ⟨by rfl, ?_⟩) ?_ ?_
     rotate_left
     ·intro w'
      go_simp
      with_reducible rfl
     rotate_left
     ·simp only [Act.put, List.setIfInBounds_toArray, List.set_cons_zero, List.set_cons_succ, i64_w, i32_w]
      rfl
     refine one_ (i := 1) (N := some 24) #[true, true, false, true, false, false] rfl rfl (by kernel_rfl) (by decide) (fun K hK => ?_)
     refine Kd.R_lit_step (Kd.int .u8) _ 5 ?hg (N := 24) ?hd (xs := ([0] : List Int)) (inner := [.int .u8 0]) (ok := fun _ => True) (okp := fun _ => True) ?hr ?hp (fun _ hk => hk) trivial (Below.refl _ _) (Nat.le_refl _) (by simp) ?_; (case hd => rfl); (case hg => rfl); (case hr => first | (go_simp; done) | (go_simp; rfl)); (case hp => exact (Reps.one (show Kd.M (Kd.int .u8) _ _ _ 0 [.int .u8 0] from rfl) (Reps.none _ _)))
     intro v624 w29 ho30 hb hg_ hnew_
     clear hg_ hnew_
     (first | rw [← Ny623.out] at ho30 | (simp only [Int.reduceToNat] at ho30; rw [← Ny623.out] at ho30))
     have n0_ := Aside0.mk (Kd.R_elder' (by (with_reducible repeat (first | apply Kd.R_alloc | apply Kd.R_drewN | apply Kd.R_drew)); exact HO607.out) (Kd.R_base ho30) hb)
     have n1_ := Aside0.mk (Kd.R_below (by (with_reducible repeat (first | apply Kd.R_alloc | apply Kd.R_drewN | apply Kd.R_drew)); exact HO612.out) hb)
     have n2_ := Aside0.mk (Kd.R_lower (Kd.R_new' ho30 (Kd.R_lt (by (with_reducible repeat (first | apply Kd.R_alloc | apply Kd.R_drewN | apply Kd.R_drew)); exact HO607.out))) (below_size (by repeat (first | (with_reducible first | exact HB.out | apply below_alloc | apply pw_below_drewN | apply below_drew1 | refine below_set ?_ (IsS173.ge HI604.out)) | exact HB.out))))
     have n3_ := Aside0.mk (IsS173.below (by repeat (first | (with_reducible first | exact HI604.out | apply IsS173.alloc | apply IsS173.drewN | apply IsS173.drew | apply IsS173.set_1 | apply IsS173.set_2) | exact HI604.out)) hb)
     have n4_ := Aside0.mk (below_step (by repeat (first | (with_reducible first | exact HB.out | apply below_alloc | apply pw_below_drewN | apply below_drew1 | refine below_set ?_ (IsS173.ge HI604.out)) | exact HB.out)) hb)
     clear HO607
     clear HO612
     clear HI604
     clear HB
     have HO607 := n0_
     have HO612 := n1_
     have HO625 := n2_
     have HI604 := n3_
     have HB := n4_
     clear n0_ n1_ n2_ n3_ n4_
     clear hb ho30
     refine hK.out _ _ trivial (fun hHeld => ?_)
     clear hK K
     refine norm_ (a' := ?_) ?_ ?_
     rotate_left
     ·show Act.put _ (some 24) _ = _
      simp only [Act.put, List.setIfInBounds_toArray, List.set_cons_zero, List.set_cons_succ, i64_w, i32_w]
      rfl
     refine one_ (i := 2) (N := some 25) #[true, true, true, true, false, false] rfl rfl (by kernel_rfl) (by decide) (fun K hK => ?_)
     have hcv31 := own_string (P := Try.prog) Try.underlying29 Try.underlying5 Try.underlying9 (Kd.own_of_R HO625.out)
     refine value_ (w1 := ?_) (v := ?_) (by rfl) rfl ?_ ?_
     rotate_left 2
     ·go_simp
      constructor
      ·rfl
      ·rfl
     clear hcv31
     refine hK.out _ _ trivial (fun hHeld => ?_)
     clear hK K
     refine norm_ (a' := ?_) ?_ ?_
     rotate_left
     ·show Act.put _ (some 25) _ = _
      simp only [Act.put, List.setIfInBounds_toArray, List.set_cons_zero, List.set_cons_succ, i64_w, i32_w]
      rfl
     exact norm_ (by simp only [putAll, Act.put, List.setIfInBounds_toArray, List.set_cons_zero, List.set_cons_succ]) (hCont (v624) _ ⟨(by (with_reducible repeat (first | apply Kd.R_alloc | apply Kd.R_drewN | apply Kd.R_drew)); exact Kd.R_mono HO607.out (fun _ hk => hk.2)), (by (with_reducible repeat (first | apply Kd.R_alloc | apply Kd.R_drewN | apply Kd.R_drew)); exact HO612.out), (by (with_reducible repeat (first | apply Kd.R_alloc | apply Kd.R_drewN | apply Kd.R_drew)); exact Kd.R_mono HO625.out (fun _ hk => hk.2)), (by repeat (first | (with_reducible first | exact HI604.out | apply IsS173.alloc | apply IsS173.drewN | apply IsS173.drew | apply IsS173.set_1 | apply IsS173.set_2) | exact HI604.out)), (by repeat (first | (with_reducible first | exact HB.out | apply below_alloc | apply pw_below_drewN | apply below_drew1 | refine below_set ?_ (IsS173.ge HI604.out)) | exact HB.out))⟩)
    ·skip
     refine Kd.R_lit_step (Kd.int .u8) _ 5 ?hg (N := 24) ?hd (xs := ([0] : List Int)) (inner := [.int .u8 0]) (ok := fun _ => True) (okp := fun _ => True) ?hr ?hp (fun _ hk => hk) trivial (Below.refl _ _) (Nat.le_refl _) (by simp) ?_; (case hd => rfl); (case hg => rfl); (case hr => first | (go_simp; done) | (go_simp; rfl)); (case hp => exact (Reps.one (show Kd.M (Kd.int .u8) _ _ _ 0 [.int .u8 0] from rfl) (Reps.none _ _)))
     intro v624 w28 ho29 hb hg_ hnew_
     clear hg_ hnew_
     (first | rw [← Ny623.out] at ho29 | (simp only [Int.reduceToNat] at ho29; rw [← Ny623.out] at ho29))
     have n0_ := Aside0.mk (Kd.R_elder' (by (with_reducible repeat (first | apply Kd.R_alloc | apply Kd.R_drewN | apply Kd.R_drew)); exact HO607.out) (Kd.R_base ho29) hb)
     have n1_ := Aside0.mk (Kd.R_below (by (with_reducible repeat (first | apply Kd.R_alloc | apply Kd.R_drewN | apply Kd.R_drew)); exact HO612.out) hb)
     have n2_ := Aside0.mk (Kd.R_lower (Kd.R_new' ho29 (Kd.R_lt (by (with_reducible repeat (first | apply Kd.R_alloc | apply Kd.R_drewN | apply Kd.R_drew)); exact HO607.out))) (below_size (by repeat (first | (with_reducible first | exact HB.out | apply below_alloc | apply pw_below_drewN | apply below_drew1 | refine below_set ?_ (IsS173.ge HI604.out)) | exact HB.out))))
     have n3_ := Aside0.mk (IsS173.below (by repeat (first | (with_reducible first | exact HI604.out | apply IsS173.alloc | apply IsS173.drewN | apply IsS173.drew | apply IsS173.set_1 | apply IsS173.set_2) | exact HI604.out)) hb)
     have n4_ := Aside0.mk (below_step (by repeat (first | (with_reducible first | exact HB.out | apply below_alloc | apply pw_below_drewN | apply below_drew1 | refine below_set ?_ (IsS173.ge HI604.out)) | exact HB.out)) hb)
     clear HO607
     clear HO612
     clear HI604
     clear HB
     have HO607 := n0_
     have HO612 := n1_
     have HO625 := n2_
     have HI604 := n3_
     have HB := n4_
     clear n0_ n1_ n2_ n3_ n4_
     clear hb ho29
     refine hK.out _ _ trivial (fun hHeld => ?_)
     clear hK K
     refine norm_ (a' := ?_) ?_ ?_
     rotate_left
     ·show Act.put _ (some 24) _ = _
      simp only [Act.put, List.setIfInBounds_toArray, List.set_cons_zero, List.set_cons_succ, i64_w, i32_w]
      rfl
     refine two_ (i := 0) (j := 2) (Ni := some 23) (Nj := some 25) #[true, true, false, false, false, false] #[false, true, true, false, false, false] rfl rfl rfl rfl (by kernel_rfl) (by decide) (by decide) (fun K hK => ?_) (fun K hK => ?_)
     ·skip
      refine goes_ Try.func117 (by kernel_rfl) rfl #[] (by rfl) rfl rfl (by (try simp only [List.map_toArray, List.map_cons, List.map_nil]); first | done | rfl | (simp only [List.length_drop, List.length_take]; rfl)) ?_
      with_reducible refine (spec_l8Twin.calls k  t622 _ A17.out).mono ?_
      rintro e w30 ⟨rfl, hb⟩
      refine ⟨_, rfl, ?_⟩
      have n0_ := Aside0.mk (Kd.R_below (by (with_reducible repeat (first | apply Kd.R_alloc | apply Kd.R_drewN | apply Kd.R_drew)); exact HO607.out) hb)
      have n1_ := Aside0.mk (Kd.R_below (by (with_reducible repeat (first | apply Kd.R_alloc | apply Kd.R_drewN | apply Kd.R_drew)); exact HO612.out) hb)
      have n2_ := Aside0.mk (Kd.R_below (by (with_reducible repeat (first | apply Kd.R_alloc | apply Kd.R_drewN | apply Kd.R_drew)); exact HO625.out) hb)
      have n3_ := Aside0.mk (IsS173.below (by repeat (first | (with_reducible first | exact HI604.out | apply IsS173.alloc | apply IsS173.drewN | apply IsS173.drew | apply IsS173.set_1 | apply IsS173.set_2) | exact HI604.out)) hb)
      have n4_ := Aside0.mk (below_step (by repeat (first | (with_reducible first | exact HB.out | apply below_alloc | apply pw_below_drewN | apply below_drew1 | refine below_set ?_ (IsS173.ge HI604.out)) | exact HB.out)) hb)
      clear HO607
      clear HO612
      clear HO625
      clear HI604
      clear HB
      have HO607 := n0_
      have HO612 := n1_
      have HO625 := n2_
      have HI604 := n3_
      have HB := n4_
      clear n0_ n1_ n2_ n3_ n4_
      (try clear hb)
      (try clear hb2)
      (try clear hk)
      (try clear hi)
      refine hK.out _ _ trivial (fun hHeld => ?_)
      clear hK K
      refine norm_ (a' := ?_) ?_ ?_
      rotate_left
      ·show Act.put _ (some 23) _ = _
       simp only [Act.put, List.setIfInBounds_toArray, List.set_cons_zero, List.set_cons_succ, i64_w, i32_w]
       rfl
      refine pure_ (i := 3) (N := some 2) (v := ?_) (a' := ?_) #[true, true, false, true, false, false] rfl rfl (by kernel_rfl) (fun _ _ _ h => h) (Or.inl ⟨by rfl, ?_⟩) ?_ ?_
      rotate_left
      ·intro w'
       go_simp
       with_reducible rfl
      rotate_left
      ·simp only [Act.put, List.setIfInBounds_toArray, List.set_cons_zero, List.set_cons_succ, i64_w, i32_w]
       rfl
      refine one_ (i := 2) (N := some 25) #[true, true, true, true, false, false] rfl rfl (by kernel_rfl) (by decide) (fun K hK => ?_)
      have hcv31 := own_string (P := Try.prog) Try.underlying29 Try.underlying5 Try.underlying9 (Kd.own_of_R HO625.out)
      refine value_ (w1 := ?_) (v := ?_) (by rfl) rfl ?_ ?_
      rotate_left 2
      ·go_simp
       constructor
       ·rfl
       ·rfl
      clear hcv31
      refine hK.out _ _ trivial (fun hHeld => ?_)
      clear hK K
      refine norm_ (a' := ?_) ?_ ?_
      rotate_left
      ·show Act.put _ (some 25) _ = _
       simp only [Act.put, List.setIfInBounds_toArray, List.set_cons_zero, List.set_cons_succ, i64_w, i32_w]
       rfl
      exact norm_ (by simp only [putAll, Act.put, List.setIfInBounds_toArray, List.set_cons_zero, List.set_cons_succ]) (hCont (v624) _ ⟨(by (with_reducible repeat (first | apply Kd.R_alloc | apply Kd.R_drewN | apply Kd.R_drew)); exact Kd.R_mono HO607.out (fun _ hk => hk.2)), (by (with_reducible repeat (first | apply Kd.R_alloc | apply Kd.R_drewN | apply Kd.R_drew)); exact HO612.out), (by (with_reducible repeat (first | apply Kd.R_alloc | apply Kd.R_drewN | apply Kd.R_drew)); exact Kd.R_mono HO625.out (fun _ hk => hk.2)), (by repeat (first | (with_reducible first | exact HI604.out | apply IsS173.alloc | apply IsS173.drewN | apply IsS173.drew | apply IsS173.set_1 | apply IsS173.set_2) | exact HI604.out)), (by repeat (first | (with_reducible first | exact HB.out | apply below_alloc | apply pw_below_drewN | apply below_drew1 | refine below_set ?_ (IsS173.ge HI604.out)) | exact HB.out))⟩)
     ·skip
      have hcv30 := own_string (P := Try.prog) Try.underlying29 Try.underlying5 Try.underlying9 (Kd.own_of_R HO625.out)
      refine value_ (w1 := ?_) (v := ?_) (by rfl) rfl ?_ ?_
      rotate_left 2
      ·go_simp
       constructor
       ·rfl
       ·rfl
      clear hcv30
      refine hK.out _ _ trivial (fun hHeld => ?_)
      clear hK K
      refine norm_ (a' := ?_) ?_ ?_
      rotate_left
      ·show Act.put _ (some 25) _ = _
       simp only [Act.put, List.setIfInBounds_toArray, List.set_cons_zero, List.set_cons_succ, i64_w, i32_w]
       rfl
      refine one_ (i := 0) (N := some 23) #[true, true, true, false, false, false] rfl rfl (by kernel_rfl) (by decide) (fun K hK => ?_)
      refine goes_ Try.func117 (by kernel_rfl) rfl #[] (by rfl) rfl rfl (by (try simp only [List.map_toArray, List.map_cons, List.map_nil]); first | done | rfl | (simp only [List.length_drop, List.length_take]; rfl)) ?_
      with_reducible refine (spec_l8Twin.calls k  t622 _ A17.out).mono ?_
      rintro e w31 ⟨rfl, hb⟩
      refine ⟨_, rfl, ?_⟩
      have n0_ := Aside0.mk (Kd.R_below (by (with_reducible repeat (first | apply Kd.R_alloc | apply Kd.R_drewN | apply Kd.R_drew)); exact HO607.out) hb)
      have n1_ := Aside0.mk (Kd.R_below (by (with_reducible repeat (first | apply Kd.R_alloc | apply Kd.R_drewN | apply Kd.R_drew)); exact HO612.out) hb)
      have n2_ := Aside0.mk (Kd.R_below (by (with_reducible repeat (first | apply Kd.R_alloc | apply Kd.R_drewN | apply Kd.R_drew)); exact HO625.out) hb)
      have n3_ := Aside0.mk (IsS173.below (by repeat (first | (with_reducible first | exact HI604.out | apply IsS173.alloc | apply IsS173.drewN | apply IsS173.drew | apply IsS173.set_1 | apply IsS173.set_2) | exact HI604.out)) hb)
      have n4_ := Aside0.mk (below_step (by repeat (first | (with_reducible first | exact HB.out | apply below_alloc | apply pw_below_drewN | apply below_drew1 | refine below_set ?_ (IsS173.ge HI604.out)) | exact HB.out)) hb)
      clear HO607
      clear HO612
      clear HO625
      clear HI604
      clear HB
      have HO607 := n0_
      have HO612 := n1_
      have HO625 := n2_
      have HI604 := n3_
      have HB := n4_
      clear n0_ n1_ n2_ n3_ n4_
      (try clear hb)
      (try clear hb2)
      (try clear hk)
      (try clear hi)
      refine hK.out _ _ trivial (fun hHeld => ?_)
      clear hK K
      refine norm_ (a' := ?_) ?_ ?_
      rotate_left
      ·show Act.put _ (some 23) _ = _
       simp only [Act.put, List.setIfInBounds_toArray, List.set_cons_zero, List.set_cons_succ, i64_w, i32_w]
       rfl
      refine pure_ (i := 3) (N := some 2) (v := ?_) (a' := ?_) #[true, true, true, true, false, false] rfl rfl (by kernel_rfl) (fun _ _ _ h => h) (Or.inl ⟨by rfl, ?_⟩) ?_ ?_
      rotate_left
      ·intro w'
       go_simp
       with_reducible rfl
      rotate_left
      ·simp only [Act.put, List.setIfInBounds_toArray, List.set_cons_zero, List.set_cons_succ, i64_w, i32_w]
       rfl
      exact norm_ (by simp only [putAll, Act.put, List.setIfInBounds_toArray, List.set_cons_zero, List.set_cons_succ]) (hCont (v624) _ ⟨(by (with_reducible repeat (first | apply Kd.R_alloc | apply Kd.R_drewN | apply Kd.R_drew)); exact Kd.R_mono HO607.out (fun _ hk => hk.2)), (by (with_reducible repeat (first | apply Kd.R_alloc | apply Kd.R_drewN | apply Kd.R_drew)); exact HO612.out), (by (with_reducible repeat (first | apply Kd.R_alloc | apply Kd.R_drewN | apply Kd.R_drew)); exact Kd.R_mono HO625.out (fun _ hk => hk.2)), (by repeat (first | (with_reducible first | exact HI604.out | apply IsS173.alloc | apply IsS173.drewN | apply IsS173.drew | apply IsS173.set_1 | apply IsS173.set_2) | exact HI604.out)), (by repeat (first | (with_reducible first | exact HB.out | apply below_alloc | apply pw_below_drewN | apply below_drew1 | refine below_set ?_ (IsS173.ge HI604.out)) | exact HB.out))⟩)
   rintro v624 w32 ⟨h0_, h1_, h2_, h3_, h4_⟩
   have n0_ : Aside0 (Kd.R (Kd.int .u8) 5 w32 w.heap.size (fun k_ => some k_ ≠ (v624 : Value).ownBlock) v606 t605) := ⟨h0_⟩
   have n1_ : Aside0 (Kd.R (Kd.int .i64) 3 w32 w.heap.size (fun _ => True) (.slice Ao23 y610.length co23) y610) := ⟨h1_⟩
   have n2_ : Aside0 (Kd.R (Kd.int .u8) 5 w32 w.heap.size (fun k_ => some k_ ≠ (v606 : Value).ownBlock) v624 y623) := ⟨h2_⟩
   have n3_ : Aside0 (IsS173 w w32 g604 t601 t620 t621) := ⟨h3_⟩
   have n4_ : Aside0 (Below w.heap.size w w32) := ⟨h4_⟩
   clear HO607
   clear HO612
   clear HI604
   clear HB
   clear h0_ h1_ h2_ h3_ h4_
   have HO607 := n0_
   have HO612 := n1_
   have HO625 := n2_
   have HI604 := n3_
   have HB := n4_
   clear n0_ n1_ n2_ n3_ n4_
   have hHeld := trivial
   refine norm_ (a' := ?_) ?_ ?_
   rotate_left
   ·simp only [putAll, Act.put, List.setIfInBounds_toArray, List.set_cons_zero, List.set_cons_succ]
    rfl
   refine pure_ (i := 4) (N := some 3) (v := ?_) (a' := ?_) #[true, true, true, true, true, false] rfl rfl (by kernel_rfl) (fun _ _ _ h => h) (Or.inl ⟨by rfl, ?_⟩) ?_ ?_
   rotate_left
   ·intro w'
    go_simp
    with_reducible rfl
   rotate_left
   ·simp only [Act.put, List.setIfInBounds_toArray, List.set_cons_zero, List.set_cons_succ, i64_w, i32_w]
    rfl
   refine pure_ (i := 5) (N := some 4) (v := ?_) (a' := ?_) #[true, true, true, true, true, true] rfl rfl (by kernel_rfl) (fun _ _ _ h => h) (Or.inl ⟨by rfl, ?_⟩) ?_ ?_
   rotate_left
   ·intro w'
    go_simp
    with_reducible rfl
   rotate_left
   ·simp only [Act.put, List.setIfInBounds_toArray, List.set_cons_zero, List.set_cons_succ, i64_w, i32_w]
    rfl
   refine done_ (by kernel_rfl) ?_
   try go_wp2
   go_ret3
   exact ⟨by first | rfl | (simp [errW_none, errW_some] <;> rfl) | (simp [*, errW_none, errW_some] <;> rfl), by repeat (first | (with_reducible first | exact HB.out | apply below_alloc | apply pw_below_drewN | apply below_drew1 | refine below_set ?_ (IsS173.ge HI604.out)) | exact HB.out)⟩
  ·replace c16 := Bool.eq_false_iff.mpr c16
   subst c16
   have H1 : ((spec_l1Some.f k t601 t620 t621).bind fun bt626 => (some (strOfNums t605, strOfNums bt626.1, t613))) = some (r1, r2, r3) := by rw [if_neg (show ¬ (false = true) by decide)] at H; exact H
   clear H
   have H := H1
   clear H1
   replace H := Option.bind_eq_some_iff.mp H
   obtain ⟨⟨t626, t629, t630⟩, A330, H⟩ := H
   replace H : (some (strOfNums t605, strOfNums t626, t613)) = some (r1, r2, r3) := H
   have A33 := Aside0.mk A330
   clear A330
   simp only [Option.some.injEq, Prod.mk.injEq] at H
   obtain ⟨rfl, rfl, rfl⟩ := H
   go_enter Try.func35, Try.ntmps35
   try go_wp2_with (first | ((with_reducible refine gate_callee (f := 108) rfl ?_); refine goesL_ (some 9) rfl rfl Try.func108 (by kernel_rfl) rfl #[.slice A0 l0.length c0] rfl (by (try simp only [List.map_toArray, List.map_cons, List.map_nil]); first | done | rfl | (simp only [List.length_drop, List.length_take]; rfl)) ?_; (with_reducible refine (spec_l1New.calls k _ _ l0 t601 t602 t603 w _ ?side1 ?side2 ?side3 A2.out).mono ?_); (case side1 => repeat (first | (with_reducible first | exact HB.out | apply below_alloc | apply pw_below_drewN | apply below_drew1) | exact HB.out)); (case side2 => exact HR0.out); (case side3 => exact HC0.out); rintro e w34 ⟨g604, rfl, hi, hb, hb2⟩; refine ⟨_, rfl, ?_⟩; have n0_ := Aside0.mk (hb); have n1_ := Aside0.mk (hi); clear HB; have HB := n0_; have HI604 := n1_; clear n0_ n1_; (try clear hb); (try clear hb2); (try clear hk); (try clear hi)) | ((with_reducible refine gate_callee (f := 115) rfl ?_); refine goesL_ (some 11) rfl rfl Try.func115 (by kernel_rfl) rfl #[.pointer (some ⟨g604, 0, none⟩)] rfl (by (try simp only [List.map_toArray, List.map_cons, List.map_nil]); first | done | rfl | (simp only [List.length_drop, List.length_take]; rfl)) ?_; (with_reducible refine (spec_l1Some.calls k g604 t601 t602 t603 t605 t608 t609 w _ ?side1 ?side2 A3.out).mono ?_); (case side1 => repeat (first | (with_reducible first | exact HI604.out | apply IsS173.alloc | apply IsS173.drewN | apply IsS173.drew | apply IsS173.set_1 | apply IsS173.set_2) | exact HI604.out)); (case side2 => repeat (first | (with_reducible first | exact HB.out | apply below_alloc | apply pw_below_drewN | apply below_drew1 | refine below_set ?_ (IsS173.ge HI604.out)) | exact HB.out)); rintro e w35 ⟨v606, rfl, ho0, hi, hb, hk⟩; refine ⟨_, rfl, ?_⟩; have n0_ := Aside0.mk (Kd.R_lower ho0 (below_size (by repeat (first | (with_reducible first | exact HB.out | apply below_alloc | apply pw_below_drewN | apply below_drew1 | refine below_set ?_ (IsS173.ge HI604.out)) | exact HB.out)))); have n1_ := Aside0.mk (hb); have n2_ := Aside0.mk (hi); clear HB; clear HI604; have HO607 := n0_; have HB := n1_; have HI604 := n2_; clear n0_ n1_ n2_; (try clear hb); (try clear hb2); (try clear hk); (try clear hi); (try clear ho0); have hcv36 := own_string (P := Try.prog) Try.underlying29 Try.underlying5 Try.underlying9 (Kd.own_of_R HO607.out)) | ((with_reducible refine gate_dst (N := 14) rfl ?_); refine Kd.R_lit (Kd.int .i64) _ 3 ?hg (N := 14) ?hd (xs := ([0, 0, 1, 32, 33, (-1)] : List Int)) (inner := [.int .i64 0, .int .i64 0, .int .i64 1, .int .i64 32, .int .i64 33, .int .i64 (-1)]) (ok := fun _ => True) (okp := fun _ => True) ?hr ?hp (fun _ hk => hk) trivial (Below.refl _ _) (Nat.le_refl _) (by simp) ?_; (case hd => rfl); (case hg => rfl); (case hr => first | (go_simp; done) | (go_simp; rfl)); (case hp => exact (Reps.one (show Kd.M (Kd.int .i64) _ _ _ 0 [.int .i64 0] from rfl) (Reps.one (show Kd.M (Kd.int .i64) _ _ _ 0 [.int .i64 0] from rfl) (Reps.one (show Kd.M (Kd.int .i64) _ _ _ 1 [.int .i64 1] from rfl) (Reps.one (show Kd.M (Kd.int .i64) _ _ _ 32 [.int .i64 32] from rfl) (Reps.one (show Kd.M (Kd.int .i64) _ _ _ 33 [.int .i64 33] from rfl) (Reps.one (show Kd.M (Kd.int .i64) _ _ _ (-1) [.int .i64 (-1)] from rfl) (Reps.none _ _)))))))); intro v611 w37 ho38 hb hg_ hnew_; clear hg_ hnew_; (first | rw [← Ny610.out] at ho38 | (simp only [Int.reduceToNat] at ho38; rw [← Ny610.out] at ho38)); have n0_ := Aside0.mk (Kd.R_below (by (with_reducible repeat (first | apply Kd.R_alloc | apply Kd.R_drewN | apply Kd.R_drew)); exact HO607.out) hb); have n1_ := Aside0.mk (Kd.R_lower ho38 (below_size (by repeat (first | (with_reducible first | exact HB.out | apply below_alloc | apply pw_below_drewN | apply below_drew1 | refine below_set ?_ (IsS173.ge HI604.out)) | exact HB.out)))); have n2_ := Aside0.mk (IsS173.below (by repeat (first | (with_reducible first | exact HI604.out | apply IsS173.alloc | apply IsS173.drewN | apply IsS173.drew | apply IsS173.set_1 | apply IsS173.set_2) | exact HI604.out)) hb); have n3_ := Aside0.mk (below_step (by repeat (first | (with_reducible first | exact HB.out | apply below_alloc | apply pw_below_drewN | apply below_drew1 | refine below_set ?_ (IsS173.ge HI604.out)) | exact HB.out)) hb); clear HO607; clear HI604; clear HB; have HO607 := n0_; have HO612 := n1_; have HI604 := n2_; have HB := n3_; clear n0_ n1_ n2_ n3_; clear hb ho38; obtain ⟨Ao39, co39, eo39⟩ := Kd.R_slice HO612.out; subst eo39) | ((with_reducible refine gate_callee (f := 116) rfl ?_); refine goesL_ (some 15) rfl rfl Try.func116 (by kernel_rfl) rfl #[.pointer (some ⟨g604, 0, none⟩), .slice Ao39 y610.length co39] rfl (by (try simp only [List.map_toArray, List.map_cons, List.map_nil]); first | done | rfl | (simp only [List.length_drop, List.length_take]; rfl)) ?_; (with_reducible refine (spec_l1Int.calls g604 t601 t608 t609 _ _ y610 t613 t614 t615 w _ ?side1 ?side2 ?side3 ?side4 ?side5 A4.out).mono ?_); (case side1 => repeat (first | (with_reducible first | exact HI604.out | apply IsS173.alloc | apply IsS173.drewN | apply IsS173.drew | apply IsS173.set_1 | apply IsS173.set_2) | exact HI604.out)); (case side2 => repeat (first | (with_reducible first | exact HB.out | apply below_alloc | apply pw_below_drewN | apply below_drew1 | refine below_set ?_ (IsS173.ge HI604.out)) | exact HB.out)); (case side3 => repeat (first | exact (Kd.R_reads' HO612.out).2.2 | (with_reducible refine Kd.C_alloc ?_ _) | (with_reducible refine Kd.C_drewN ?_ _) | (with_reducible refine Kd.C_drew ?_))); (case side4 => exact (Kd.R_reads' HO612.out).2.1); (case side5 => exact far_slice (IsS173.own_ne HI604.out HO612.out (by decide))); rintro e w40 ⟨rfl, hi, hb, hk⟩; refine ⟨_, rfl, ?_⟩; have n0_ := Aside0.mk (Kd.R_mono (Kd.R_keep (IsS173.apart (show IsS173 w _ g604 t601 t608 t609 from by repeat (first | (with_reducible first | exact HI604.out | apply IsS173.alloc | apply IsS173.drewN | apply IsS173.drew | apply IsS173.set_1 | apply IsS173.set_2) | exact HI604.out)) (by (with_reducible repeat (first | apply Kd.R_alloc | apply Kd.R_drewN | apply Kd.R_drew)); exact HO607.out) (by decide)) hk (fun _ h => h.2)) (fun _ h => h.1)); have n1_ := Aside0.mk (Kd.R_mono (Kd.R_keep (IsS173.apart (show IsS173 w _ g604 t601 t608 t609 from by repeat (first | (with_reducible first | exact HI604.out | apply IsS173.alloc | apply IsS173.drewN | apply IsS173.drew | apply IsS173.set_1 | apply IsS173.set_2) | exact HI604.out)) (by (with_reducible repeat (first | apply Kd.R_alloc | apply Kd.R_drewN | apply Kd.R_drew)); exact HO612.out) (by decide)) hk (fun _ h => h.2)) (fun _ h => h.1)); have n2_ := Aside0.mk (hb); have n3_ := Aside0.mk (hi); clear HO607; clear HO612; clear HB; clear HI604; have HO607 := n0_; have HO612 := n1_; have HB := n2_; have HI604 := n3_; clear n0_ n1_ n2_ n3_; (try clear hb); (try clear hb2); (try clear hk); (try clear hi)) | ((with_reducible refine gate_callee (f := 110) rfl ?_); refine goesL_ (some 17) rfl rfl Try.func110 (by kernel_rfl) rfl #[.pointer (some ⟨g604, 0, none⟩), .int .i64 4] rfl (by (try simp only [List.map_toArray, List.map_cons, List.map_nil]); first | done | rfl | (simp only [List.length_drop, List.length_take]; rfl)) ?_; (with_reducible refine (spec_l1Once.calls g604 t601 t614 t615 4 false t617 t618 w _ ?side1 ?side2 A5.out).mono ?_); (case side1 => repeat (first | (with_reducible first | exact HI604.out | apply IsS173.alloc | apply IsS173.drewN | apply IsS173.drew | apply IsS173.set_1 | apply IsS173.set_2) | exact HI604.out)); (case side2 => repeat (first | (with_reducible first | exact HB.out | apply below_alloc | apply pw_below_drewN | apply below_drew1 | refine below_set ?_ (IsS173.ge HI604.out)) | exact HB.out)); rintro e w41 ⟨rfl, hi, hb, hk⟩; refine ⟨_, rfl, ?_⟩; have n0_ := Aside0.mk (Kd.R_mono (Kd.R_keep (IsS173.apart (show IsS173 w _ g604 t601 t614 t615 from by repeat (first | (with_reducible first | exact HI604.out | apply IsS173.alloc | apply IsS173.drewN | apply IsS173.drew | apply IsS173.set_1 | apply IsS173.set_2) | exact HI604.out)) (by (with_reducible repeat (first | apply Kd.R_alloc | apply Kd.R_drewN | apply Kd.R_drew)); exact HO607.out) (by decide)) hk (fun _ h => h.2)) (fun _ h => h.1)); have n1_ := Aside0.mk (Kd.R_mono (Kd.R_keep (IsS173.apart (show IsS173 w _ g604 t601 t614 t615 from by repeat (first | (with_reducible first | exact HI604.out | apply IsS173.alloc | apply IsS173.drewN | apply IsS173.drew | apply IsS173.set_1 | apply IsS173.set_2) | exact HI604.out)) (by (with_reducible repeat (first | apply Kd.R_alloc | apply Kd.R_drewN | apply Kd.R_drew)); exact HO612.out) (by decide)) hk (fun _ h => h.2)) (fun _ h => h.1)); have n2_ := Aside0.mk (hb); have n3_ := Aside0.mk (hi); clear HO607; clear HO612; clear HB; clear HI604; have HO607 := n0_; have HO612 := n1_; have HB := n2_; have HI604 := n3_; clear n0_ n1_ n2_ n3_; (try clear hb); (try clear hb2); (try clear hk); (try clear hi)) | ((with_reducible refine gate_callee (f := 110) rfl ?_); refine goesL_ (some 22) rfl rfl Try.func110 (by kernel_rfl) rfl #[.pointer (some ⟨g604, 0, none⟩), .int .i64 3] rfl (by (try simp only [List.map_toArray, List.map_cons, List.map_nil]); first | done | rfl | (simp only [List.length_drop, List.length_take]; rfl)) ?_; (with_reducible refine (spec_l1Once.calls g604 t601 t617 t618 3 false t620 t621 w _ ?side1 ?side2 A15.out).mono ?_); (case side1 => repeat (first | (with_reducible first | exact HI604.out | apply IsS173.alloc | apply IsS173.drewN | apply IsS173.drew | apply IsS173.set_1 | apply IsS173.set_2) | exact HI604.out)); (case side2 => repeat (first | (with_reducible first | exact HB.out | apply below_alloc | apply pw_below_drewN | apply below_drew1 | refine below_set ?_ (IsS173.ge HI604.out)) | exact HB.out)); rintro e w42 ⟨rfl, hi, hb, hk⟩; refine ⟨_, rfl, ?_⟩; have n0_ := Aside0.mk (Kd.R_mono (Kd.R_keep (IsS173.apart (show IsS173 w _ g604 t601 t617 t618 from by repeat (first | (with_reducible first | exact HI604.out | apply IsS173.alloc | apply IsS173.drewN | apply IsS173.drew | apply IsS173.set_1 | apply IsS173.set_2) | exact HI604.out)) (by (with_reducible repeat (first | apply Kd.R_alloc | apply Kd.R_drewN | apply Kd.R_drew)); exact HO607.out) (by decide)) hk (fun _ h => h.2)) (fun _ h => h.1)); have n1_ := Aside0.mk (Kd.R_mono (Kd.R_keep (IsS173.apart (show IsS173 w _ g604 t601 t617 t618 from by repeat (first | (with_reducible first | exact HI604.out | apply IsS173.alloc | apply IsS173.drewN | apply IsS173.drew | apply IsS173.set_1 | apply IsS173.set_2) | exact HI604.out)) (by (with_reducible repeat (first | apply Kd.R_alloc | apply Kd.R_drewN | apply Kd.R_drew)); exact HO612.out) (by decide)) hk (fun _ h => h.2)) (fun _ h => h.1)); have n2_ := Aside0.mk (hb); have n3_ := Aside0.mk (hi); clear HO607; clear HO612; clear HB; clear HI604; have HO607 := n0_; have HO612 := n1_; have HB := n2_; have HI604 := n3_; clear n0_ n1_ n2_ n3_; (try clear hb); (try clear hb2); (try clear hk); (try clear hi)))
   have n0_ := Aside0.mk (Kd.R_drew HO607.out)
   have n1_ := Aside0.mk (Kd.R_drew HO612.out)
   have n2_ := Aside0.mk (IsS173.drew HI604.out)
   have n3_ := Aside0.mk (below_drew1 HB.out)
   clear HO607
   clear HO612
   clear HI604
   clear HB
   have HO607 := n0_
   have HO612 := n1_
   have HI604 := n2_
   have HB := n3_
   clear n0_ n1_ n2_ n3_
   refine start_ (n := 8) (S := fun w' => True) (ds := []) #[false, false, false, false, false, false, false, false] (by kernel_rfl) rfl rfl trivial (fun hHeld => ?_); refine with_tabW spec_DrawIsClash.tab8 spec_DrawIsClash.bits8 (fun HT_ HW_ => ?_)
   generalize w42.drew = w43 at HO607 HO612 HI604 HB hHeld ⊢
   refine pure_ (i := 0) (N := some 26) (v := ?_) (a' := ?_) #[true, false, false, false, false, false, false, false] rfl rfl (any_of HT_.out (by kernel_rfl)) (fun _ _ _ h => h) (Or.inl ⟨by rfl, ?_⟩) ?_ ?_
   rotate_left
   ·intro w'
    go_simp
    with_reducible rfl
   rotate_left
   ·simp only [Act.put, List.setIfInBounds_toArray, List.set_cons_zero, List.set_cons_succ, i64_w, i32_w]
    rfl
   refine pure_ (i := 1) (N := some 27) (v := ?_) (a' := ?_) #[true, true, false, false, false, false, false, false] rfl rfl (any_of HT_.out (by kernel_rfl)) (fun _ _ _ h => h) (Or.inl ⟨by rfl, ?_⟩) ?_ ?_
   rotate_left
   ·intro w'
    go_simp
    with_reducible rfl
   rotate_left
   ·simp only [Act.put, List.setIfInBounds_toArray, List.set_cons_zero, List.set_cons_succ, i64_w, i32_w]
    rfl
   refine pure_ (i := 4) (N := some 30) (v := ?_) (a' := ?_) #[true, true, false, false, true, false, false, false] rfl rfl (any_of HT_.out (by kernel_rfl)) (fun _ _ _ h => h) (Or.inl ⟨by rfl, ?_⟩) ?_ ?_
   rotate_left
   ·intro w'
    go_simp
    with_reducible rfl
   rotate_left
   ·simp only [Act.put, List.setIfInBounds_toArray, List.set_cons_zero, List.set_cons_succ, i64_w, i32_w]
    rfl
   refine one_ (i := 2) (N := some 28) #[true, true, true, false, true, false, false, false] rfl rfl (one_of HT_.out (by kernel_rfl)) (by decide) (fun K hK => ?_)
   refine goes_ Try.func115 (by kernel_rfl) rfl #[.pointer (some ⟨g604, 0, none⟩)] (by rfl) rfl rfl (by (try simp only [List.map_toArray, List.map_cons, List.map_nil]); first | done | rfl | (simp only [List.length_drop, List.length_take]; rfl)) ?_
   with_reducible refine (spec_l1Some.calls k g604 t601 t620 t621 t626 t629 t630 w _ ?side1 ?side2 A33.out).mono ?_
   (case side1 => repeat (first | (with_reducible first | exact HI604.out | apply IsS173.alloc | apply IsS173.drewN | apply IsS173.drew | apply IsS173.set_1 | apply IsS173.set_2) | exact HI604.out))
   (case side2 => repeat (first | (with_reducible first | exact HB.out | apply below_alloc | apply pw_below_drewN | apply below_drew1 | refine below_set ?_ (IsS173.ge HI604.out)) | exact HB.out))
   rintro e w44 ⟨v627, rfl, ho0, hi, hb, hk⟩
   refine ⟨_, rfl, ?_⟩
   have n0_ := Aside0.mk (Kd.R_mono (Kd.R_told (Kd.R_oldK (IsS173.apart (show IsS173 w _ g604 t601 t620 t621 from by repeat (first | (with_reducible first | exact HI604.out | apply IsS173.alloc | apply IsS173.drewN | apply IsS173.drew | apply IsS173.set_1 | apply IsS173.set_2) | exact HI604.out)) (by (with_reducible repeat (first | apply Kd.R_alloc | apply Kd.R_drewN | apply Kd.R_drew)); exact HO607.out) (by decide)) hk) (Kd.R_base ho0)) (fun _ h_ => h_.1))
   have n1_ := Aside0.mk (Kd.R_mono (Kd.R_keep (IsS173.apart (show IsS173 w _ g604 t601 t620 t621 from by repeat (first | (with_reducible first | exact HI604.out | apply IsS173.alloc | apply IsS173.drewN | apply IsS173.drew | apply IsS173.set_1 | apply IsS173.set_2) | exact HI604.out)) (by (with_reducible repeat (first | apply Kd.R_alloc | apply Kd.R_drewN | apply Kd.R_drew)); exact HO612.out) (by decide)) hk (fun _ h => h.2)) (fun _ h => h.1))
   have n2_ := Aside0.mk (Kd.R_lower (Kd.R_new' ho0 (Kd.R_lt (by (with_reducible repeat (first | apply Kd.R_alloc | apply Kd.R_drewN | apply Kd.R_drew)); exact HO607.out))) (below_size (by repeat (first | (with_reducible first | exact HB.out | apply below_alloc | apply pw_below_drewN | apply below_drew1 | refine below_set ?_ (IsS173.ge HI604.out)) | exact HB.out))))
   have n3_ := Aside0.mk (hb)
   have n4_ := Aside0.mk (hi)
   clear HO607
   clear HO612
   clear HB
   clear HI604
   have HO607 := n0_
   have HO612 := n1_
   have HO628 := n2_
   have HB := n3_
   have HI604 := n4_
   clear n0_ n1_ n2_ n3_ n4_
   (try clear hb)
   (try clear hb2)
   (try clear hk)
   (try clear hi)
   (try clear ho0)
   refine hK.out _ _ trivial (fun hHeld => ?_)
   clear hK K
   refine norm_ (a' := ?_) ?_ ?_
   rotate_left
   ·show Act.put _ (some 28) _ = _
    simp only [Act.put, List.setIfInBounds_toArray, List.set_cons_zero, List.set_cons_succ, i64_w, i32_w]
    rfl
   refine pure_ (i := 5) (N := some 2) (v := ?_) (a' := ?_) #[true, true, true, false, true, true, false, false] rfl rfl (any_of HT_.out (by kernel_rfl)) (fun _ _ _ h => h) (Or.inl ⟨by rfl, ?_⟩) ?_ ?_
   rotate_left
   ·intro w'
    go_simp
    with_reducible rfl
   rotate_left
   ·simp only [Act.put, List.setIfInBounds_toArray, List.set_cons_zero, List.set_cons_succ, i64_w, i32_w]
    rfl
   refine one_ (i := 3) (N := some 29) #[true, true, true, true, true, true, false, false] rfl rfl (one_of HT_.out (by kernel_rfl)) (by decide) (fun K hK => ?_)
   have hcv45 := own_string (P := Try.prog) Try.underlying29 Try.underlying5 Try.underlying9 (Kd.own_of_R HO628.out)
   refine value_ (w1 := ?_) (v := ?_) (by rfl) rfl ?_ ?_
   rotate_left 2
   ·go_simp
    constructor
    ·rfl
    ·rfl
   clear hcv45
   refine hK.out _ _ trivial (fun hHeld => ?_)
   clear hK K
   refine norm_ (a' := ?_) ?_ ?_
   rotate_left
   ·show Act.put _ (some 29) _ = _
    simp only [Act.put, List.setIfInBounds_toArray, List.set_cons_zero, List.set_cons_succ, i64_w, i32_w]
    rfl
   refine pure_ (i := 6) (N := some 3) (v := ?_) (a' := ?_) #[true, true, true, true, true, true, true, false] rfl rfl (any_of HT_.out (by kernel_rfl)) (fun _ _ _ h => h) (Or.inl ⟨by rfl, ?_⟩) ?_ ?_
   rotate_left
   ·intro w'
    go_simp
    with_reducible rfl
   rotate_left
   ·simp only [Act.put, List.setIfInBounds_toArray, List.set_cons_zero, List.set_cons_succ, i64_w, i32_w]
    rfl
   refine pure_ (i := 7) (N := some 4) (v := ?_) (a' := ?_) #[true, true, true, true, true, true, true, true] rfl rfl (any_of HT_.out (by kernel_rfl)) (fun _ _ _ h => h) (Or.inl ⟨by rfl, ?_⟩) ?_ ?_
   rotate_left
   ·intro w'
    go_simp
    with_reducible rfl
   rotate_left
   ·simp only [Act.put, List.setIfInBounds_toArray, List.set_cons_zero, List.set_cons_succ, i64_w, i32_w]
    rfl
   refine done_ (done_of HT_.out (by kernel_rfl)) ?_
   try go_wp2
   go_ret3
   exact ⟨by first | rfl | (simp [errW_none, errW_some] <;> rfl) | (simp [*, errW_none, errW_some] <;> rfl), by repeat (first | (with_reducible first | exact HB.out | apply below_alloc | apply pw_below_drewN | apply below_drew1 | refine below_set ?_ (IsS173.ge HI604.out)) | exact HB.out)⟩

end Go.Proofs.Ytcogimnpffnanaa.Q
end

section
/- Arguments that were read as data, opened as Lean values: numbers, bools, strings, slices of whatever kind; structs by their fields. For the rows of this seat's laws. -/
namespace Go.Proofs.Ytcogimnpffnanaa.XO
open Go.RowKit Go.Proofs.YtcogimnpffnanaaW.PrintWords Go.ChangeShapes Go.WideShapes

/-- What reads as data of type t is a Lean value of kind d, and good. -/
def Opens {α : Type} (P : Program) (d : Kd α) (t : TypeId) (G : α → Prop) : Prop :=
 ∀ {H : Type} {enc : TypeId × Value → H} {w : World} {base : Nat} {spare : Nat → Bool} {held : Bool} {fuel : Nat} {cs : List Value} {x : DataW H × List MemPlace},
  DataW.trod enc P w base spare held fuel t cs = some x → ∃ a : α, d.K w a cs ∧ G a

variable {P : Program} {t : TypeId}

theorem add_add (a : Addr) (x i : Nat) : (a.add x).add i = a.add (x + i) := by
 unfold Addr.add
 by_cases hx : x = 0
 ·subst hx
  simp
 ·by_cases hi : i = 0
  ·subst hi
   simp
  ·simp [hx, hi, Nat.add_assoc]
theorem cells_read {w : World} {base : Nat} {a : Addr} {x n : Nat} {cs : List Value} (h : w.cells? base (a.add x) n = some cs) (i : Nat) (u : Value) (hu : cs[i]? = some u) : w.cell? (a.add (x + i)) = some u := by
 unfold World.cells? at h
 split at h
 ·have hl : cs.length = n := by simpa using mapM_some_length h
  have hi : i < n := by
   rw [← hl]
   exact (List.getElem?_eq_some_iff.1 hu).1
  have hg := mapM_some_get h i i (by simp [hi])
  rw [hu, add_add] at hg
  exact hg
 ·exact absurd h (by simp)

theorem family {α : Type} {p : Nat → α → Prop} (n : Nat) (h : ∀ i, i < n → ∃ x, p i x) : ∃ xs : List α, xs.length = n ∧ ∀ i x, xs[i]? = some x → p i x := by
 induction n with
 | zero => exact ⟨[], rfl, fun i x hx => by simp at hx⟩
 | succ n ih =>
  obtain ⟨xs, h1, h2⟩ := ih (fun i hi => h i (by omega))
  obtain ⟨y, hy⟩ := h n (by omega)
  refine ⟨xs ++ [y], by simp [h1], fun i x hx => ?_⟩
  by_cases hi : i < xs.length
  ·rw [List.getElem?_append_left hi] at hx
   exact h2 i x hx
  ·rw [List.getElem?_append_right (by omega)] at hx
   have hz : i - xs.length = 0 := by
    rcases Nat.eq_zero_or_pos (i - xs.length) with hz | hz
    ·exact hz
    ·rw [List.getElem?_eq_none (by simp; omega)] at hx
     exact absurd hx (by simp)
   rw [hz] at hx
   have hxy : y = x := by simpa using hx
   have hin : i = n := by omega
   rw [← hxy, hin]
   exact hy

theorem opens_int {k : IntKind} (ht : P.underlying t = some (.int k)) : Opens P (Kd.int k) t (fun n => (Lit.int k n).wf = true) := by
 intro H enc w base spare held fuel cs x h
 obtain ⟨n, rfl, _, hw⟩ := DataW.trod_int ht h
 exact ⟨n, rfl, hw⟩

theorem opens_slice {α : Type} {d : Kd α} {G : α → Prop} {e : TypeId} (ht : P.underlying t = some (.slice e)) (hc : P.cellsOf e = d.sz) (h0 : Opens P d e G) :
  Opens P (Kd.slice e d) t (fun l => l.length ≤ 9223372036854775807 ∧ ∀ x ∈ l, G x) := by
 intro H enc w base spare held fuel cs x h
 rcases Go.Deep.open_slice ht h with ⟨rfl, _⟩ | ⟨a, len, cap, m, n, D, Pl, rfl, _, hl, hm, hmm, _, hel⟩
 ·exact ⟨[], ⟨none, 0, rfl, Nat.le_refl _, rfl, by simp, fun hp => absurd hp (by simp)⟩, by simp, fun x hx => absurd hx (by simp)⟩
 ·have hlm : len ≤ m := by
   rw [hmm]
   split
   ·exact hl
   ·exact Nat.le_refl _
  have hall : ∀ i, i < len → ∃ x : α, (∃ cs', w.cells? base (a.add (i * P.cellsOf e)) (P.cellsOf e) = some cs' ∧ d.K w x cs') ∧ G x := by
   intro i hi
   obtain ⟨cs', h1, h2⟩ := hel i (by omega)
   obtain ⟨x, hk, hg⟩ := h0 h2
   exact ⟨x, ⟨cs', h1, hk⟩, hg⟩
  have hlen : len ≤ 9223372036854775807 := by simp only [maxLen] at hm; omega
  obtain ⟨xs, h1, h2⟩ := family len hall
  refine ⟨xs, ⟨some a, cap, by rw [h1], by omega, rfl, by omega, fun _ => ⟨a, rfl, fun j p hj => ?_⟩⟩, by omega, fun x hx => ?_⟩
  ·obtain ⟨⟨cs', hc1, hk⟩, _⟩ := h2 j p hj
   refine ⟨cs', d.K_len hk, hk, fun i u hu => ?_⟩
   rw [hc] at hc1
   exact cells_read hc1 i u hu
  ·obtain ⟨i, hi⟩ := List.getElem?_of_mem hx
   exact (h2 i x hi).2

end Go.Proofs.Ytcogimnpffnanaa.XO
end

section
/- Which Lean values the laws' arguments are opened to: each struct type by its fields. -/
namespace Go.Proofs.Ytcogimnpffnanaa.Q
open Go.RowKit Go.Proofs.Ytcogimnpffnanaa.XO Go.Proofs.YtcogimnpffnanaaW.PrintWords Go.ChangeShapes Go.WideShapes
set_option linter.unusedVariables false
set_option linter.unusedSimpArgs false
end Go.Proofs.Ytcogimnpffnanaa.Q
end

section
-- Written by a program of this session (wip/tools/pp.sh) over the print of the kit.
namespace Go.Proofs.Ytcogimnpffnanaa.Q
open Go.RowKit Go.Proofs.YtcogimnpffnanaaW.PrintWords Go.Proofs.YtcogimnpffnanaaW.PrintLast Go.Proofs.YtcogimnpffnanaaW.PrintMore
attribute [local go_sem] max2_int min2_int max_two min_two max_three min_three max_four min_four   -- for this text's walks alone
set_option linter.unusedVariables false
set_option linter.unusedSimpArgs false

/-! ### laws_big: function 30 -/
def laws_big.f (l0 : List Int) : Option (Bool) := some (decide ((l0.length : Int) > 1048576))
set_option maxHeartbeats 8000000 in
set_option maxRecDepth 100000 in
theorem laws_big.calls (A0 : Option Addr) (c0 : Nat) (l0 : List Int) (r : Bool) (w : World) (hr0 : Kd.C (Kd.int .u8) w A0 l0.length l0) (hc0 : l0.length ≤ c0) (h : laws_big.f l0 = some r) :
  Calls Try.prog 30 #[.slice A0 l0.length c0] w fun e w' => e = .returned (.bool r) ∧ Drawn0 w w' := by
 have HR0 := Aside0.mk hr0
 have HC0 := Aside0.mk hc0
 clear hr0 hc0
 have H : (some (decide ((l0.length : Int) > 1048576))) = some r := h
 clear h
 obtain rfl := Option.some.inj H
 go_enter Try.func30, Try.ntmps30
 go_wp2
 go_ret
 exact ⟨by first | rfl | (simp; done) | (simp [*]; done), by repeat (first | exact Drawn0.refl _ | apply Drawn0.step)⟩

end Go.Proofs.Ytcogimnpffnanaa.Q
end

section
-- Written by a program of this session (wip/tools/pp.sh) over the print of the kit.
namespace Go.Proofs.Ytcogimnpffnanaa.Q
open Go.RowKit Go.Proofs.YtcogimnpffnanaaW.PrintWords Go.Proofs.YtcogimnpffnanaaW.PrintLast Go.Proofs.YtcogimnpffnanaaW.PrintMore
attribute [local go_sem] max2_int min2_int max_two min_two max_three min_three max_four min_four   -- for this text's walks alone
set_option linter.unusedVariables false
set_option linter.unusedSimpArgs false

/-! ### laws_FnClashes: function 6 -/
mutual
def laws_FnClashes.j0 : Nat → List Int → List ByteArray → List ByteArray → ByteArray → ByteArray → Bool → Bool → Option (Bool)
 | 0, _, _, _, _, _, _, _ => none
 | k + 1, x0, x3, x4, x5, x6, x7, x8 => (spec_DrawIsClash.f k x0).bind fun bt614 => ((impl_IsClash.f bt614.1 bt614.2.1 bt614.2.2).bind fun t617 => ((spec_IsClash.f bt614.1 bt614.2.1 bt614.2.2).bind fun t618 => (if (t617 != t618) = true then (laws_FnClashes.j1 k x3 x4 x5 x6 x7 true) else ((impl_RootOf.f k x3).bind fun t619 => (if (t619.size : Int) = 32 then (laws_FnClashes.j1 k x3 x4 x5 x6 x7 (x7 != x8)) else (laws_FnClashes.j1 k x3 x4 x5 x6 x7 true))))))
def laws_FnClashes.j1 : Nat → List ByteArray → List ByteArray → ByteArray → ByteArray → Bool → Bool → Option (Bool)
 | 0, _, _, _, _, _, _ => none
 | k + 1, x3, x4, x5, x6, x7, x69 => if x69 = true then (none) else (if (x3.length : Int) = (x4.length : Int) then ((laws_sameTexts.f k x3 x4).bind fun t620 => (laws_FnClashes.j2 k x5 x6 x7 t620)) else (laws_FnClashes.j2 k x5 x6 x7 true))
def laws_FnClashes.j2 : Nat → ByteArray → ByteArray → Bool → Bool → Option (Bool)
 | 0, _, _, _, _ => none
 | k + 1, x5, x6, x7, x79 => if x79 = true then (if x5.toList = ([] : List UInt8) then (some (x6.toList == ([] : List UInt8))) else (none)) else (if x5.toList = x6.toList then (none) else ((impl_IsClash.f x5 x6 32).bind fun t621 => (if (t621 == x7) = true then ((impl_IsClash.f x5 x6 0).bind fun t622 => (if t622 = true then ((impl_IsClash.f x5 x6 33).bind fun t623 => (some (!t623))) else (none))) else (none))))
end
def laws_FnClashes.f (k : Nat) (l0 : List Int) : Option (Bool) := (laws_big.f l0).bind fun t601 => (if t601 = true then (some true) else ((spec_DrawClash.f k l0).bind fun bt602 => ((impl_Clash.f k bt602.1 bt602.2).bind fun bt608 => (if (bt602.1.length : Int) = (bt602.2.length : Int) then ((laws_sameTexts.f k bt602.1 bt602.2).bind fun t611 => (if t611 = true then (laws_FnClashes.j0 k l0 bt602.1 bt602.2 bt608.1 bt608.2.1 bt608.2.2 false) else ((impl_RootOf.f k bt602.1).bind fun t612 => ((impl_RootOf.f k bt602.2).bind fun t613 => (laws_FnClashes.j0 k l0 bt602.1 bt602.2 bt608.1 bt608.2.1 bt608.2.2 (t612.toList == t613.toList)))))) else (laws_FnClashes.j0 k l0 bt602.1 bt602.2 bt608.1 bt608.2.1 bt608.2.2 false)))))
theorem laws_FnClashes.mono_l : ∀ k, (∀ y0 y1 y2 y3 y4 y5 y6, LeO (laws_FnClashes.j0 k y0 y1 y2 y3 y4 y5 y6) (laws_FnClashes.j0 (k + 1) y0 y1 y2 y3 y4 y5 y6)) ∧ (∀ y0 y1 y2 y3 y4 y5, LeO (laws_FnClashes.j1 k y0 y1 y2 y3 y4 y5) (laws_FnClashes.j1 (k + 1) y0 y1 y2 y3 y4 y5)) ∧ (∀ y0 y1 y2 y3, LeO (laws_FnClashes.j2 k y0 y1 y2 y3) (laws_FnClashes.j2 (k + 1) y0 y1 y2 y3))
 | 0 => ⟨fun _ _ _ _ _ _ _ r h => by simp [laws_FnClashes.j0] at h, fun _ _ _ _ _ _ r h => by simp [laws_FnClashes.j1] at h, fun _ _ _ _ r h => by simp [laws_FnClashes.j2] at h⟩
 | k + 1 => by
  obtain ⟨ih0, ih1, ih2⟩ := laws_FnClashes.mono_l k
  refine ⟨?_, ?_, ?_⟩
  ·intro y0 y1 y2 y3 y4 y5 y6
   unfold laws_FnClashes.j0
   repeat' first
   | (with_reducible exact ih0 _ _ _ _ _ _ _)
   | (with_reducible exact ih1 _ _ _ _ _ _)
   | (with_reducible exact ih2 _ _ _ _)
   | (with_reducible exact impl_Clash.mono _ _ _)
   | (with_reducible exact impl_RootOf.mono _ _)
   | (with_reducible exact laws_sameTexts.mono _ _ _)
   | (with_reducible exact spec_DrawClash.mono _ _)
   | (with_reducible exact spec_DrawIsClash.mono _ _)
   | (with_reducible exact LeO.refl _)
   | (with_reducible exact LeO.none _)
   | (with_reducible refine LeO.ite ?_ ?_)
   | (with_reducible refine LeO.bind ?_ (fun _ => ?_))
   | exact ih0 _ _ _ _ _ _ _
   | exact ih1 _ _ _ _ _ _
   | exact ih2 _ _ _ _
   | exact impl_Clash.mono _ _ _
   | exact impl_RootOf.mono _ _
   | exact laws_sameTexts.mono _ _ _
   | exact spec_DrawClash.mono _ _
   | exact spec_DrawIsClash.mono _ _
   | exact LeO.none _
   | refine LeO.ite ?_ ?_
   | refine LeO.bind ?_ (fun _ => ?_)
  ·intro y0 y1 y2 y3 y4 y5
   unfold laws_FnClashes.j1
   repeat' first
   | (with_reducible exact ih0 _ _ _ _ _ _ _)
   | (with_reducible exact ih1 _ _ _ _ _ _)
   | (with_reducible exact ih2 _ _ _ _)
   | (with_reducible exact impl_Clash.mono _ _ _)
   | (with_reducible exact impl_RootOf.mono _ _)
   | (with_reducible exact laws_sameTexts.mono _ _ _)
   | (with_reducible exact spec_DrawClash.mono _ _)
   | (with_reducible exact spec_DrawIsClash.mono _ _)
   | (with_reducible exact LeO.refl _)
   | (with_reducible exact LeO.none _)
   | (with_reducible refine LeO.ite ?_ ?_)
   | (with_reducible refine LeO.bind ?_ (fun _ => ?_))
   | exact ih0 _ _ _ _ _ _ _
   | exact ih1 _ _ _ _ _ _
   | exact ih2 _ _ _ _
   | exact impl_Clash.mono _ _ _
   | exact impl_RootOf.mono _ _
   | exact laws_sameTexts.mono _ _ _
   | exact spec_DrawClash.mono _ _
   | exact spec_DrawIsClash.mono _ _
   | exact LeO.none _
   | refine LeO.ite ?_ ?_
   | refine LeO.bind ?_ (fun _ => ?_)
  ·intro y0 y1 y2 y3
   unfold laws_FnClashes.j2
   repeat' first
   | (with_reducible exact ih0 _ _ _ _ _ _ _)
   | (with_reducible exact ih1 _ _ _ _ _ _)
   | (with_reducible exact ih2 _ _ _ _)
   | (with_reducible exact impl_Clash.mono _ _ _)
   | (with_reducible exact impl_RootOf.mono _ _)
   | (with_reducible exact laws_sameTexts.mono _ _ _)
   | (with_reducible exact spec_DrawClash.mono _ _)
   | (with_reducible exact spec_DrawIsClash.mono _ _)
   | (with_reducible exact LeO.refl _)
   | (with_reducible exact LeO.none _)
   | (with_reducible refine LeO.ite ?_ ?_)
   | (with_reducible refine LeO.bind ?_ (fun _ => ?_))
   | exact ih0 _ _ _ _ _ _ _
   | exact ih1 _ _ _ _ _ _
   | exact ih2 _ _ _ _
   | exact impl_Clash.mono _ _ _
   | exact impl_RootOf.mono _ _
   | exact laws_sameTexts.mono _ _ _
   | exact spec_DrawClash.mono _ _
   | exact spec_DrawIsClash.mono _ _
   | exact LeO.none _
   | refine LeO.ite ?_ ?_
   | refine LeO.bind ?_ (fun _ => ?_)
theorem laws_FnClashes.mono : ∀ a0 k, LeO (laws_FnClashes.f k a0) (laws_FnClashes.f (k + 1) a0) := by
 intro a0 k
 obtain ⟨ih0, ih1, ih2⟩ := laws_FnClashes.mono_l k
 unfold laws_FnClashes.f
 repeat' first
   | (with_reducible exact ih0 _ _ _ _ _ _ _)
   | (with_reducible exact ih1 _ _ _ _ _ _)
   | (with_reducible exact ih2 _ _ _ _)
   | (with_reducible exact impl_Clash.mono _ _ _)
   | (with_reducible exact impl_RootOf.mono _ _)
   | (with_reducible exact laws_sameTexts.mono _ _ _)
   | (with_reducible exact spec_DrawClash.mono _ _)
   | (with_reducible exact spec_DrawIsClash.mono _ _)
   | (with_reducible exact LeO.refl _)
   | (with_reducible exact LeO.none _)
   | (with_reducible refine LeO.ite ?_ ?_)
   | (with_reducible refine LeO.bind ?_ (fun _ => ?_))
   | exact ih0 _ _ _ _ _ _ _
   | exact ih1 _ _ _ _ _ _
   | exact ih2 _ _ _ _
   | exact impl_Clash.mono _ _ _
   | exact impl_RootOf.mono _ _
   | exact laws_sameTexts.mono _ _ _
   | exact spec_DrawClash.mono _ _
   | exact spec_DrawIsClash.mono _ _
   | exact LeO.none _
   | refine LeO.ite ?_ ?_
   | refine LeO.bind ?_ (fun _ => ?_)
set_option maxHeartbeats 8000000 in
set_option maxRecDepth 100000 in
theorem laws_FnClashes.calls (k : Nat) (A0 : Option Addr) (c0 : Nat) (l0 : List Int) (r : Bool) (w : World) (hr0 : Kd.C (Kd.int .u8) w A0 l0.length l0) (hc0 : l0.length ≤ c0) (h : laws_FnClashes.f k l0 = some r) :
  Calls Try.prog 6 #[.slice A0 l0.length c0] w fun e w' => e = .returned (.bool r) ∧ Below w.heap.size w w' := by
 have HR0 := Aside0.mk hr0
 have HC0 := Aside0.mk hc0
 clear hr0 hc0
 have HB := Aside0.mk (Below.refl w.heap.size w)
 have H : ((laws_big.f l0).bind fun t601 => (if t601 = true then (some true) else ((spec_DrawClash.f k l0).bind fun bt602 => ((impl_Clash.f k bt602.1 bt602.2).bind fun bt608 => (if (bt602.1.length : Int) = (bt602.2.length : Int) then ((laws_sameTexts.f k bt602.1 bt602.2).bind fun t611 => (if t611 = true then (laws_FnClashes.j0 k l0 bt602.1 bt602.2 bt608.1 bt608.2.1 bt608.2.2 false) else ((impl_RootOf.f k bt602.1).bind fun t612 => ((impl_RootOf.f k bt602.2).bind fun t613 => (laws_FnClashes.j0 k l0 bt602.1 bt602.2 bt608.1 bt608.2.1 bt608.2.2 (t612.toList == t613.toList)))))) else (laws_FnClashes.j0 k l0 bt602.1 bt602.2 bt608.1 bt608.2.1 bt608.2.2 false)))))) = some r := h
 clear h
 replace H := Option.bind_eq_some_iff.mp H
 obtain ⟨t601, A20, H⟩ := H
 replace H : (if t601 = true then (some true) else ((spec_DrawClash.f k l0).bind fun bt602 => ((impl_Clash.f k bt602.1 bt602.2).bind fun bt608 => (if (bt602.1.length : Int) = (bt602.2.length : Int) then ((laws_sameTexts.f k bt602.1 bt602.2).bind fun t611 => (if t611 = true then (laws_FnClashes.j0 k l0 bt602.1 bt602.2 bt608.1 bt608.2.1 bt608.2.2 false) else ((impl_RootOf.f k bt602.1).bind fun t612 => ((impl_RootOf.f k bt602.2).bind fun t613 => (laws_FnClashes.j0 k l0 bt602.1 bt602.2 bt608.1 bt608.2.1 bt608.2.2 (t612.toList == t613.toList)))))) else (laws_FnClashes.j0 k l0 bt602.1 bt602.2 bt608.1 bt608.2.1 bt608.2.2 false))))) = some r := H
 have A2 := Aside0.mk A20
 clear A20
 by_cases c3 : t601 = true
 ·subst c3
  have H1 : (some true) = some r := by rw [if_pos rfl] at H; exact H
  clear H
  have H := H1
  clear H1
  obtain rfl := Option.some.inj H
  go_enter Try.func6, Try.ntmps6
  go_wp2_with (first | ((with_reducible refine gate_callee (f := 30) rfl ?_); refine goesL_ (some 13) rfl rfl Try.func30 (by kernel_rfl) rfl #[.slice A0 l0.length c0] rfl (by (try simp only [List.map_toArray, List.map_cons, List.map_nil]); first | done | rfl | (simp only [List.length_drop, List.length_take]; rfl)) ?_; (with_reducible refine (laws_big.calls _ _ l0 true _ ?side1 ?side2 A2.out).mono ?_); (case side1 => repeat (first | exact HR0.out | (with_reducible refine Kd.C_alloc ?_ _) | (with_reducible refine Kd.C_drewN ?_ _) | (with_reducible refine Kd.C_drew ?_))); (case side2 => exact HC0.out); rintro e w' ⟨rfl, ⟨nd, rfl⟩⟩; refine ⟨_, rfl, ?_⟩))
  go_ret
  exact ⟨by first | rfl | (simp [errW_none, errW_some] <;> rfl) | (simp [*, errW_none, errW_some] <;> rfl), by repeat (first | (with_reducible first | exact HB.out | apply below_alloc | apply pw_below_drewN | apply below_drew1) | exact HB.out)⟩
 ·replace c3 := Bool.eq_false_iff.mpr c3
  subst c3
  have H1 : ((spec_DrawClash.f k l0).bind fun bt602 => ((impl_Clash.f k bt602.1 bt602.2).bind fun bt608 => (if (bt602.1.length : Int) = (bt602.2.length : Int) then ((laws_sameTexts.f k bt602.1 bt602.2).bind fun t611 => (if t611 = true then (laws_FnClashes.j0 k l0 bt602.1 bt602.2 bt608.1 bt608.2.1 bt608.2.2 false) else ((impl_RootOf.f k bt602.1).bind fun t612 => ((impl_RootOf.f k bt602.2).bind fun t613 => (laws_FnClashes.j0 k l0 bt602.1 bt602.2 bt608.1 bt608.2.1 bt608.2.2 (t612.toList == t613.toList)))))) else (laws_FnClashes.j0 k l0 bt602.1 bt602.2 bt608.1 bt608.2.1 bt608.2.2 false)))) = some r := by rw [if_neg (show ¬ (false = true) by decide)] at H; exact H
  clear H
  have H := H1
  clear H1
  replace H := Option.bind_eq_some_iff.mp H
  obtain ⟨⟨t602, t603⟩, A40, H⟩ := H
  replace H : ((impl_Clash.f k t602 t603).bind fun bt608 => (if (t602.length : Int) = (t603.length : Int) then ((laws_sameTexts.f k t602 t603).bind fun t611 => (if t611 = true then (laws_FnClashes.j0 k l0 t602 t603 bt608.1 bt608.2.1 bt608.2.2 false) else ((impl_RootOf.f k t602).bind fun t612 => ((impl_RootOf.f k t603).bind fun t613 => (laws_FnClashes.j0 k l0 t602 t603 bt608.1 bt608.2.1 bt608.2.2 (t612.toList == t613.toList)))))) else (laws_FnClashes.j0 k l0 t602 t603 bt608.1 bt608.2.1 bt608.2.2 false))) = some r := H
  have A4 := Aside0.mk A40
  clear A40
  replace H := Option.bind_eq_some_iff.mp H
  obtain ⟨⟨t608, t609, t610⟩, A50, H⟩ := H
  replace H : (if (t602.length : Int) = (t603.length : Int) then ((laws_sameTexts.f k t602 t603).bind fun t611 => (if t611 = true then (laws_FnClashes.j0 k l0 t602 t603 t608 t609 t610 false) else ((impl_RootOf.f k t602).bind fun t612 => ((impl_RootOf.f k t603).bind fun t613 => (laws_FnClashes.j0 k l0 t602 t603 t608 t609 t610 (t612.toList == t613.toList)))))) else (laws_FnClashes.j0 k l0 t602 t603 t608 t609 t610 false)) = some r := H
  have A5 := Aside0.mk A50
  clear A50
  have HC6 := Aside0.mk H
  clear H
  go_enter Try.func6, Try.ntmps6
  go_upto_region 5 with (first | ((with_reducible refine gate_callee (f := 30) rfl ?_); refine goesL_ (some 13) rfl rfl Try.func30 (by kernel_rfl) rfl #[.slice A0 l0.length c0] rfl (by (try simp only [List.map_toArray, List.map_cons, List.map_nil]); first | done | rfl | (simp only [List.length_drop, List.length_take]; rfl)) ?_; (with_reducible refine (laws_big.calls _ _ l0 false _ ?side1 ?side2 A2.out).mono ?_); (case side1 => repeat (first | exact HR0.out | (with_reducible refine Kd.C_alloc ?_ _) | (with_reducible refine Kd.C_drewN ?_ _) | (with_reducible refine Kd.C_drew ?_))); (case side2 => exact HC0.out); rintro e w' ⟨rfl, ⟨nd, rfl⟩⟩; refine ⟨_, rfl, ?_⟩) | ((with_reducible refine gate_callee (f := 31) rfl ?_); refine goesL_ (some 16) rfl rfl Try.func31 (by kernel_rfl) rfl #[.slice A0 l0.length c0] rfl (by (try simp only [List.map_toArray, List.map_cons, List.map_nil]); first | done | rfl | (simp only [List.length_drop, List.length_take]; rfl)) ?_; (with_reducible refine (spec_DrawClash.calls k _ _ l0 t602 t603 _ ?side1 ?side2 A4.out).mono ?_); (case side1 => repeat (first | exact HR0.out | (with_reducible refine Kd.C_alloc ?_ _) | (with_reducible refine Kd.C_drewN ?_ _) | (with_reducible refine Kd.C_drew ?_))); (case side2 => exact HC0.out); rintro e w7 ⟨v604, v606, rfl, ho0, ho1, hb⟩; refine ⟨_, rfl, ?_⟩; have n0_ := Aside0.mk (Kd.R_lower ho0 (below_size (by repeat (first | (with_reducible first | exact HB.out | apply below_alloc | apply pw_below_drewN | apply below_drew1) | exact HB.out)))); have n1_ := Aside0.mk (Kd.R_lower ho1 (below_size (by repeat (first | (with_reducible first | exact HB.out | apply below_alloc | apply pw_below_drewN | apply below_drew1) | exact HB.out)))); have n2_ := Aside0.mk (below_step (by repeat (first | (with_reducible first | exact HB.out | apply below_alloc | apply pw_below_drewN | apply below_drew1) | exact HB.out)) hb); clear HB; have HO605 := n0_; have HO607 := n1_; have HB := n2_; clear n0_ n1_ n2_; (try clear hb); (try clear hb2); (try clear hk); (try clear hi); (try clear ho0); (try clear ho1); obtain ⟨Ao8, co8, eo8⟩ := Kd.R_slice HO605.out; subst eo8; obtain ⟨Ao9, co9, eo9⟩ := Kd.R_slice HO607.out; subst eo9) | ((with_reducible refine gate_callee (f := 32) rfl ?_); refine goesL_ (some 22) rfl rfl Try.func32 (by kernel_rfl) rfl #[.slice Ao8 t602.length co8, .slice Ao9 t603.length co9] rfl (by (try simp only [List.map_toArray, List.map_cons, List.map_nil]); first | done | rfl | (simp only [List.length_drop, List.length_take]; rfl)) ?_; (with_reducible refine (impl_Clash.calls k _ _ t602 _ _ t603 t608 t609 t610 _ ?side1 ?side2 ?side3 ?side4 A5.out).mono ?_); (case side1 => repeat (first | exact (Kd.R_reads' HO605.out).2.2 | (with_reducible refine Kd.C_alloc ?_ _) | (with_reducible refine Kd.C_drewN ?_ _) | (with_reducible refine Kd.C_drew ?_))); (case side2 => exact (Kd.R_reads' HO605.out).2.1); (case side3 => repeat (first | exact (Kd.R_reads' HO607.out).2.2 | (with_reducible refine Kd.C_alloc ?_ _) | (with_reducible refine Kd.C_drewN ?_ _) | (with_reducible refine Kd.C_drew ?_))); (case side4 => exact (Kd.R_reads' HO607.out).2.1); rintro e w10 ⟨rfl, hb⟩; refine ⟨_, rfl, ?_⟩; have n0_ := Aside0.mk (Kd.R_below (by (with_reducible repeat (first | apply Kd.R_alloc | apply Kd.R_drewN | apply Kd.R_drew)); exact HO605.out) hb); have n1_ := Aside0.mk (Kd.R_below (by (with_reducible repeat (first | apply Kd.R_alloc | apply Kd.R_drewN | apply Kd.R_drew)); exact HO607.out) hb); have n2_ := Aside0.mk (below_step (by repeat (first | (with_reducible first | exact HB.out | apply below_alloc | apply pw_below_drewN | apply below_drew1) | exact HB.out)) hb); clear HO605; clear HO607; clear HB; have HO605 := n0_; have HO607 := n1_; have HB := n2_; clear n0_ n1_ n2_; (try clear hb); (try clear hb2); (try clear hk); (try clear hi)))
  (try simp only [Act.put, List.setIfInBounds_toArray, List.set_cons_zero, List.set_cons_succ])
  go_cut [8] (fun v8 wc => ∃ (kq : Nat) (x8_5 : Bool), v8 = .bool x8_5 ∧ Aside0 (laws_FnClashes.j0 kq l0 t602 t603 t608 t609 t610 x8_5 = some r) ∧ Aside0 (kq ≤ k) ∧ Aside0 (Kd.R Kd.string 9 wc w.heap.size (fun k_ => some k_ ≠ ((.slice Ao9 t603.length co9) : Value).ownBlock) (.slice Ao8 t602.length co8) t602) ∧ Aside0 (Kd.R Kd.string 9 wc w.heap.size (fun k_ => some k_ ≠ ((.slice Ao8 t602.length co8) : Value).ownBlock) (.slice Ao9 t603.length co9) t603) ∧ Aside0 (Below w.heap.size w wc))
  case first =>
   have H := HC6.out
   clear HC6
   by_cases c11 : (t602.length : Int) = (t603.length : Int)
   ·rw [if_pos c11] at H
    have c11b0 : ((t602.length : Int) == (t603.length : Int)) = true := beq_iff_eq.mpr c11
    have c11b1 : ((t602.length : Int) != (t603.length : Int)) = false := bne_eq_false_iff_eq.mpr c11
    have c11b2 : (t602.length == t603.length) = true := by first | simpa using c11 | (simp at c11 ⊢; omega)
    clear c11
    (first | rw [c11b0] | (simp only [i64_w, i32_w]; rw [c11b0]) | skip)
    replace H := Option.bind_eq_some_iff.mp H
    obtain ⟨t611, A120, H⟩ := H
    replace H : (if t611 = true then (laws_FnClashes.j0 k l0 t602 t603 t608 t609 t610 false) else ((impl_RootOf.f k t602).bind fun t612 => ((impl_RootOf.f k t603).bind fun t613 => (laws_FnClashes.j0 k l0 t602 t603 t608 t609 t610 (t612.toList == t613.toList))))) = some r := H
    have A12 := Aside0.mk A120
    clear A120
    by_cases c13 : t611 = true
    ·subst c13
     have H1 : (laws_FnClashes.j0 k l0 t602 t603 t608 t609 t610 false) = some r := by rw [if_pos rfl] at H; exact H
     clear H
     have H := H1
     clear H1
     have H' := Aside0.mk H
     clear H
     go_wp2_with (first | (go_at_call 33; (with_reducible refine (laws_sameTexts.calls k _ _ t602 _ _ t603 true _ ?side1 ?side2 ?side3 ?side4 A12.out).mono ?_); (case side1 => repeat (first | exact (Kd.R_reads' HO605.out).2.2 | (with_reducible refine Kd.C_alloc ?_ _) | (with_reducible refine Kd.C_drewN ?_ _) | (with_reducible refine Kd.C_drew ?_))); (case side2 => exact (Kd.R_reads' HO605.out).2.1); (case side3 => repeat (first | exact (Kd.R_reads' HO607.out).2.2 | (with_reducible refine Kd.C_alloc ?_ _) | (with_reducible refine Kd.C_drewN ?_ _) | (with_reducible refine Kd.C_drew ?_))); (case side4 => exact (Kd.R_reads' HO607.out).2.1); rintro e w' ⟨rfl, ⟨nd, rfl⟩⟩))
     go_meet
     case rel => exact ⟨_, (false), (by first | rfl | (simp; done) | (simp [*]; done)), H', ⟨by first | omega | exact Nat.le_refl _⟩, ⟨by (with_reducible repeat (first | apply Kd.R_alloc | apply Kd.R_drewN | apply Kd.R_drew)); exact HO605.out⟩, ⟨by (with_reducible repeat (first | apply Kd.R_alloc | apply Kd.R_drewN | apply Kd.R_drew)); exact HO607.out⟩, ⟨by repeat (first | (with_reducible first | exact HB.out | apply below_alloc | apply pw_below_drewN | apply below_drew1) | exact HB.out)⟩⟩
    ·replace c13 := Bool.eq_false_iff.mpr c13
     subst c13
     have H1 : ((impl_RootOf.f k t602).bind fun t612 => ((impl_RootOf.f k t603).bind fun t613 => (laws_FnClashes.j0 k l0 t602 t603 t608 t609 t610 (t612.toList == t613.toList)))) = some r := by rw [if_neg (show ¬ (false = true) by decide)] at H; exact H
     clear H
     have H := H1
     clear H1
     replace H := Option.bind_eq_some_iff.mp H
     obtain ⟨t612, A140, H⟩ := H
     replace H : ((impl_RootOf.f k t603).bind fun t613 => (laws_FnClashes.j0 k l0 t602 t603 t608 t609 t610 (t612.toList == t613.toList))) = some r := H
     have A14 := Aside0.mk A140
     clear A140
     replace H := Option.bind_eq_some_iff.mp H
     obtain ⟨t613, A150, H⟩ := H
     replace H : (laws_FnClashes.j0 k l0 t602 t603 t608 t609 t610 (t612.toList == t613.toList)) = some r := H
     have A15 := Aside0.mk A150
     clear A150
     have H' := Aside0.mk H
     clear H
     go_wp2_with (first | (go_at_call 33; (with_reducible refine (laws_sameTexts.calls k _ _ t602 _ _ t603 false _ ?side1 ?side2 ?side3 ?side4 A12.out).mono ?_); (case side1 => repeat (first | exact (Kd.R_reads' HO605.out).2.2 | (with_reducible refine Kd.C_alloc ?_ _) | (with_reducible refine Kd.C_drewN ?_ _) | (with_reducible refine Kd.C_drew ?_))); (case side2 => exact (Kd.R_reads' HO605.out).2.1); (case side3 => repeat (first | exact (Kd.R_reads' HO607.out).2.2 | (with_reducible refine Kd.C_alloc ?_ _) | (with_reducible refine Kd.C_drewN ?_ _) | (with_reducible refine Kd.C_drew ?_))); (case side4 => exact (Kd.R_reads' HO607.out).2.1); rintro e w' ⟨rfl, ⟨nd, rfl⟩⟩) | (go_at_call 34; (with_reducible refine (impl_RootOf.calls k _ _ t602 t612 _ ?side1 ?side2 A14.out).mono ?_); (case side1 => repeat (first | exact (Kd.R_reads' HO605.out).2.2 | (with_reducible refine Kd.C_alloc ?_ _) | (with_reducible refine Kd.C_drewN ?_ _) | (with_reducible refine Kd.C_drew ?_))); (case side2 => exact (Kd.R_reads' HO605.out).2.1); rintro e w16 ⟨rfl, hb⟩; have n0_ := Aside0.mk (Kd.R_below (by (with_reducible repeat (first | apply Kd.R_alloc | apply Kd.R_drewN | apply Kd.R_drew)); exact HO605.out) hb); have n1_ := Aside0.mk (Kd.R_below (by (with_reducible repeat (first | apply Kd.R_alloc | apply Kd.R_drewN | apply Kd.R_drew)); exact HO607.out) hb); have n2_ := Aside0.mk (below_step (by repeat (first | (with_reducible first | exact HB.out | apply below_alloc | apply pw_below_drewN | apply below_drew1) | exact HB.out)) hb); clear HO605; clear HO607; clear HB; have HO605 := n0_; have HO607 := n1_; have HB := n2_; clear n0_ n1_ n2_; (try clear hb); (try clear hb2); (try clear hk); (try clear hi)) | (go_at_call 34; (with_reducible refine (impl_RootOf.calls k _ _ t603 t613 _ ?side1 ?side2 A15.out).mono ?_); (case side1 => repeat (first | exact (Kd.R_reads' HO607.out).2.2 | (with_reducible refine Kd.C_alloc ?_ _) | (with_reducible refine Kd.C_drewN ?_ _) | (with_reducible refine Kd.C_drew ?_))); (case side2 => exact (Kd.R_reads' HO607.out).2.1); rintro e w17 ⟨rfl, hb⟩; have n0_ := Aside0.mk (Kd.R_below (by (with_reducible repeat (first | apply Kd.R_alloc | apply Kd.R_drewN | apply Kd.R_drew)); exact HO605.out) hb); have n1_ := Aside0.mk (Kd.R_below (by (with_reducible repeat (first | apply Kd.R_alloc | apply Kd.R_drewN | apply Kd.R_drew)); exact HO607.out) hb); have n2_ := Aside0.mk (below_step (by repeat (first | (with_reducible first | exact HB.out | apply below_alloc | apply pw_below_drewN | apply below_drew1) | exact HB.out)) hb); clear HO605; clear HO607; clear HB; have HO605 := n0_; have HO607 := n1_; have HB := n2_; clear n0_ n1_ n2_; (try clear hb); (try clear hb2); (try clear hk); (try clear hi)))
     go_meet
     case rel => exact ⟨_, ((t612.toList == t613.toList)), (by first | rfl | (simp; done) | (simp [*]; done)), H', ⟨by first | omega | exact Nat.le_refl _⟩, ⟨by (with_reducible repeat (first | apply Kd.R_alloc | apply Kd.R_drewN | apply Kd.R_drew)); exact HO605.out⟩, ⟨by (with_reducible repeat (first | apply Kd.R_alloc | apply Kd.R_drewN | apply Kd.R_drew)); exact HO607.out⟩, ⟨by repeat (first | (with_reducible first | exact HB.out | apply below_alloc | apply pw_below_drewN | apply below_drew1) | exact HB.out)⟩⟩
   ·rw [if_neg c11] at H
    have c11b0 : ((t602.length : Int) == (t603.length : Int)) = false := beq_eq_false_iff_ne.mpr c11
    have c11b1 : ((t602.length : Int) != (t603.length : Int)) = true := bne_iff_ne.mpr c11
    have c11b2 : (t602.length == t603.length) = false := by first | simpa using c11 | (simp at c11 ⊢; omega)
    (first | rw [c11b0] | (simp only [i64_w, i32_w]; rw [c11b0]) | skip)
    have H' := Aside0.mk H
    clear H
    go_wp2
    go_meet
    case rel => exact ⟨_, (false), (by first | rfl | (simp; done) | (simp [*]; done)), H', ⟨by first | omega | exact Nat.le_refl _⟩, ⟨by (with_reducible repeat (first | apply Kd.R_alloc | apply Kd.R_drewN | apply Kd.R_drew)); exact HO605.out⟩, ⟨by (with_reducible repeat (first | apply Kd.R_alloc | apply Kd.R_drewN | apply Kd.R_drew)); exact HO607.out⟩, ⟨by repeat (first | (with_reducible first | exact HB.out | apply below_alloc | apply pw_below_drewN | apply below_drew1) | exact HB.out)⟩⟩
  case rest =>
   clear HC6
   try clear c1
   try clear p2
   try clear c3
   try clear c6
   try clear c11
   try clear c11b0
   try clear c11b1
   try clear c11b2
   try clear c13
   obtain ⟨kq, x8_5, rfl, HA, HJ5, HO_3, HO_4, HB⟩ := hcut
   cases kq with
   | zero => exact absurd HA.out (by simp [laws_FnClashes.j0])
   | succ kj5 =>
    have H := HA.out
    clear HA
    simp only [laws_FnClashes.j0] at H
    replace H := Option.bind_eq_some_iff.mp H
    obtain ⟨⟨t614, t615, t616⟩, A180, H⟩ := H
    replace H : ((impl_IsClash.f t614 t615 t616).bind fun t617 => ((spec_IsClash.f t614 t615 t616).bind fun t618 => (if (t617 != t618) = true then (laws_FnClashes.j1 kj5 t602 t603 t608 t609 t610 true) else ((impl_RootOf.f kj5 t602).bind fun t619 => (if (t619.size : Int) = 32 then (laws_FnClashes.j1 kj5 t602 t603 t608 t609 t610 (t610 != x8_5)) else (laws_FnClashes.j1 kj5 t602 t603 t608 t609 t610 true)))))) = some r := H
    have A18 := Aside0.mk A180
    clear A180
    have HC19 := Aside0.mk H
    clear H
    go_upto_region 7 with (first | ((with_reducible refine gate_callee (f := 35) rfl ?_); refine goesL_ (some 46) rfl rfl Try.func35 (by kernel_rfl) rfl #[.slice A0 l0.length c0] rfl (by (try simp only [List.map_toArray, List.map_cons, List.map_nil]); first | done | rfl | (simp only [List.length_drop, List.length_take]; rfl)) ?_; (with_reducible refine (spec_DrawIsClash.calls kj5 _ _ l0 t614 t615 t616 _ ?side1 ?side2 A18.out).mono ?_); (case side1 => repeat (first | exact (Kd.C_below HR0.out HB.out) | (with_reducible refine Kd.C_alloc ?_ _) | (with_reducible refine Kd.C_drewN ?_ _) | (with_reducible refine Kd.C_drew ?_))); (case side2 => exact HC0.out); rintro e w20 ⟨rfl, hb⟩; refine ⟨_, rfl, ?_⟩; have n0_ := Aside0.mk (Kd.R_below (by (with_reducible repeat (first | apply Kd.R_alloc | apply Kd.R_drewN | apply Kd.R_drew)); exact HO_3.out) hb); have n1_ := Aside0.mk (Kd.R_below (by (with_reducible repeat (first | apply Kd.R_alloc | apply Kd.R_drewN | apply Kd.R_drew)); exact HO_4.out) hb); have n2_ := Aside0.mk (below_step (by repeat (first | (with_reducible first | exact HB.out | apply below_alloc | apply pw_below_drewN | apply below_drew1) | exact HB.out)) hb); clear HO_3; clear HO_4; clear HB; have HO_3 := n0_; have HO_4 := n1_; have HB := n2_; clear n0_ n1_ n2_; (try clear hb); (try clear hb2); (try clear hk); (try clear hi)))
    (try simp only [Act.put, List.setIfInBounds_toArray, List.set_cons_zero, List.set_cons_succ])
    go_cut [69] (fun v69 wc => ∃ (kq : Nat) (x69_18 : Bool), v69 = .bool x69_18 ∧ Aside0 (laws_FnClashes.j1 kq t602 t603 t608 t609 t610 x69_18 = some r) ∧ Aside0 (kq ≤ kj5) ∧ Aside0 (Kd.R Kd.string 9 wc w.heap.size (fun k_ => some k_ ≠ ((.slice Ao9 t603.length co9) : Value).ownBlock) (.slice Ao8 t602.length co8) t602) ∧ Aside0 (Kd.R Kd.string 9 wc w.heap.size (fun k_ => some k_ ≠ ((.slice Ao8 t602.length co8) : Value).ownBlock) (.slice Ao9 t603.length co9) t603) ∧ Aside0 (Below w.heap.size w wc))
    case first =>
     have H := HC19.out
     clear HC19
     replace H := Option.bind_eq_some_iff.mp H
     obtain ⟨t617, A210, H⟩ := H
     replace H : ((spec_IsClash.f t614 t615 t616).bind fun t618 => (if (t617 != t618) = true then (laws_FnClashes.j1 kj5 t602 t603 t608 t609 t610 true) else ((impl_RootOf.f kj5 t602).bind fun t619 => (if (t619.size : Int) = 32 then (laws_FnClashes.j1 kj5 t602 t603 t608 t609 t610 (t610 != x8_5)) else (laws_FnClashes.j1 kj5 t602 t603 t608 t609 t610 true))))) = some r := H
     have A21 := Aside0.mk A210
     clear A210
     replace H := Option.bind_eq_some_iff.mp H
     obtain ⟨t618, A220, H⟩ := H
     replace H : (if (t617 != t618) = true then (laws_FnClashes.j1 kj5 t602 t603 t608 t609 t610 true) else ((impl_RootOf.f kj5 t602).bind fun t619 => (if (t619.size : Int) = 32 then (laws_FnClashes.j1 kj5 t602 t603 t608 t609 t610 (t610 != x8_5)) else (laws_FnClashes.j1 kj5 t602 t603 t608 t609 t610 true)))) = some r := H
     have A22 := Aside0.mk A220
     clear A220
     by_cases c23 : (t617 != t618) = true
     ·rw [if_pos c23] at H
      have c23b0 : (t617 != t618) = true := c23
      (try (have c23b1 : decide (t617 = t618) = false := by simpa using c23))
      (try (have c23b2 : (t617 == t618) = false := by simpa using c23))
      (try (have c23b3 : ¬ (t617 = t618) := by simpa using c23))
      clear c23
      (first | rw [c23b0] | (simp only [i64_w, i32_w]; rw [c23b0]) | rw [c23b1] | skip)
      have H' := Aside0.mk H
      clear H
      go_wp2_with (first | ((with_reducible refine gate_callee (f := 16) rfl ?_); refine goesL_ (some 53) rfl rfl Try.func16 (by kernel_rfl) rfl #[.string t614, .string t615, .int .i64 t616] rfl (by (try simp only [List.map_toArray, List.map_cons, List.map_nil]); first | done | rfl | (simp only [List.length_drop, List.length_take]; rfl)) ?_; (with_reducible refine (impl_IsClash.calls t614 t615 t616 t617 _ A21.out).mono ?_); rintro e w24 ⟨rfl, hb⟩; refine ⟨_, rfl, ?_⟩; have n0_ := Aside0.mk (Kd.R_below (by (with_reducible repeat (first | apply Kd.R_alloc | apply Kd.R_drewN | apply Kd.R_drew)); exact HO_3.out) hb); have n1_ := Aside0.mk (Kd.R_below (by (with_reducible repeat (first | apply Kd.R_alloc | apply Kd.R_drewN | apply Kd.R_drew)); exact HO_4.out) hb); have n2_ := Aside0.mk (below_step (by repeat (first | (with_reducible first | exact HB.out | apply below_alloc | apply pw_below_drewN | apply below_drew1) | exact HB.out)) hb); clear HO_3; clear HO_4; clear HB; have HO_3 := n0_; have HO_4 := n1_; have HB := n2_; clear n0_ n1_ n2_; (try clear hb); (try clear hb2); (try clear hk); (try clear hi)) | ((with_reducible refine gate_callee (f := 15) rfl ?_); refine goesL_ (some 57) rfl rfl Try.func15 (by kernel_rfl) rfl #[.string t614, .string t615, .int .i64 t616] rfl (by (try simp only [List.map_toArray, List.map_cons, List.map_nil]); first | done | rfl | (simp only [List.length_drop, List.length_take]; rfl)) ?_; (with_reducible refine (spec_IsClash.calls t614 t615 t616 t618 _ A22.out).mono ?_); rintro e w25 ⟨rfl, hb⟩; refine ⟨_, rfl, ?_⟩; have n0_ := Aside0.mk (Kd.R_below (by (with_reducible repeat (first | apply Kd.R_alloc | apply Kd.R_drewN | apply Kd.R_drew)); exact HO_3.out) hb); have n1_ := Aside0.mk (Kd.R_below (by (with_reducible repeat (first | apply Kd.R_alloc | apply Kd.R_drewN | apply Kd.R_drew)); exact HO_4.out) hb); have n2_ := Aside0.mk (below_step (by repeat (first | (with_reducible first | exact HB.out | apply below_alloc | apply pw_below_drewN | apply below_drew1) | exact HB.out)) hb); clear HO_3; clear HO_4; clear HB; have HO_3 := n0_; have HO_4 := n1_; have HB := n2_; clear n0_ n1_ n2_; (try clear hb); (try clear hb2); (try clear hk); (try clear hi)))
      go_meet
      case rel => exact ⟨_, (true), (by first | rfl | (simp; done) | (simp [*]; done)), H', ⟨by have := HJ5.out; first | omega | exact Nat.le_refl _⟩, ⟨by (with_reducible repeat (first | apply Kd.R_alloc | apply Kd.R_drewN | apply Kd.R_drew)); exact HO_3.out⟩, ⟨by (with_reducible repeat (first | apply Kd.R_alloc | apply Kd.R_drewN | apply Kd.R_drew)); exact HO_4.out⟩, ⟨by repeat (first | (with_reducible first | exact HB.out | apply below_alloc | apply pw_below_drewN | apply below_drew1) | exact HB.out)⟩⟩
     ·rw [if_neg c23] at H
      have c23b0 : (t617 != t618) = false := by simpa using c23
      (try (have c23b1 : decide (t617 = t618) = true := by simpa using c23))
      (try (have c23b2 : (t617 == t618) = true := by simpa using c23))
      clear c23
      (first | rw [c23b0] | (simp only [i64_w, i32_w]; rw [c23b0]) | rw [c23b1] | skip)
      replace H := Option.bind_eq_some_iff.mp H
      obtain ⟨t619, A260, H⟩ := H
      replace H : (if (t619.size : Int) = 32 then (laws_FnClashes.j1 kj5 t602 t603 t608 t609 t610 (t610 != x8_5)) else (laws_FnClashes.j1 kj5 t602 t603 t608 t609 t610 true)) = some r := H
      have A26 := Aside0.mk A260
      clear A260
      by_cases c27 : (t619.size : Int) = 32
      ·rw [if_pos c27] at H
       have c27b0 : ((t619.size : Int) == 32) = true := beq_iff_eq.mpr c27
       have c27b1 : ((t619.size : Int) != 32) = false := bne_eq_false_iff_eq.mpr c27
       clear c27
       have H' := Aside0.mk H
       clear H
       go_wp2_with (first | ((with_reducible refine gate_callee (f := 16) rfl ?_); refine goesL_ (some 53) rfl rfl Try.func16 (by kernel_rfl) rfl #[.string t614, .string t615, .int .i64 t616] rfl (by (try simp only [List.map_toArray, List.map_cons, List.map_nil]); first | done | rfl | (simp only [List.length_drop, List.length_take]; rfl)) ?_; (with_reducible refine (impl_IsClash.calls t614 t615 t616 t617 _ A21.out).mono ?_); rintro e w28 ⟨rfl, hb⟩; refine ⟨_, rfl, ?_⟩; have n0_ := Aside0.mk (Kd.R_below (by (with_reducible repeat (first | apply Kd.R_alloc | apply Kd.R_drewN | apply Kd.R_drew)); exact HO_3.out) hb); have n1_ := Aside0.mk (Kd.R_below (by (with_reducible repeat (first | apply Kd.R_alloc | apply Kd.R_drewN | apply Kd.R_drew)); exact HO_4.out) hb); have n2_ := Aside0.mk (below_step (by repeat (first | (with_reducible first | exact HB.out | apply below_alloc | apply pw_below_drewN | apply below_drew1) | exact HB.out)) hb); clear HO_3; clear HO_4; clear HB; have HO_3 := n0_; have HO_4 := n1_; have HB := n2_; clear n0_ n1_ n2_; (try clear hb); (try clear hb2); (try clear hk); (try clear hi)) | ((with_reducible refine gate_callee (f := 15) rfl ?_); refine goesL_ (some 57) rfl rfl Try.func15 (by kernel_rfl) rfl #[.string t614, .string t615, .int .i64 t616] rfl (by (try simp only [List.map_toArray, List.map_cons, List.map_nil]); first | done | rfl | (simp only [List.length_drop, List.length_take]; rfl)) ?_; (with_reducible refine (spec_IsClash.calls t614 t615 t616 t618 _ A22.out).mono ?_); rintro e w29 ⟨rfl, hb⟩; refine ⟨_, rfl, ?_⟩; have n0_ := Aside0.mk (Kd.R_below (by (with_reducible repeat (first | apply Kd.R_alloc | apply Kd.R_drewN | apply Kd.R_drew)); exact HO_3.out) hb); have n1_ := Aside0.mk (Kd.R_below (by (with_reducible repeat (first | apply Kd.R_alloc | apply Kd.R_drewN | apply Kd.R_drew)); exact HO_4.out) hb); have n2_ := Aside0.mk (below_step (by repeat (first | (with_reducible first | exact HB.out | apply below_alloc | apply pw_below_drewN | apply below_drew1) | exact HB.out)) hb); clear HO_3; clear HO_4; clear HB; have HO_3 := n0_; have HO_4 := n1_; have HB := n2_; clear n0_ n1_ n2_; (try clear hb); (try clear hb2); (try clear hk); (try clear hi)) | (go_at_call 34; (with_reducible refine (impl_RootOf.calls kj5 _ _ t602 t619 _ ?side1 ?side2 A26.out).mono ?_); (case side1 => repeat (first | exact (Kd.R_reads' HO_3.out).2.2 | (with_reducible refine Kd.C_alloc ?_ _) | (with_reducible refine Kd.C_drewN ?_ _) | (with_reducible refine Kd.C_drew ?_))); (case side2 => exact (Kd.R_reads' HO_3.out).2.1); rintro e w30 ⟨rfl, hb⟩; have n0_ := Aside0.mk (Kd.R_below (by (with_reducible repeat (first | apply Kd.R_alloc | apply Kd.R_drewN | apply Kd.R_drew)); exact HO_3.out) hb); have n1_ := Aside0.mk (Kd.R_below (by (with_reducible repeat (first | apply Kd.R_alloc | apply Kd.R_drewN | apply Kd.R_drew)); exact HO_4.out) hb); have n2_ := Aside0.mk (below_step (by repeat (first | (with_reducible first | exact HB.out | apply below_alloc | apply pw_below_drewN | apply below_drew1) | exact HB.out)) hb); clear HO_3; clear HO_4; clear HB; have HO_3 := n0_; have HO_4 := n1_; have HB := n2_; clear n0_ n1_ n2_; (try clear hb); (try clear hb2); (try clear hk); (try clear hi)))
       go_meet
       case rel => exact ⟨_, ((t610 != x8_5)), (by first | rfl | (simp; done) | (simp [*]; done)), H', ⟨by have := HJ5.out; first | omega | exact Nat.le_refl _⟩, ⟨by (with_reducible repeat (first | apply Kd.R_alloc | apply Kd.R_drewN | apply Kd.R_drew)); exact HO_3.out⟩, ⟨by (with_reducible repeat (first | apply Kd.R_alloc | apply Kd.R_drewN | apply Kd.R_drew)); exact HO_4.out⟩, ⟨by repeat (first | (with_reducible first | exact HB.out | apply below_alloc | apply pw_below_drewN | apply below_drew1) | exact HB.out)⟩⟩
      ·rw [if_neg c27] at H
       have c27b0 : ((t619.size : Int) == 32) = false := beq_eq_false_iff_ne.mpr c27
       have c27b1 : ((t619.size : Int) != 32) = true := bne_iff_ne.mpr c27
       have H' := Aside0.mk H
       clear H
       go_wp2_with (first | ((with_reducible refine gate_callee (f := 16) rfl ?_); refine goesL_ (some 53) rfl rfl Try.func16 (by kernel_rfl) rfl #[.string t614, .string t615, .int .i64 t616] rfl (by (try simp only [List.map_toArray, List.map_cons, List.map_nil]); first | done | rfl | (simp only [List.length_drop, List.length_take]; rfl)) ?_; (with_reducible refine (impl_IsClash.calls t614 t615 t616 t617 _ A21.out).mono ?_); rintro e w31 ⟨rfl, hb⟩; refine ⟨_, rfl, ?_⟩; have n0_ := Aside0.mk (Kd.R_below (by (with_reducible repeat (first | apply Kd.R_alloc | apply Kd.R_drewN | apply Kd.R_drew)); exact HO_3.out) hb); have n1_ := Aside0.mk (Kd.R_below (by (with_reducible repeat (first | apply Kd.R_alloc | apply Kd.R_drewN | apply Kd.R_drew)); exact HO_4.out) hb); have n2_ := Aside0.mk (below_step (by repeat (first | (with_reducible first | exact HB.out | apply below_alloc | apply pw_below_drewN | apply below_drew1) | exact HB.out)) hb); clear HO_3; clear HO_4; clear HB; have HO_3 := n0_; have HO_4 := n1_; have HB := n2_; clear n0_ n1_ n2_; (try clear hb); (try clear hb2); (try clear hk); (try clear hi)) | ((with_reducible refine gate_callee (f := 15) rfl ?_); refine goesL_ (some 57) rfl rfl Try.func15 (by kernel_rfl) rfl #[.string t614, .string t615, .int .i64 t616] rfl (by (try simp only [List.map_toArray, List.map_cons, List.map_nil]); first | done | rfl | (simp only [List.length_drop, List.length_take]; rfl)) ?_; (with_reducible refine (spec_IsClash.calls t614 t615 t616 t618 _ A22.out).mono ?_); rintro e w32 ⟨rfl, hb⟩; refine ⟨_, rfl, ?_⟩; have n0_ := Aside0.mk (Kd.R_below (by (with_reducible repeat (first | apply Kd.R_alloc | apply Kd.R_drewN | apply Kd.R_drew)); exact HO_3.out) hb); have n1_ := Aside0.mk (Kd.R_below (by (with_reducible repeat (first | apply Kd.R_alloc | apply Kd.R_drewN | apply Kd.R_drew)); exact HO_4.out) hb); have n2_ := Aside0.mk (below_step (by repeat (first | (with_reducible first | exact HB.out | apply below_alloc | apply pw_below_drewN | apply below_drew1) | exact HB.out)) hb); clear HO_3; clear HO_4; clear HB; have HO_3 := n0_; have HO_4 := n1_; have HB := n2_; clear n0_ n1_ n2_; (try clear hb); (try clear hb2); (try clear hk); (try clear hi)) | (go_at_call 34; (with_reducible refine (impl_RootOf.calls kj5 _ _ t602 t619 _ ?side1 ?side2 A26.out).mono ?_); (case side1 => repeat (first | exact (Kd.R_reads' HO_3.out).2.2 | (with_reducible refine Kd.C_alloc ?_ _) | (with_reducible refine Kd.C_drewN ?_ _) | (with_reducible refine Kd.C_drew ?_))); (case side2 => exact (Kd.R_reads' HO_3.out).2.1); rintro e w33 ⟨rfl, hb⟩; have n0_ := Aside0.mk (Kd.R_below (by (with_reducible repeat (first | apply Kd.R_alloc | apply Kd.R_drewN | apply Kd.R_drew)); exact HO_3.out) hb); have n1_ := Aside0.mk (Kd.R_below (by (with_reducible repeat (first | apply Kd.R_alloc | apply Kd.R_drewN | apply Kd.R_drew)); exact HO_4.out) hb); have n2_ := Aside0.mk (below_step (by repeat (first | (with_reducible first | exact HB.out | apply below_alloc | apply pw_below_drewN | apply below_drew1) | exact HB.out)) hb); clear HO_3; clear HO_4; clear HB; have HO_3 := n0_; have HO_4 := n1_; have HB := n2_; clear n0_ n1_ n2_; (try clear hb); (try clear hb2); (try clear hk); (try clear hi)))
       go_meet
       case rel => exact ⟨_, (true), (by first | rfl | (simp; done) | (simp [*]; done)), H', ⟨by have := HJ5.out; first | omega | exact Nat.le_refl _⟩, ⟨by (with_reducible repeat (first | apply Kd.R_alloc | apply Kd.R_drewN | apply Kd.R_drew)); exact HO_3.out⟩, ⟨by (with_reducible repeat (first | apply Kd.R_alloc | apply Kd.R_drewN | apply Kd.R_drew)); exact HO_4.out⟩, ⟨by repeat (first | (with_reducible first | exact HB.out | apply below_alloc | apply pw_below_drewN | apply below_drew1) | exact HB.out)⟩⟩
    case rest =>
     clear HC19
     try clear c1
     try clear c2
     try clear p2
     try clear c3
     try clear c6
     try clear c11
     try clear c11b0
     try clear c11b1
     try clear c11b2
     try clear c13
     try clear c15
     try clear c16
     try clear c23
     try clear c23b0
     try clear c23b1
     try clear c23b2
     try clear c27
     try clear c27b0
     try clear c27b1
     try clear c30
     try clear c31
     try clear c32
     try clear p2
     obtain ⟨kq, x69_18, rfl, HA, HJ18, HO_3, HO_4, HB⟩ := hcut
     cases kq with
     | zero => exact absurd HA.out (by simp [laws_FnClashes.j1])
     | succ kj18 =>
      have H := HA.out
      clear HA
      simp only [laws_FnClashes.j1] at H
      by_cases c34 : x69_18 = true
      ·subst c34
       have H1 : (none) = some r := by rw [if_pos rfl] at H; exact H
       clear H
       have H := H1
       clear H1
       exact absurd H (by simp)
      ·replace c34 := Bool.eq_false_iff.mpr c34
       subst c34
       have H1 : (if (t602.length : Int) = (t603.length : Int) then ((laws_sameTexts.f kj18 t602 t603).bind fun t620 => (laws_FnClashes.j2 kj18 t608 t609 t610 t620)) else (laws_FnClashes.j2 kj18 t608 t609 t610 true)) = some r := by rw [if_neg (show ¬ (false = true) by decide)] at H; exact H
       clear H
       have H := H1
       clear H1
       have HC35 := Aside0.mk H
       clear H
       go_upto_region 9 with (fail)
       go_cut [79] (fun v79 wc => ∃ (kq : Nat) (x79_34 : Bool), v79 = .bool x79_34 ∧ Aside0 (laws_FnClashes.j2 kq t608 t609 t610 x79_34 = some r) ∧ Aside0 (kq ≤ kj18) ∧ Aside0 (Below w.heap.size w wc))
       case first =>
        have H := HC35.out
        clear HC35
        by_cases c36 : (t602.length : Int) = (t603.length : Int)
        ·rw [if_pos c36] at H
         have c36b0 : ((t602.length : Int) == (t603.length : Int)) = true := beq_iff_eq.mpr c36
         have c36b1 : ((t602.length : Int) != (t603.length : Int)) = false := bne_eq_false_iff_eq.mpr c36
         have c36b2 : (t602.length == t603.length) = true := by first | simpa using c36 | (simp at c36 ⊢; omega)
         clear c36
         (first | rw [c36b0] | (simp only [i64_w, i32_w]; rw [c36b0]) | skip)
         replace H := Option.bind_eq_some_iff.mp H
         obtain ⟨t620, A370, H⟩ := H
         replace H : (laws_FnClashes.j2 kj18 t608 t609 t610 t620) = some r := H
         have A37 := Aside0.mk A370
         clear A370
         have H' := Aside0.mk H
         clear H
         go_wp2_with (first | (go_at_call 33; (with_reducible refine (laws_sameTexts.calls kj18 _ _ t602 _ _ t603 t620 _ ?side1 ?side2 ?side3 ?side4 A37.out).mono ?_); (case side1 => repeat (first | exact (Kd.R_reads' HO_3.out).2.2 | (with_reducible refine Kd.C_alloc ?_ _) | (with_reducible refine Kd.C_drewN ?_ _) | (with_reducible refine Kd.C_drew ?_))); (case side2 => exact (Kd.R_reads' HO_3.out).2.1); (case side3 => repeat (first | exact (Kd.R_reads' HO_4.out).2.2 | (with_reducible refine Kd.C_alloc ?_ _) | (with_reducible refine Kd.C_drewN ?_ _) | (with_reducible refine Kd.C_drew ?_))); (case side4 => exact (Kd.R_reads' HO_4.out).2.1); rintro e w' ⟨rfl, ⟨nd, rfl⟩⟩))
         go_meet
         case rel => exact ⟨_, (t620), (by first | rfl | (simp; done) | (simp [*]; done)), H', ⟨by have := HJ5.out; have := HJ18.out; first | omega | exact Nat.le_refl _⟩, ⟨by repeat (first | (with_reducible first | exact HB.out | apply below_alloc | apply pw_below_drewN | apply below_drew1) | exact HB.out)⟩⟩
        ·rw [if_neg c36] at H
         have c36b0 : ((t602.length : Int) == (t603.length : Int)) = false := beq_eq_false_iff_ne.mpr c36
         have c36b1 : ((t602.length : Int) != (t603.length : Int)) = true := bne_iff_ne.mpr c36
         have c36b2 : (t602.length == t603.length) = false := by first | simpa using c36 | (simp at c36 ⊢; omega)
         (first | rw [c36b0] | (simp only [i64_w, i32_w]; rw [c36b0]) | skip)
         have H' := Aside0.mk H
         clear H
         go_wp2
         go_meet
         case rel => exact ⟨_, (true), (by first | rfl | (simp; done) | (simp [*]; done)), H', ⟨by have := HJ5.out; have := HJ18.out; first | omega | exact Nat.le_refl _⟩, ⟨by repeat (first | (with_reducible first | exact HB.out | apply below_alloc | apply pw_below_drewN | apply below_drew1) | exact HB.out)⟩⟩
       case rest =>
        clear HC35
        try clear c1
        try clear c2
        try clear p2
        try clear c3
        try clear c6
        try clear c11
        try clear c11b0
        try clear c11b1
        try clear c11b2
        try clear c13
        try clear c15
        try clear c16
        try clear c23
        try clear c23b0
        try clear c23b1
        try clear c23b2
        try clear c27
        try clear c27b0
        try clear c27b1
        try clear c30
        try clear c31
        try clear c32
        try clear c34
        try clear c35
        try clear c36
        try clear c36b0
        try clear c36b1
        try clear c36b2
        try clear p2
        obtain ⟨kq, x79_34, rfl, HA, HJ34, HB⟩ := hcut
        cases kq with
        | zero => exact absurd HA.out (by simp [laws_FnClashes.j2])
        | succ kj34 =>
         have H := HA.out
         clear HA
         simp only [laws_FnClashes.j2] at H
         by_cases c38 : x79_34 = true
         ·subst c38
          have H1 : (if t608.toList = ([] : List UInt8) then (some (t609.toList == ([] : List UInt8))) else (none)) = some r := by rw [if_pos rfl] at H; exact H
          clear H
          have H := H1
          clear H1
          by_cases c39 : t608.toList = ([] : List UInt8)
          ·rw [if_pos c39] at H
           have c39b0 : (t608.toList == ([] : List UInt8)) = true := beq_iff_eq.mpr c39
           have c39b1 : (t608.toList != ([] : List UInt8)) = false := bne_eq_false_iff_eq.mpr c39
           clear c39
           obtain rfl := Option.some.inj H
           go_wp2
           go_ret
           exact ⟨by first | rfl | (simp [errW_none, errW_some] <;> rfl) | (simp [*, errW_none, errW_some] <;> rfl), by repeat (first | (with_reducible first | exact HB.out | apply below_alloc | apply pw_below_drewN | apply below_drew1) | exact HB.out)⟩
          ·rw [if_neg c39] at H
           exact absurd H (by simp)
         ·replace c38 := Bool.eq_false_iff.mpr c38
          subst c38
          have H1 : (if t608.toList = t609.toList then (none) else ((impl_IsClash.f t608 t609 32).bind fun t621 => (if (t621 == t610) = true then ((impl_IsClash.f t608 t609 0).bind fun t622 => (if t622 = true then ((impl_IsClash.f t608 t609 33).bind fun t623 => (some (!t623))) else (none))) else (none)))) = some r := by rw [if_neg (show ¬ (false = true) by decide)] at H; exact H
          clear H
          have H := H1
          clear H1
          by_cases c40 : t608.toList = t609.toList
          ·rw [if_pos c40] at H
           exact absurd H (by simp)
          ·rw [if_neg c40] at H
           have c40b0 : (t608.toList == t609.toList) = false := beq_eq_false_iff_ne.mpr c40
           have c40b1 : (t608.toList != t609.toList) = true := bne_iff_ne.mpr c40
           replace H := Option.bind_eq_some_iff.mp H
           obtain ⟨t621, A410, H⟩ := H
           replace H : (if (t621 == t610) = true then ((impl_IsClash.f t608 t609 0).bind fun t622 => (if t622 = true then ((impl_IsClash.f t608 t609 33).bind fun t623 => (some (!t623))) else (none))) else (none)) = some r := H
           have A41 := Aside0.mk A410
           clear A410
           by_cases c42 : (t621 == t610) = true
           ·rw [if_pos c42] at H
            have c42b0 : (t621 == t610) = true := c42
            (try (have c42b1 : decide (t621 = t610) = true := by simpa using c42))
            (try (have c42b2 : (t621 == t610) = true := by simpa using c42))
            clear c42
            replace H := Option.bind_eq_some_iff.mp H
            obtain ⟨t622, A430, H⟩ := H
            replace H : (if t622 = true then ((impl_IsClash.f t608 t609 33).bind fun t623 => (some (!t623))) else (none)) = some r := H
            have A43 := Aside0.mk A430
            clear A430
            by_cases c44 : t622 = true
            ·subst c44
             have H1 : ((impl_IsClash.f t608 t609 33).bind fun t623 => (some (!t623))) = some r := by rw [if_pos rfl] at H; exact H
             clear H
             have H := H1
             clear H1
             replace H := Option.bind_eq_some_iff.mp H
             obtain ⟨t623, A450, H⟩ := H
             replace H : (some (!t623)) = some r := H
             have A45 := Aside0.mk A450
             clear A450
             obtain rfl := Option.some.inj H
             go_wp2_with (first | (go_at_call 16; (with_reducible refine (impl_IsClash.calls t608 t609 32 t621 _ A41.out).mono ?_); rintro e w46 ⟨rfl, hb⟩; have n0_ := Aside0.mk (below_step (by repeat (first | (with_reducible first | exact HB.out | apply below_alloc | apply pw_below_drewN | apply below_drew1) | exact HB.out)) hb); clear HB; have HB := n0_; clear n0_; (try clear hb); (try clear hb2); (try clear hk); (try clear hi)) | (go_at_call 16; (with_reducible refine (impl_IsClash.calls t608 t609 0 true _ A43.out).mono ?_); rintro e w47 ⟨rfl, hb⟩; have n0_ := Aside0.mk (below_step (by repeat (first | (with_reducible first | exact HB.out | apply below_alloc | apply pw_below_drewN | apply below_drew1) | exact HB.out)) hb); clear HB; have HB := n0_; clear n0_; (try clear hb); (try clear hb2); (try clear hk); (try clear hi)) | (go_at_call 16; (with_reducible refine (impl_IsClash.calls t608 t609 33 t623 _ A45.out).mono ?_); rintro e w48 ⟨rfl, hb⟩; have n0_ := Aside0.mk (below_step (by repeat (first | (with_reducible first | exact HB.out | apply below_alloc | apply pw_below_drewN | apply below_drew1) | exact HB.out)) hb); clear HB; have HB := n0_; clear n0_; (try clear hb); (try clear hb2); (try clear hk); (try clear hi)))
             go_ret
             exact ⟨by first | rfl | (simp [errW_none, errW_some] <;> rfl) | (simp [*, errW_none, errW_some] <;> rfl), by repeat (first | (with_reducible first | exact HB.out | apply below_alloc | apply pw_below_drewN | apply below_drew1) | exact HB.out)⟩
            ·replace c44 := Bool.eq_false_iff.mpr c44
             subst c44
             have H1 : (none) = some r := by rw [if_neg (show ¬ (false = true) by decide)] at H; exact H
             clear H
             have H := H1
             clear H1
             exact absurd H (by simp)
           ·rw [if_neg c42] at H
            exact absurd H (by simp)

end Go.Proofs.Ytcogimnpffnanaa.Q
end

section
/- The row of the law FnClashes out of its pure statement and the printed walk. -/
namespace Go.Proofs.Ytcogimnpffnanaa.Q
open Go.RowKit Go.Proofs.Ytcogimnpffnanaa.XO Go.Proofs.YtcogimnpffnanaaW.PrintWords Go.ChangeShapes Go.WideShapes Go.ChangeAt
set_option linter.unusedVariables false
set_option linter.unusedSimpArgs false
def laws_FnClashes.Pure : Prop := ∀ (x0 : List Int), (x0.length ≤ 9223372036854775807 ∧ ∀ y0 ∈ x0, (Lit.int .u8 y0).wf = true) → ∃ k, laws_FnClashes.f k x0 = some true
namespace RFnClashes
theorem own : ownKnob Try.prog.godebug = none := by kernel_rfl
theorem laidOut : laidOutB Try.prog = true := by kernel_rfl
set_option maxRecDepth 100000 in
theorem lifted (PU : laws_FnClashes.Pure) (os : Os) (started : os.Started) (H : Type) (enc : TypeId × Value → H) :
  ReturnsInHanded {} Try.checked os 6 .any (Rows.fnClashesSpec.pre6 enc Try.prog Try.f6 Rows.fnClashesRow.domain false) (Rows.fnClashesSpec.post enc Try.prog Try.f6 false true false false) := by
 refine returnsInHanded_of_change_sized (C := Try.checked) own started (by kernel_rfl) Try.func6
  (ChangeSpec.witness6 (enc := enc) (C := Try.checked) false ⟨#[], #[.slice none 0 0], []⟩ 8 (by kernel_rfl) (by kernel_rfl) (by kernel_rfl) (by kernel_rfl)) ?_
 intro W base args ds gs before hval0 hW hcnd hsz0 _
 have hval : ∀ (j : Nat) t v, Try.f6.params[j]? = some t → args[j]? = some v → Value.okWide Try.prog W .any base t v := hval0
 have hW' := hW
 obtain ⟨p, q, hA0, hV, rfl, hfz, hnd⟩ := hW
 have hA : DataW.TrodAll enc Try.prog W 0 (fun _ => true) true Try.f6.params.toList args.toList ds p := hA0
 rw [Try.params6] at hA hval
 obtain ⟨v0, vs0, d0, ds0, p0, q0, hargs, rfl, rfl, h0, r0⟩ := trodAll_cons hA
 obtain ⟨rfl, rfl, rfl⟩ := trodAll_nil r0
 obtain rfl : args = #[v0] := by cases args; simp_all
 obtain ⟨rfl, rfl⟩ := trodVars_none hV
 have kk0 := h0
 have lt0 : ∀ x ∈ p0, x.block < W.heap.size := by obtain ⟨m, hm⟩ := kk0; exact DataW.trod_lt m _ _ _ hm
 obtain ⟨A0, len0, c0, rfl⟩ := okWide_slice Try.underlying29 (hval 0 29 v0 rfl rfl)
 obtain ⟨fu0, hf0⟩ := h0
 obtain ⟨x0, ⟨A0', c0', he0, hc0, hr0⟩, g0⟩ := (opens_slice Try.underlying29 (by kernel_rfl) (opens_int Try.underlying5)) hf0
 obtain ⟨rfl, rfl, rfl⟩ : A0 = A0' ∧ len0 = x0.length ∧ c0 = c0' := by simpa [Value.cells] using he0
 clear hA0 hval0 hsz0
 obtain ⟨k, hp⟩ := PU x0 g0
 refine (laws_FnClashes.calls k _ _ x0 true W hr0 hc0 hp).mono fun e W' ⟨he, bel0⟩ => ?_
 have bel : Below W.heap.size W W' := bel0
 subst he
 exact ⟨_, rfl, _, _, _, [], _, [], hW', trodAll_mk1 (shut_bool Try.underlying4 _), (trodAll_cons_mk (Below.trod laidOut (by kernel_rfl) (of_decide_eq_true (by kernel_rfl)) kk0 bel lt0) trodAll_mk0), rfl, bel.frame _, fun h => by cases h⟩
theorem over (PU : laws_FnClashes.Pure) : Rows.fnClashesRow.holds Try.pinned (OpenSpec.ofChange Rows.fnClashesSpec) :=
 OpenClaim.holds_of_wide 6 Try.f6 rfl rfl rfl rfl rfl rfl rfl ⟨rfl, rfl, rfl, rfl, rfl⟩ rfl rfl rfl rfl rfl (by kernel_rfl) Try.func6 (by kernel_rfl)
  (of_decide_eq_true (by kernel_rfl)) (by unfold Func.isWrapper; first | (rw [if_pos (by decide +kernel)]; kernel_rfl) | (rw [if_neg (by decide +kernel)]; exact ⟨rfl, rfl⟩))
  (fun os started H enc _ => lifted PU os started H enc)
end RFnClashes
theorem FnClashes_row (PU : laws_FnClashes.Pure) : Rows.FnClashesSaid := RFnClashes.over PU
end Go.Proofs.Ytcogimnpffnanaa.Q
end

section
/- Two drawn lists of texts: what the program tells of them when they clash is so; no condition. -/
namespace Go.Proofs.Ytcogimnpffnanaa.Q
open Go.RowKit Go.Proofs.Ytcogimnpffnanaa.B Go.Proofs.YtcogimnpffnanaaW.PrintWords Go.Proofs.YtcogimnpffnanaaW.PrintMore
set_option linter.unusedVariables false
set_option linter.unusedSimpArgs false

theorem nums_size (l : List Int) : (strOfNums l).size = l.length := by rw [strOfNums_size]
theorem drawClash_ev (l0 : List Int) (hl : l0.length ≤ 1048576) : ∃ l m, Ev (fun k => spec_DrawClash.f k l0) (l, m) ∧ l.length ≤ 8 ∧ m.length ≤ 8 ∧ (∀ x ∈ l, x.size ≤ bigB) ∧ ∀ x ∈ m, x.size ≤ bigB := by
 obtain ⟨h, hN⟩ := l1New_ev l0 hl
 obtain ⟨l, i1, h1, e1, d1, hl1, hx1⟩ := l6List_ev h (Drawer.new hl)
 have hb : ∀ x ∈ l, x.size ≤ bigB := fun x hm => by
  have := hx1 x hm
  unfold bigB
  omega
 obtain ⟨o, i2, h2, e2, d2⟩ := l1Once_ok h1 3 d1 (by decide) (by decide)
 have J : ∀ (m : List ByteArray) (i h : Int), Drawer l0 i → m.length ≤ 8 → (∀ x ∈ m, x.size ≤ bigB) → ∃ m', Ev (fun k => spec_DrawClash.j0 k l m l0 i h) (l, m') ∧ m'.length ≤ 8 ∧ ∀ x ∈ m', x.size ≤ bigB := fun m i h hd hm hx => by
  obtain ⟨o2, i3, h3, e3, d3⟩ := l1Once_ok h 4 hd (by decide) (by decide)
  by_cases ho : o2 = true
  ·obtain ⟨m2, i4, h4, e4, d4, hl4, hx4⟩ := l6List_ev h3 d3
   refine ⟨m2, ?_, hl4, fun x hm => by have := hx4 x hm; unfold bigB; omega⟩
   refine Ev.step (fun k => by simp only [spec_DrawClash.j0]; rfl) ?_
   exact Ev.bind (Ev.const e3) (Ev.pos ho (Ev.bind e4 (Ev.now _)))
  ·refine ⟨m, ?_, hm, hx⟩
   refine Ev.step (fun k => by simp only [spec_DrawClash.j0]; rfl) ?_
   exact Ev.bind (Ev.const e3) (Ev.neg ho (Ev.now _))
 have main : ∀ m, Ev (fun k => if o = true then (some (l, l)) else (if (l.length : Int) > 0 then ((spec_l1Below.f l0 i2 h2 (l.length : Int)).bind fun bt625 => (if 0 ≤ bt625.1 then (if bt625.1 < (l.length : Int) then (spec_DrawClash.j0 k l (l.set (bt625.1 : Int).toNat (⟨#[111, 116, 104, 101, 114]⟩ : ByteArray)) l0 bt625.2.1 bt625.2.2) else (none)) else (none))) else (spec_DrawClash.j0 k l l l0 i2 h2))) (l, m) → Ev (fun k => spec_DrawClash.f k l0) (l, m) := fun m hm => by
  unfold spec_DrawClash.f
  refine Ev.bind hN (Ev.bind e1 (Ev.bind (Ev.const e2) ?_))
  simp only [Option.bind_some, List.nil_append, List.length_nil]
  by_cases ho : o = true
  ·simp only [if_pos ho] at hm
   exact Ev.pos ho (Ev.pos (by omega) hm)
  ·simp only [if_neg ho] at hm
   exact Ev.neg ho (Ev.pos (by omega) hm)
 by_cases ho : o = true
 ·exact ⟨l, l, main l (Ev.pos ho (Ev.now _)), hl1, hl1, hb, hb⟩
 ·by_cases hz : (l.length : Int) > 0
  ·obtain ⟨x, i3, h3, e3, hx0, hx1, d3⟩ := l1Below_ok h2 (l.length : Int) d2 (by omega) (by omega)
   obtain ⟨m, em, hm1, hm2⟩ := J (l.set (x : Int).toNat (⟨#[111, 116, 104, 101, 114]⟩ : ByteArray)) i3 h3 d3 (by simp; omega) (fun y hy => by
    rcases List.mem_or_eq_of_mem_set hy with hy | hy
    ·exact hb y hy
    ·rw [hy]
     decide)
   exact ⟨l, m, main m (Ev.neg ho (Ev.pos hz (Ev.bind (Ev.const e3) (Ev.pos hx0 (Ev.pos hx1 em))))), hl1, hm1, hb, hm2⟩
  ·obtain ⟨m, em, hm1, hm2⟩ := J l i2 h2 d2 hl1 hb
   exact ⟨l, m, main m (Ev.neg ho (Ev.neg hz em)), hl1, hm1, hb, hm2⟩
theorem twin_ev : ∃ t, Ev (fun k => spec_l8Twin.f k) t ∧ t.size ≤ 2 := by
 have hd : ∀ l : List Int, l.length ≤ 2 → (∀ x ∈ l, 0 ≤ x ∧ x ≤ 255) → Ev (fun k => spec_Digest.f k l) (sha l) := fun l h1 h2 => spec_Digest_ev l (by omega) h2
 have main : ∀ (d : Nat) (x1 x2 : Int), 1 ≤ x2 → x2 + d = 65536 → ∃ t, Ev (fun k => spec_l8Twin.l0 k x1 x2) t ∧ t.size ≤ 2 := by
  intro d
  induction d with
  | zero =>
   intro x1 x2 h1 h2
   refine ⟨⟨#[]⟩, ?_, by decide⟩
   refine Ev.step (fun k => by simp only [spec_l8Twin.l0]; rfl) ?_
   exact Ev.neg (by omega) (Ev.now _)
  | succ d ih =>
   intro x1 x2 h1 h2
   have hD := hd [x2 % 256, (x2 / 256) % 256] (by simp) (fun x hx => by
    simp only [List.mem_cons, List.not_mem_nil, or_false] at hx
    omega)
   have hz : (sha [x2 % 256, (x2 / 256) % 256]).size = 32 := sha_size _
   by_cases hb : bt (sha [x2 % 256, (x2 / 256) % 256]) 0 = x1
   ·refine ⟨strOfNums [x2 % 256, (x2 / 256) % 256], ?_, by rw [nums_size]; simp⟩
    refine Ev.step (fun k => by simp only [spec_l8Twin.l0]; rfl) ?_
    exact Ev.pos (by omega) (Ev.bind (Ev.now _) (Ev.bind hD (Ev.pos (by omega) (Ev.pos hb (Ev.now _)))))
   ·obtain ⟨t, e, ht⟩ := ih x1 (x2 + 1) (by omega) (by omega)
    refine ⟨t, ?_, ht⟩
    refine Ev.step (fun k => by simp only [spec_l8Twin.l0]; rfl) ?_
    rw [w64 (x := x2 + 1) (by omega) (by omega)]
    exact Ev.pos (by omega) (Ev.bind (Ev.now _) (Ev.bind hD (Ev.pos (by omega) (Ev.neg hb e))))
 have hz : (sha [0]).size = 32 := sha_size _
 obtain ⟨t, e, ht⟩ := main 65535 (bt (sha [0]) 0) 1 (by decide) (by decide)
 refine ⟨t, ?_, ht⟩
 unfold spec_l8Twin.f
 exact Ev.bind (hd [0] (by simp) (by simp)) (Ev.pos (by omega) e)
theorem drawIsClash_ev (l0 : List Int) (hl : l0.length ≤ 1048576) : ∃ x y n, Ev (fun k => spec_DrawIsClash.f k l0) (x, y, n) ∧ x.size ≤ 9 ∧ y.size ≤ 9 := by
 obtain ⟨h, hN⟩ := l1New_ev l0 hl
 obtain ⟨a, i1, h1, e1, d1, ha, _⟩ := l1Some_ev h (Drawer.new hl)
 obtain ⟨n, i2, h2, e2, _, d2⟩ := l1Int_ok h1 ([0, 0, 1, 32, 33, (-1)] : List Int) d1 (by decide) (by decide)
 obtain ⟨o, i3, h3, e3, d3⟩ := l1Once_ok h2 4 d2 (by decide) (by decide)
 have hA : (strOfNums a).size ≤ 9 := by rw [nums_size]; exact ha
 by_cases ho : o = true
 ·refine ⟨strOfNums a, strOfNums a, n, ?_, hA, hA⟩
  unfold spec_DrawIsClash.f
  exact Ev.bind hN (Ev.bind e1 (Ev.bind (Ev.const e2) (Ev.bind (Ev.const e3) (Ev.pos ho (Ev.now _)))))
 ·obtain ⟨o2, i4, h4, e4, d4⟩ := l1Once_ok h3 3 d3 (by decide) (by decide)
  by_cases ho2 : o2 = true
  ·obtain ⟨t, et, ht⟩ := twin_ev
   refine ⟨t, strOfNums [0], 1, ?_, by omega, by rw [nums_size]; simp⟩
   unfold spec_DrawIsClash.f
   exact Ev.bind hN (Ev.bind e1 (Ev.bind (Ev.const e2) (Ev.bind (Ev.const e3) (Ev.neg ho (Ev.bind (Ev.const e4) (Ev.pos ho2 (Ev.bind et (Ev.now _))))))))
  ·obtain ⟨b, i5, h5, e5, d5, hb, _⟩ := l1Some_ev h4 d4
   refine ⟨strOfNums a, strOfNums b, n, ?_, hA, by rw [nums_size]; exact hb⟩
   unfold spec_DrawIsClash.f
   exact Ev.bind hN (Ev.bind e1 (Ev.bind (Ev.const e2) (Ev.bind (Ev.const e3) (Ev.neg ho (Ev.bind (Ev.const e4) (Ev.neg ho2 (Ev.bind e5 (Ev.now _))))))))
theorem ext_all (d : ByteArray) : d.extract 0 d.size = d := by
 apply ByteArray.ext
 rw [ByteArray.data_extract]
 exact Array.extract_size
theorem clash32 {a b : ByteArray} (hne : a ≠ b) (ha : a.size ≤ 1048700) (hb : b.size ≤ 1048700) : impl_IsClash.f a b 32 = some (decide (sha (bytesOf a) = sha (bytesOf b))) := by
 have hl : ¬ a.toList = b.toList := fun e => hne (bytes_ext e)
 have e1 : (sha (bytesOf a)).extract 0 32 = sha (bytesOf a) := by
  have := ext_all (sha (bytesOf a))
  rw [sha_size] at this
  exact this
 have e2 : (sha (bytesOf b)).extract 0 32 = sha (bytesOf b) := by
  have := ext_all (sha (bytesOf b))
  rw [sha_size] at this
  exact this
 unfold impl_IsClash.f clashF
 rw [if_pos ⟨by omega, by omega⟩, if_neg hl, if_pos (by decide), show (32 : Int).toNat = 32 from rfl, e1, e2]
 by_cases e : sha (bytesOf a) = sha (bytesOf b)
 ·rw [decide_eq_true e, e]
  simp
 ·rw [decide_eq_false e]
  congr 1
  rw [beq_eq_false_iff_ne]
  exact fun q => e (bytes_ext q)
theorem clash0 {a b : ByteArray} (hne : a ≠ b) (ha : a.size ≤ 1048700) (hb : b.size ≤ 1048700) : impl_IsClash.f a b 0 = some true := by
 have hl : ¬ a.toList = b.toList := fun e => hne (bytes_ext e)
 have e0 : ∀ d : ByteArray, d.extract 0 0 = ⟨#[]⟩ := fun d => by
  apply ByteArray.ext
  rw [ByteArray.data_extract]
  simp
 unfold impl_IsClash.f clashF
 rw [if_pos ⟨by omega, by omega⟩, if_neg hl, if_pos (by decide), show (0 : Int).toNat = 0 from rfl, e0, e0]
 simp
theorem clash33 {a b : ByteArray} (hne : a ≠ b) (ha : a.size ≤ 1048700) (hb : b.size ≤ 1048700) : impl_IsClash.f a b 33 = some false := by
 have hl : ¬ a.toList = b.toList := fun e => hne (bytes_ext e)
 unfold impl_IsClash.f clashF
 rw [if_pos ⟨by omega, by omega⟩, if_neg hl, if_neg (by decide)]
theorem clashB_some (a b : ByteArray) (n : Int) (ha : a.size ≤ 9) (hb : b.size ≤ 9) : ∃ r, impl_IsClash.f a b n = some r ∧ spec_IsClash.f a b n = some r := by
 unfold impl_IsClash.f spec_IsClash.f clashF
 rw [if_pos ⟨by omega, by omega⟩]
 exact ⟨_, rfl, rfl⟩

theorem pure_FnClashes : laws_FnClashes.Pure := by
 intro l0 gl
 refine Ev.rounds (g := fun k => laws_FnClashes.f k l0) ?_
 unfold laws_FnClashes.f laws_big.f
 simp only [Option.bind_some]
 by_cases h : (l0.length : Int) > 1048576
 ·rw [decide_eq_true h]
  exact Ev.pos rfl (Ev.now _)
 ·rw [decide_eq_false h]
  obtain ⟨l, m, eD, hl, hm, hlx, hmx⟩ := drawClash_ev l0 (by omega)
  obtain ⟨x, y, n, eI, hx, hy⟩ := drawIsClash_ev l0 (by omega)
  obtain ⟨q, q1, q2⟩ := clashB_some x y n hx hy
  obtain ⟨a, b, c, eC, hC⟩ := ClashI_ev l m hlx hmx (by omega)
  have hR := impl_RootOf_ev l (by omega) hlx
  have hR2 := impl_RootOf_ev m (by omega) hmx
  have hS := laws_same_ev l m (by omega)
  have hz := root_32 l
  have J2 : Ev (fun k => if (l.length : Int) = (m.length : Int) then ((laws_sameTexts.f k l m).bind fun t620 => (laws_FnClashes.j2 k a b c t620)) else (laws_FnClashes.j2 k a b c true)) true := by
   by_cases hk : l.length = m.length ∧ l.length ≤ 200 ∧ l ≠ m
   ·rw [if_pos hk] at hC
    obtain ⟨⟨t1, t2, t3, t4⟩, rfl⟩ := hC
    rw [decide_eq_false hk.2.2] at hS
    refine Ev.pos (by omega) (Ev.bind hS ?_)
    have hab : ¬ a.toList = b.toList := fun e => t1 (bytes_ext e)
    have hcc : decide (sha (bytesOf a) = sha (bytesOf b)) = decide (rootBy leafH l = rootBy leafH m) := by
     by_cases e : rootBy leafH l = rootBy leafH m
     ·rw [decide_eq_true e, decide_eq_true (t2.2 e)]
     ·rw [decide_eq_false e, decide_eq_false (fun q => e (t2.1 q))]
    have k1 := clash32 t1 t3 t4
    rw [hcc] at k1
    refine Ev.step (fun k => by simp only [laws_FnClashes.j2]; rfl) ?_
    refine Ev.neg (by simp) (Ev.neg hab (Ev.bind (Ev.const k1) (Ev.pos (by simp) ?_)))
    exact Ev.bind (Ev.const (clash0 t1 t3 t4)) (Ev.pos rfl (Ev.bind (Ev.const (clash33 t1 t3 t4)) (Ev.now _)))
   ·rw [if_neg hk] at hC
    obtain ⟨rfl, rfl, rfl⟩ := hC
    have j : Ev (fun k => laws_FnClashes.j2 k ⟨#[]⟩ ⟨#[]⟩ false true) true := by
     refine Ev.step (fun k => by simp only [laws_FnClashes.j2]; rfl) ?_
     exact Ev.pos trivial (Ev.pos (by rw [Go.Lib.toList_data]) (Ev.one (Ev.now _) (by rw [Go.Lib.toList_data]; rfl)))
    by_cases h1 : l.length = m.length
    ·have e : l = m := Classical.byContradiction fun q => hk ⟨h1, by omega, q⟩
     rw [decide_eq_true e] at hS
     exact Ev.pos (by omega) (Ev.bind hS j)
    ·exact Ev.neg (by omega) j
  have J1 : Ev (fun k => laws_FnClashes.j1 k l m a b c false) true := by
   refine Ev.step (fun k => by simp only [laws_FnClashes.j1]; rfl) ?_
   exact Ev.neg (by simp) J2
  have J0 : ∀ u, u = c → Ev (fun k => laws_FnClashes.j0 k l0 l m a b c u) true := fun u hu => by
   subst hu
   refine Ev.step (fun k => by simp only [laws_FnClashes.j0]; rfl) ?_
   refine Ev.bind eI (Ev.bind (Ev.const q1) (Ev.bind (Ev.const q2) (Ev.neg (by simp) (Ev.bind hR (Ev.pos (by omega) ?_)))))
   rw [show (u != u) = false by simp]
   exact J1
  refine Ev.neg (by simp) (Ev.bind eD (Ev.bind eC ?_))
  simp only
  by_cases h1 : l.length = m.length
  ·refine Ev.pos (by omega) (Ev.bind hS ?_)
   by_cases e : l = m
   ·rw [decide_eq_true e]
    rw [if_neg (fun hk => hk.2.2 e)] at hC
    exact Ev.pos rfl (J0 _ hC.2.2.symm)
   ·rw [decide_eq_false e]
    rw [if_pos ⟨h1, by omega, e⟩] at hC
    refine Ev.neg (by simp) (Ev.bind hR (Ev.bind hR2 (J0 _ ?_)))
    rw [hC.2]
    by_cases e : rootBy leafH l = rootBy leafH m
    ·rw [decide_eq_true e, e]
     simp
    ·rw [decide_eq_false e, beq_eq_false_iff_ne]
     exact fun q => e (bytes_ext q)
  ·rw [if_neg (fun hk => h1 hk.1)] at hC
   exact Ev.neg (by omega) (J0 _ hC.2.2.symm)
end Go.Proofs.Ytcogimnpffnanaa.Q
namespace Go.Proofs.Ytcogimnpffnanaa
theorem fnClashes_holds : Rows.FnClashesSaid := Q.FnClashes_row Q.pure_FnClashes
end Go.Proofs.Ytcogimnpffnanaa
end
