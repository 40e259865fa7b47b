-- Joined and shortened by a program of this session (wip/tools/shakecopy.py): the words of the print, texts of pp.sh and of mine.
import Derived.Test.YtcogimnpffnanaaKFnCommits6
import Derived.Deep.Slices
import Derived.ChangeArms
import Derived.Test.YtcogimnpffnanaaRows
import Derived.WalkKit
import Derived.ProofKit
import Derived.OpenShut
import Derived.ShutString
import Derived.ChangeOld
import Derived.Below
import Derived.SizedLaws
import Derived.Carry
section
-- Written by a program of this session (wip/tools/pp.sh) over the print of the kit.
namespace Go.Proofs.Ytcogimnpffnanaa.Q
open Go.RowKit Go.Proofs.YtcogimnpffnanaaW.PrintWords Go.Proofs.YtcogimnpffnanaaW.PrintLast Go.Proofs.YtcogimnpffnanaaW.PrintMore
attribute [local go_sem] max2_int min2_int max_two min_two max_three min_three max_four min_four   -- for this text's walks alone
set_option linter.unusedVariables false
set_option linter.unusedSimpArgs false

/-! ### spec_DrawPutCommit: function 36 -/
def spec_DrawPutCommit.f (k : Nat) (l0 : List Int) : Option (Int × ByteArray × List ByteArray) := (spec_l1New.f k l0).bind fun bt602 => ((spec_l6List.f k bt602.1 bt602.2.1 bt602.2.2).bind fun bt606 => ((spec_HeadOf.f k bt606.1).bind fun bt611 => ((spec_l1Once.f bt602.1 bt606.2.1 bt606.2.2 8).bind fun bt614 => (if bt614.1 = true then (some (bt611.1, (⟨#[120]⟩ : ByteArray), bt606.1)) else (some (bt611.1, bt611.2, bt606.1))))))
theorem spec_DrawPutCommit.mono : ∀ a0 k, LeO (spec_DrawPutCommit.f k a0) (spec_DrawPutCommit.f (k + 1) a0) := by
 intro a0 k
 unfold spec_DrawPutCommit.f
 repeat' first
   | (with_reducible exact spec_HeadOf.mono _ _)
   | (with_reducible exact spec_l1New.mono _ _)
   | (with_reducible exact spec_l6List.mono _ _ _ _)
   | (with_reducible exact LeO.refl _)
   | (with_reducible exact LeO.none _)
   | (with_reducible refine LeO.ite ?_ ?_)
   | (with_reducible refine LeO.bind ?_ (fun _ => ?_))
   | exact spec_HeadOf.mono _ _
   | exact spec_l1New.mono _ _
   | exact spec_l6List.mono _ _ _ _
   | exact LeO.none _
   | refine LeO.ite ?_ ?_
   | refine LeO.bind ?_ (fun _ => ?_)
set_option maxHeartbeats 8000000 in
set_option maxRecDepth 100000 in
theorem spec_DrawPutCommit.calls (k : Nat) (A0 : Option Addr) (c0 : Nat) (l0 : List Int) (r1 : Int) (r2 : ByteArray) (r3 : List ByteArray) (w : World) (hr0 : Kd.C (Kd.int .u8) w A0 l0.length l0) (hc0 : l0.length ≤ c0) (h : spec_DrawPutCommit.f k l0 = some (r1, r2, r3)) :
  Calls Try.prog 36 #[.slice A0 l0.length c0] w fun e w' => ∃ v2_ : Value, e = .returned (.tuple #[.agg #[.int .i64 r1, .string r2], v2_]) ∧ Kd.R Kd.string 9 w' w.heap.size (fun _ => True) v2_ r3 ∧ Below w.heap.size w w' := by
 have hu31 := Try.underlying31
 have HR0 := Aside0.mk hr0
 have HC0 := Aside0.mk hc0
 clear hr0 hc0
 have HB := Aside0.mk (Below.refl w.heap.size w)
 have H : ((spec_l1New.f k l0).bind fun bt602 => ((spec_l6List.f k bt602.1 bt602.2.1 bt602.2.2).bind fun bt606 => ((spec_HeadOf.f k bt606.1).bind fun bt611 => ((spec_l1Once.f bt602.1 bt606.2.1 bt606.2.2 8).bind fun bt614 => (if bt614.1 = true then (some (bt611.1, (⟨#[120]⟩ : ByteArray), bt606.1)) else (some (bt611.1, bt611.2, bt606.1))))))) = some (r1, r2, r3) := h
 clear h
 replace H := Option.bind_eq_some_iff.mp H
 obtain ⟨⟨t602, t603, t604⟩, A20, H⟩ := H
 replace H : ((spec_l6List.f k t602 t603 t604).bind fun bt606 => ((spec_HeadOf.f k bt606.1).bind fun bt611 => ((spec_l1Once.f t602 bt606.2.1 bt606.2.2 8).bind fun bt614 => (if bt614.1 = true then (some (bt611.1, (⟨#[120]⟩ : ByteArray), bt606.1)) else (some (bt611.1, bt611.2, bt606.1)))))) = some (r1, r2, r3) := H
 have A2 := Aside0.mk A20
 clear A20
 replace H := Option.bind_eq_some_iff.mp H
 obtain ⟨⟨t606, t609, t610⟩, A30, H⟩ := H
 replace H : ((spec_HeadOf.f k t606).bind fun bt611 => ((spec_l1Once.f t602 t609 t610 8).bind fun bt614 => (if bt614.1 = true then (some (bt611.1, (⟨#[120]⟩ : ByteArray), t606)) else (some (bt611.1, bt611.2, t606))))) = some (r1, r2, r3) := H
 have A3 := Aside0.mk A30
 clear A30
 replace H := Option.bind_eq_some_iff.mp H
 obtain ⟨⟨t611, t612⟩, A40, H⟩ := H
 replace H : ((spec_l1Once.f t602 t609 t610 8).bind fun bt614 => (if bt614.1 = true then (some (t611, (⟨#[120]⟩ : ByteArray), t606)) else (some (t611, t612, t606)))) = some (r1, r2, r3) := H
 have A4 := Aside0.mk A40
 clear A40
 replace H := Option.bind_eq_some_iff.mp H
 obtain ⟨⟨t614, t615, t616⟩, A50, H⟩ := H
 replace H : (if t614 = true then (some (t611, (⟨#[120]⟩ : ByteArray), t606)) else (some (t611, t612, t606))) = some (r1, r2, r3) := H
 have A5 := Aside0.mk A50
 clear A50
 by_cases c6 : t614 = true
 ·subst c6
  have H1 : (some (t611, (⟨#[120]⟩ : ByteArray), t606)) = some (r1, r2, r3) := by rw [if_pos rfl] at H; exact H
  clear H
  have H := H1
  clear H1
  simp only [Option.some.injEq, Prod.mk.injEq] at H
  obtain ⟨rfl, rfl, rfl⟩ := H
  go_enter Try.func36, Try.ntmps36
  go_wp2_with (first | ((with_reducible refine gate_dst (N := 2) rfl ?_); refine box_event ?hg (N := 2) ?hd (cs := #[.int .i64 0, .string (⟨#[]⟩ : ByteArray)]) (t := 31) ?hr ?_; (case hd => rfl); (case hg => rfl); (case hr => first | (go_simp; done) | (go_simp; rfl)); intro gb601 hg w7 hbox hb; have n0_ := Aside0.mk (below_step (by repeat (first | (with_reducible first | exact HB.out | apply below_alloc | apply pw_below_drewN | apply below_drew1) | exact HB.out)) hb); have n1_ := Aside0.mk (hbox); have n2_ := Aside0.mk ((by rw [hg]; exact (below_size (by repeat (first | (with_reducible first | exact HB.out | apply below_alloc | apply pw_below_drewN | apply below_drew1) | exact HB.out))) : w.heap.size ≤ gb601)); have n3_ := Aside0.mk ((by rw [hg]; exact (below_size (by repeat (first | (with_reducible first | exact HB.out | apply below_alloc | apply pw_below_drewN | apply below_drew1) | exact HB.out))) : w.heap.size ≤ gb601)); clear HB; have HB := n0_; have BK601 := n1_; have GW601 := n2_; have GE601 := n3_; clear n0_ n1_ n2_ n3_; clear hb hbox hg) | ((with_reducible refine gate_callee (f := 108) rfl ?_); refine goesL_ (some 8) rfl rfl Try.func108 (by kernel_rfl) rfl #[.slice A0 l0.length c0] rfl (by (try simp only [List.map_toArray, List.map_cons, List.map_nil]); first | done | rfl | (simp only [List.length_drop, List.length_take]; rfl)) ?_; (with_reducible refine (spec_l1New.calls k _ _ l0 t602 t603 t604 w _ ?side1 ?side2 ?side3 A2.out).mono ?_); (case side1 => repeat (first | (with_reducible first | exact HB.out | apply below_alloc | apply pw_below_drewN | apply below_drew1 | refine below_set ?_ GE601.out) | exact HB.out)); (case side2 => exact HR0.out); (case side3 => exact HC0.out); rintro e w8 ⟨g605, rfl, hi, hb, hb2⟩; refine ⟨_, rfl, ?_⟩; have n0_ := Aside0.mk (blk_below (g := gb601) (o := .cells #[.int .i64 0, .string (⟨#[]⟩ : ByteArray)] 31 (0, 0)) (by (with_reducible repeat (first | refine blk_drewN ?_ _ | refine blk_drew ?_ | refine blk_alloc ?_ _)); exact BK601.out) hb2); have n1_ := Aside0.mk (hb); have n2_ := Aside0.mk (hi); have n3_ := Aside0.mk (IsS173.ne_blk hi (blk_below (g := gb601) (o := .cells #[.int .i64 0, .string (⟨#[]⟩ : ByteArray)] 31 (0, 0)) (by (with_reducible repeat (first | refine blk_drewN ?_ _ | refine blk_drew ?_ | refine blk_alloc ?_ _)); exact BK601.out) hb2) (by decide)); have n4_ := Aside0.mk (Ne.symm (IsS173.ne_blk hi (blk_below (g := gb601) (o := .cells #[.int .i64 0, .string (⟨#[]⟩ : ByteArray)] 31 (0, 0)) (by (with_reducible repeat (first | refine blk_drewN ?_ _ | refine blk_drew ?_ | refine blk_alloc ?_ _)); exact BK601.out) hb2) (by decide))); clear BK601; clear HB; have BK601 := n0_; have HB := n1_; have HI605 := n2_; have NB605_601 := n3_; have NB601_605 := n4_; clear n0_ n1_ n2_ n3_ n4_; (try clear hb); (try clear hb2); (try clear hk); (try clear hi)) | ((with_reducible refine gate_callee (f := 109) rfl ?_); refine goesL_ (some 10) rfl rfl Try.func109 (by kernel_rfl) rfl #[.pointer (some ⟨g605, 0, none⟩)] rfl (by (try simp only [List.map_toArray, List.map_cons, List.map_nil]); first | done | rfl | (simp only [List.length_drop, List.length_take]; rfl)) ?_; (with_reducible refine (spec_l6List.calls k g605 t602 t603 t604 t606 t609 t610 w _ ?side1 ?side2 A3.out).mono ?_); (case side1 => repeat (first | (with_reducible first | exact HI605.out | apply IsS173.alloc | apply IsS173.drewN | apply IsS173.drew | apply IsS173.set_1 | apply IsS173.set_2 | refine IsS173.far ?_ NB605_601.out _) | exact HI605.out)); (case side2 => repeat (first | (with_reducible first | exact HB.out | apply below_alloc | apply pw_below_drewN | apply below_drew1 | refine below_set ?_ (IsS173.ge HI605.out) | refine below_set ?_ GE601.out) | exact HB.out)); rintro e w9 ⟨v607, rfl, ho0, hi, hb, hk⟩; refine ⟨_, rfl, ?_⟩; have n0_ := Aside0.mk (KeepBut.blk hk (g' := gb601) (o := .cells #[.int .i64 0, .string (⟨#[]⟩ : ByteArray)] 31 (0, 0)) (by (with_reducible repeat (first | refine blk_drewN ?_ _ | refine blk_drew ?_ | refine blk_alloc ?_ _)); exact BK601.out) NB601_605.out (by simp)); have n1_ := Aside0.mk (Kd.R_lower ho0 (below_size (by repeat (first | (with_reducible first | exact HB.out | apply below_alloc | apply pw_below_drewN | apply below_drew1 | refine below_set ?_ (IsS173.ge HI605.out) | refine below_set ?_ GE601.out) | exact HB.out)))); have n2_ := Aside0.mk (hb); have n3_ := Aside0.mk (hi); clear BK601; clear HB; clear HI605; have BK601 := n0_; have HO608 := n1_; have HB := n2_; have HI605 := n3_; clear n0_ n1_ n2_ n3_; (try clear hb); (try clear hb2); (try clear hk); (try clear hi); (try clear ho0); obtain ⟨Ao10, co10, eo10⟩ := Kd.R_slice HO608.out; subst eo10) | ((with_reducible refine gate_callee (f := 118) rfl ?_); refine goesL_ (some 12) rfl rfl Try.func118 (by kernel_rfl) rfl #[.slice Ao10 t606.length co10] rfl (by (try simp only [List.map_toArray, List.map_cons, List.map_nil]); first | done | rfl | (simp only [List.length_drop, List.length_take]; rfl)) ?_; (with_reducible refine (spec_HeadOf.calls k _ _ t606 t611 t612 _ ?side1 ?side2 A4.out).mono ?_); (case side1 => repeat (first | exact (Kd.R_reads' HO608.out).2.2 | (with_reducible refine Kd.C_alloc ?_ _) | (with_reducible refine Kd.C_drewN ?_ _) | (with_reducible refine Kd.C_drew ?_))); (case side2 => exact (Kd.R_reads' HO608.out).2.1); rintro e w11 ⟨rfl, hb⟩; refine ⟨_, rfl, ?_⟩; have n0_ := Aside0.mk (Kd.R_below (by (with_reducible repeat (first | apply Kd.R_alloc | apply Kd.R_drewN | apply Kd.R_drew)); exact HO608.out) hb); have n1_ := Aside0.mk (blk_below (g := gb601) (o := .cells #[.int .i64 0, .string (⟨#[]⟩ : ByteArray)] 31 (0, 0)) (by (with_reducible repeat (first | refine blk_drewN ?_ _ | refine blk_drew ?_ | refine blk_alloc ?_ _)); exact BK601.out) hb); have n2_ := Aside0.mk (IsS173.below (by repeat (first | (with_reducible first | exact HI605.out | apply IsS173.alloc | apply IsS173.drewN | apply IsS173.drew | apply IsS173.set_1 | apply IsS173.set_2 | refine IsS173.far ?_ NB605_601.out _) | exact HI605.out)) hb); have n3_ := Aside0.mk (below_step (by repeat (first | (with_reducible first | exact HB.out | apply below_alloc | apply pw_below_drewN | apply below_drew1 | refine below_set ?_ (IsS173.ge HI605.out) | refine below_set ?_ GE601.out) | exact HB.out)) hb); clear HO608; clear BK601; clear HI605; clear HB; have HO608 := n0_; have BK601 := n1_; have HI605 := n2_; have HB := n3_; clear n0_ n1_ n2_ n3_; (try clear hb); (try clear hb2); (try clear hk); (try clear hi)) | ((with_reducible refine gate_dst (N := 6) rfl ?_); refine box_event ?hg (N := 6) ?hd (cs := #[.int .i64 0, .string (⟨#[]⟩ : ByteArray)]) (t := 31) ?hr ?_; (case hd => rfl); (case hg => rfl); (case hr => first | (go_simp; done) | (go_simp; rfl)); intro gb613 hg w12 hbox hb; have n0_ := Aside0.mk (Kd.R_below (by (with_reducible repeat (first | apply Kd.R_alloc | apply Kd.R_drewN | apply Kd.R_drew)); exact HO608.out) hb); have n1_ := Aside0.mk (blk_below (g := gb601) (o := .cells #[.int .i64 0, .string (⟨#[]⟩ : ByteArray)] 31 (0, 0)) (by (with_reducible repeat (first | refine blk_drewN ?_ _ | refine blk_drew ?_ | refine blk_alloc ?_ _)); exact BK601.out) hb); have n2_ := Aside0.mk (IsS173.below (by repeat (first | (with_reducible first | exact HI605.out | apply IsS173.alloc | apply IsS173.drewN | apply IsS173.drew | apply IsS173.set_1 | apply IsS173.set_2 | refine IsS173.far ?_ NB605_601.out _) | exact HI605.out)) hb); have n3_ := Aside0.mk (below_step (by repeat (first | (with_reducible first | exact HB.out | apply below_alloc | apply pw_below_drewN | apply below_drew1 | refine below_set ?_ (IsS173.ge HI605.out) | refine below_set ?_ GE601.out) | exact HB.out)) hb); have n4_ := Aside0.mk (hbox); have n5_ := Aside0.mk ((by rw [hg]; exact (below_size (by repeat (first | (with_reducible first | exact HB.out | apply below_alloc | apply pw_below_drewN | apply below_drew1 | refine below_set ?_ (IsS173.ge HI605.out) | refine below_set ?_ GE601.out) | exact HB.out))) : w.heap.size ≤ gb613)); have n6_ := Aside0.mk ((by rw [hg]; exact (below_size (by repeat (first | (with_reducible first | exact HB.out | apply below_alloc | apply pw_below_drewN | apply below_drew1 | refine below_set ?_ (IsS173.ge HI605.out) | refine below_set ?_ GE601.out) | exact HB.out))) : w.heap.size ≤ gb613)); have n7_ := Aside0.mk ((by rw [hg]; exact Nat.ne_of_lt (blk_lt (g := gb601) (o := .cells #[.int .i64 0, .string (⟨#[]⟩ : ByteArray)] 31 (0, 0)) (by (with_reducible repeat (first | refine blk_drewN ?_ _ | refine blk_drew ?_ | refine blk_alloc ?_ _)); exact BK601.out)) : gb601 ≠ gb613)); have n8_ := Aside0.mk ((by rw [hg]; exact Nat.ne_of_gt (blk_lt (g := gb601) (o := .cells #[.int .i64 0, .string (⟨#[]⟩ : ByteArray)] 31 (0, 0)) (by (with_reducible repeat (first | refine blk_drewN ?_ _ | refine blk_drew ?_ | refine blk_alloc ?_ _)); exact BK601.out)) : gb613 ≠ gb601)); have n9_ := Aside0.mk ((by rw [hg]; exact Nat.ne_of_lt (IsS173.lt (show IsS173 w _ g605 t602 t609 t610 from by repeat (first | (with_reducible first | exact HI605.out | apply IsS173.alloc | apply IsS173.drewN | apply IsS173.drew | apply IsS173.set_1 | apply IsS173.set_2 | refine IsS173.far ?_ NB605_601.out _) | exact HI605.out))) : g605 ≠ gb613)); have n10_ := Aside0.mk ((by rw [hg]; exact Nat.ne_of_gt (IsS173.lt (show IsS173 w _ g605 t602 t609 t610 from by repeat (first | (with_reducible first | exact HI605.out | apply IsS173.alloc | apply IsS173.drewN | apply IsS173.drew | apply IsS173.set_1 | apply IsS173.set_2 | refine IsS173.far ?_ NB605_601.out _) | exact HI605.out))) : gb613 ≠ g605)); clear HO608; clear BK601; clear HI605; clear HB; have HO608 := n0_; have BK601 := n1_; have HI605 := n2_; have HB := n3_; have BK613 := n4_; have GW613 := n5_; have GE613 := n6_; have NB601_613 := n7_; have NB613_601 := n8_; have NB605_613 := n9_; have NB613_605 := n10_; clear n0_ n1_ n2_ n3_ n4_ n5_ n6_ n7_ n8_ n9_ n10_; clear hb hbox hg; have hnb13 := NB613_601.out; have hnc13 := NB601_613.out; have hnb14 := NB613_605.out; have hnc14 := NB605_613.out; have hcz15_0 : w12.cell? ⟨gb613, 0, none⟩ = some (.int .i64 0) := (blk_cell BK613.out 0).trans rfl; have hcz15_1 : w12.cell? ⟨gb613, 1, none⟩ = some (.string (⟨#[]⟩ : ByteArray)) := (blk_cell BK613.out 1).trans rfl; have hfz15_0 := blk_frozen BK613.out 0; have hfz15_1 := blk_frozen BK613.out 1) | ((with_reducible refine gate_callee (f := 110) rfl ?_); refine goesL_ (some 14) rfl rfl Try.func110 (by kernel_rfl) rfl #[.pointer (some ⟨g605, 0, none⟩), .int .i64 8] rfl (by (try simp only [List.map_toArray, List.map_cons, List.map_nil]); first | done | rfl | (simp only [List.length_drop, List.length_take]; rfl)) ?_; (with_reducible refine (spec_l1Once.calls g605 t602 t609 t610 8 true t615 t616 w _ ?side1 ?side2 A5.out).mono ?_); (case side1 => repeat (first | (with_reducible first | exact HI605.out | apply IsS173.alloc | apply IsS173.drewN | apply IsS173.drew | apply IsS173.set_1 | apply IsS173.set_2 | refine IsS173.far ?_ NB605_601.out _ | refine IsS173.far ?_ NB605_613.out _) | exact HI605.out)); (case side2 => repeat (first | (with_reducible first | exact HB.out | apply below_alloc | apply pw_below_drewN | apply below_drew1 | refine below_set ?_ (IsS173.ge HI605.out) | refine below_set ?_ GE601.out | refine below_set ?_ GE613.out) | exact HB.out)); rintro e w16 ⟨rfl, hi, hb, hk⟩; refine ⟨_, rfl, ?_⟩; have n0_ := Aside0.mk (KeepBut.blk hk (g' := gb601) (o := .cells #[.int .i64 0, .string (⟨#[]⟩ : ByteArray)] 31 (0, 0)) (by (with_reducible repeat (first | refine blk_drewN ?_ _ | refine blk_drew ?_ | refine blk_alloc ?_ _)); refine blk_far ?_ NB601_613.out _; (with_reducible repeat (first | refine blk_drewN ?_ _ | refine blk_drew ?_ | refine blk_alloc ?_ _)); refine blk_far ?_ NB601_613.out _; (with_reducible repeat (first | refine blk_drewN ?_ _ | refine blk_drew ?_ | refine blk_alloc ?_ _)); exact BK601.out) NB601_605.out (by simp)); have n1_ := Aside0.mk (Kd.R_mono (Kd.R_keep (IsS173.apart (show IsS173 w _ g605 t602 t609 t610 from by repeat (first | (with_reducible first | exact HI605.out | apply IsS173.alloc | apply IsS173.drewN | apply IsS173.drew | apply IsS173.set_1 | apply IsS173.set_2 | refine IsS173.far ?_ NB605_601.out _ | refine IsS173.far ?_ NB605_613.out _) | exact HI605.out)) (by (with_reducible repeat (first | apply Kd.R_alloc | apply Kd.R_drewN | apply Kd.R_drew)); exact (Kd.R_mono (Kd.R_far (p := ⟨gb613, 1, none⟩) (Kd.R_far (p := ⟨gb613, 0, none⟩) (Kd.R_types HO608.out BK613.out (by decide)) (fun _ hk => hk.2) (.int .i64 t611)) (fun _ hk => hk.2) (.string t612)) (fun _ h_ => h_.1))) (by decide)) hk (fun _ h => h.2)) (fun _ h => h.1)); have n2_ := Aside0.mk (KeepBut.blk hk (g' := gb613) (o := .cells #[.int .i64 t611, .string t612] 31 (0, 0)) (by (with_reducible repeat (first | refine blk_drewN ?_ _ | refine blk_drew ?_ | refine blk_alloc ?_ _)); refine blk_put (cs := #[.int .i64 t611, .string (⟨#[]⟩ : ByteArray)]) ?_ 1 _ rfl; (with_reducible repeat (first | refine blk_drewN ?_ _ | refine blk_drew ?_ | refine blk_alloc ?_ _)); refine blk_put (cs := #[.int .i64 0, .string (⟨#[]⟩ : ByteArray)]) ?_ 0 _ rfl; (with_reducible repeat (first | refine blk_drewN ?_ _ | refine blk_drew ?_ | refine blk_alloc ?_ _)); exact BK613.out) NB613_605.out (by simp)); have n3_ := Aside0.mk (hb); have n4_ := Aside0.mk (hi); clear BK601; clear HO608; clear BK613; clear HB; clear HI605; have BK601 := n0_; have HO608 := n1_; have BK613 := n2_; have HB := n3_; have HI605 := n4_; clear n0_ n1_ n2_ n3_ n4_; (try clear hb); (try clear hb2); (try clear hk); (try clear hi); have hcz17_0 : w16.cell? ⟨gb613, 0, none⟩ = some (.int .i64 t611) := (blk_cell BK613.out 0).trans rfl; have hcz17_1 : w16.cell? ⟨gb613, 1, none⟩ = some (.string t612) := (blk_cell BK613.out 1).trans rfl; have hfz17_0 := blk_frozen BK613.out 0; have hfz17_1 := blk_frozen BK613.out 1; have hnb18 := NB601_605.out; have hnc18 := NB605_601.out; have hcz19_0 : w16.cell? ⟨gb601, 0, none⟩ = some (.int .i64 0) := (blk_cell BK601.out 0).trans rfl; have hcz19_1 : w16.cell? ⟨gb601, 1, none⟩ = some (.string (⟨#[]⟩ : ByteArray)) := (blk_cell BK601.out 1).trans rfl; have hfz19_0 := blk_frozen BK601.out 0; have hfz19_1 := blk_frozen BK601.out 1))
  refine bodyPost_ret (results_ct rfl _ _ gb601 31 #[.int .i64 t611, .string (⟨#[120]⟩ : ByteArray)] (0, 0) _ rfl (by (with_reducible repeat (first | refine blk_drewN ?_ _ | refine blk_drew ?_ | refine blk_alloc ?_ _)); refine blk_put (cs := #[.int .i64 t611, .string (⟨#[]⟩ : ByteArray)]) ?_ 1 _ rfl; (with_reducible repeat (first | refine blk_drewN ?_ _ | refine blk_drew ?_ | refine blk_alloc ?_ _)); refine blk_put (cs := #[.int .i64 0, .string (⟨#[]⟩ : ByteArray)]) ?_ 0 _ rfl; (with_reducible repeat (first | refine blk_drewN ?_ _ | refine blk_drew ?_ | refine blk_alloc ?_ _)); refine blk_far ?_ NB601_613.out _; (with_reducible repeat (first | refine blk_drewN ?_ _ | refine blk_drew ?_ | refine blk_alloc ?_ _)); exact BK601.out) Try.underlying31 rfl (by kernel_rfl)) rfl ?_
  exact ⟨_, by first | rfl | (simp [errW_none, errW_some] <;> rfl) | (simp [*, errW_none, errW_some] <;> rfl), by (with_reducible repeat (first | apply Kd.R_alloc | apply Kd.R_drewN | apply Kd.R_drew)); exact Kd.R_mono (Kd.R_far (p := ⟨gb601, 1, none⟩) (Kd.R_far (p := ⟨gb601, 0, none⟩) (Kd.R_far (p := ⟨gb613, 1, none⟩) (Kd.R_types (Kd.R_types HO608.out BK613.out (by decide)) BK601.out (by decide)) (fun _ hk => hk.1.2) (.string (⟨#[120]⟩ : ByteArray))) (fun _ hk => hk.2) (.int .i64 t611)) (fun _ hk => hk.2) (.string (⟨#[120]⟩ : ByteArray))) (fun _ hk => trivial), by repeat (first | (with_reducible first | exact HB.out | apply below_alloc | apply pw_below_drewN | apply below_drew1 | refine below_set ?_ (IsS173.ge HI605.out) | refine below_set ?_ GE601.out | refine below_set ?_ GE613.out) | exact HB.out)⟩
 ·replace c6 := Bool.eq_false_iff.mpr c6
  subst c6
  have H1 : (some (t611, t612, t606)) = some (r1, r2, r3) := by rw [if_neg (show ¬ (false = true) by decide)] at H; exact H
  clear H
  have H := H1
  clear H1
  simp only [Option.some.injEq, Prod.mk.injEq] at H
  obtain ⟨rfl, rfl, rfl⟩ := H
  go_enter Try.func36, Try.ntmps36
  go_wp2_with (first | ((with_reducible refine gate_dst (N := 2) rfl ?_); refine box_event ?hg (N := 2) ?hd (cs := #[.int .i64 0, .string (⟨#[]⟩ : ByteArray)]) (t := 31) ?hr ?_; (case hd => rfl); (case hg => rfl); (case hr => first | (go_simp; done) | (go_simp; rfl)); intro gb601 hg w20 hbox hb; have n0_ := Aside0.mk (below_step (by repeat (first | (with_reducible first | exact HB.out | apply below_alloc | apply pw_below_drewN | apply below_drew1) | exact HB.out)) hb); have n1_ := Aside0.mk (hbox); have n2_ := Aside0.mk ((by rw [hg]; exact (below_size (by repeat (first | (with_reducible first | exact HB.out | apply below_alloc | apply pw_below_drewN | apply below_drew1) | exact HB.out))) : w.heap.size ≤ gb601)); have n3_ := Aside0.mk ((by rw [hg]; exact (below_size (by repeat (first | (with_reducible first | exact HB.out | apply below_alloc | apply pw_below_drewN | apply below_drew1) | exact HB.out))) : w.heap.size ≤ gb601)); clear HB; have HB := n0_; have BK601 := n1_; have GW601 := n2_; have GE601 := n3_; clear n0_ n1_ n2_ n3_; clear hb hbox hg) | ((with_reducible refine gate_callee (f := 108) rfl ?_); refine goesL_ (some 8) rfl rfl Try.func108 (by kernel_rfl) rfl #[.slice A0 l0.length c0] rfl (by (try simp only [List.map_toArray, List.map_cons, List.map_nil]); first | done | rfl | (simp only [List.length_drop, List.length_take]; rfl)) ?_; (with_reducible refine (spec_l1New.calls k _ _ l0 t602 t603 t604 w _ ?side1 ?side2 ?side3 A2.out).mono ?_); (case side1 => repeat (first | (with_reducible first | exact HB.out | apply below_alloc | apply pw_below_drewN | apply below_drew1 | refine below_set ?_ GE601.out) | exact HB.out)); (case side2 => exact HR0.out); (case side3 => exact HC0.out); rintro e w21 ⟨g605, rfl, hi, hb, hb2⟩; refine ⟨_, rfl, ?_⟩; have n0_ := Aside0.mk (blk_below (g := gb601) (o := .cells #[.int .i64 0, .string (⟨#[]⟩ : ByteArray)] 31 (0, 0)) (by (with_reducible repeat (first | refine blk_drewN ?_ _ | refine blk_drew ?_ | refine blk_alloc ?_ _)); exact BK601.out) hb2); have n1_ := Aside0.mk (hb); have n2_ := Aside0.mk (hi); have n3_ := Aside0.mk (IsS173.ne_blk hi (blk_below (g := gb601) (o := .cells #[.int .i64 0, .string (⟨#[]⟩ : ByteArray)] 31 (0, 0)) (by (with_reducible repeat (first | refine blk_drewN ?_ _ | refine blk_drew ?_ | refine blk_alloc ?_ _)); exact BK601.out) hb2) (by decide)); have n4_ := Aside0.mk (Ne.symm (IsS173.ne_blk hi (blk_below (g := gb601) (o := .cells #[.int .i64 0, .string (⟨#[]⟩ : ByteArray)] 31 (0, 0)) (by (with_reducible repeat (first | refine blk_drewN ?_ _ | refine blk_drew ?_ | refine blk_alloc ?_ _)); exact BK601.out) hb2) (by decide))); clear BK601; clear HB; have BK601 := n0_; have HB := n1_; have HI605 := n2_; have NB605_601 := n3_; have NB601_605 := n4_; clear n0_ n1_ n2_ n3_ n4_; (try clear hb); (try clear hb2); (try clear hk); (try clear hi)) | ((with_reducible refine gate_callee (f := 109) rfl ?_); refine goesL_ (some 10) rfl rfl Try.func109 (by kernel_rfl) rfl #[.pointer (some ⟨g605, 0, none⟩)] rfl (by (try simp only [List.map_toArray, List.map_cons, List.map_nil]); first | done | rfl | (simp only [List.length_drop, List.length_take]; rfl)) ?_; (with_reducible refine (spec_l6List.calls k g605 t602 t603 t604 t606 t609 t610 w _ ?side1 ?side2 A3.out).mono ?_); (case side1 => repeat (first | (with_reducible first | exact HI605.out | apply IsS173.alloc | apply IsS173.drewN | apply IsS173.drew | apply IsS173.set_1 | apply IsS173.set_2 | refine IsS173.far ?_ NB605_601.out _) | exact HI605.out)); (case side2 => repeat (first | (with_reducible first | exact HB.out | apply below_alloc | apply pw_below_drewN | apply below_drew1 | refine below_set ?_ (IsS173.ge HI605.out) | refine below_set ?_ GE601.out) | exact HB.out)); rintro e w22 ⟨v607, rfl, ho0, hi, hb, hk⟩; refine ⟨_, rfl, ?_⟩; have n0_ := Aside0.mk (KeepBut.blk hk (g' := gb601) (o := .cells #[.int .i64 0, .string (⟨#[]⟩ : ByteArray)] 31 (0, 0)) (by (with_reducible repeat (first | refine blk_drewN ?_ _ | refine blk_drew ?_ | refine blk_alloc ?_ _)); exact BK601.out) NB601_605.out (by simp)); have n1_ := Aside0.mk (Kd.R_lower ho0 (below_size (by repeat (first | (with_reducible first | exact HB.out | apply below_alloc | apply pw_below_drewN | apply below_drew1 | refine below_set ?_ (IsS173.ge HI605.out) | refine below_set ?_ GE601.out) | exact HB.out)))); have n2_ := Aside0.mk (hb); have n3_ := Aside0.mk (hi); clear BK601; clear HB; clear HI605; have BK601 := n0_; have HO608 := n1_; have HB := n2_; have HI605 := n3_; clear n0_ n1_ n2_ n3_; (try clear hb); (try clear hb2); (try clear hk); (try clear hi); (try clear ho0); obtain ⟨Ao23, co23, eo23⟩ := Kd.R_slice HO608.out; subst eo23) | ((with_reducible refine gate_callee (f := 118) rfl ?_); refine goesL_ (some 12) rfl rfl Try.func118 (by kernel_rfl) rfl #[.slice Ao23 t606.length co23] rfl (by (try simp only [List.map_toArray, List.map_cons, List.map_nil]); first | done | rfl | (simp only [List.length_drop, List.length_take]; rfl)) ?_; (with_reducible refine (spec_HeadOf.calls k _ _ t606 t611 t612 _ ?side1 ?side2 A4.out).mono ?_); (case side1 => repeat (first | exact (Kd.R_reads' HO608.out).2.2 | (with_reducible refine Kd.C_alloc ?_ _) | (with_reducible refine Kd.C_drewN ?_ _) | (with_reducible refine Kd.C_drew ?_))); (case side2 => exact (Kd.R_reads' HO608.out).2.1); rintro e w24 ⟨rfl, hb⟩; refine ⟨_, rfl, ?_⟩; have n0_ := Aside0.mk (Kd.R_below (by (with_reducible repeat (first | apply Kd.R_alloc | apply Kd.R_drewN | apply Kd.R_drew)); exact HO608.out) hb); have n1_ := Aside0.mk (blk_below (g := gb601) (o := .cells #[.int .i64 0, .string (⟨#[]⟩ : ByteArray)] 31 (0, 0)) (by (with_reducible repeat (first | refine blk_drewN ?_ _ | refine blk_drew ?_ | refine blk_alloc ?_ _)); exact BK601.out) hb); have n2_ := Aside0.mk (IsS173.below (by repeat (first | (with_reducible first | exact HI605.out | apply IsS173.alloc | apply IsS173.drewN | apply IsS173.drew | apply IsS173.set_1 | apply IsS173.set_2 | refine IsS173.far ?_ NB605_601.out _) | exact HI605.out)) hb); have n3_ := Aside0.mk (below_step (by repeat (first | (with_reducible first | exact HB.out | apply below_alloc | apply pw_below_drewN | apply below_drew1 | refine below_set ?_ (IsS173.ge HI605.out) | refine below_set ?_ GE601.out) | exact HB.out)) hb); clear HO608; clear BK601; clear HI605; clear HB; have HO608 := n0_; have BK601 := n1_; have HI605 := n2_; have HB := n3_; clear n0_ n1_ n2_ n3_; (try clear hb); (try clear hb2); (try clear hk); (try clear hi)) | ((with_reducible refine gate_dst (N := 6) rfl ?_); refine box_event ?hg (N := 6) ?hd (cs := #[.int .i64 0, .string (⟨#[]⟩ : ByteArray)]) (t := 31) ?hr ?_; (case hd => rfl); (case hg => rfl); (case hr => first | (go_simp; done) | (go_simp; rfl)); intro gb613 hg w25 hbox hb; have n0_ := Aside0.mk (Kd.R_below (by (with_reducible repeat (first | apply Kd.R_alloc | apply Kd.R_drewN | apply Kd.R_drew)); exact HO608.out) hb); have n1_ := Aside0.mk (blk_below (g := gb601) (o := .cells #[.int .i64 0, .string (⟨#[]⟩ : ByteArray)] 31 (0, 0)) (by (with_reducible repeat (first | refine blk_drewN ?_ _ | refine blk_drew ?_ | refine blk_alloc ?_ _)); exact BK601.out) hb); have n2_ := Aside0.mk (IsS173.below (by repeat (first | (with_reducible first | exact HI605.out | apply IsS173.alloc | apply IsS173.drewN | apply IsS173.drew | apply IsS173.set_1 | apply IsS173.set_2 | refine IsS173.far ?_ NB605_601.out _) | exact HI605.out)) hb); have n3_ := Aside0.mk (below_step (by repeat (first | (with_reducible first | exact HB.out | apply below_alloc | apply pw_below_drewN | apply below_drew1 | refine below_set ?_ (IsS173.ge HI605.out) | refine below_set ?_ GE601.out) | exact HB.out)) hb); have n4_ := Aside0.mk (hbox); have n5_ := Aside0.mk ((by rw [hg]; exact (below_size (by repeat (first | (with_reducible first | exact HB.out | apply below_alloc | apply pw_below_drewN | apply below_drew1 | refine below_set ?_ (IsS173.ge HI605.out) | refine below_set ?_ GE601.out) | exact HB.out))) : w.heap.size ≤ gb613)); have n6_ := Aside0.mk ((by rw [hg]; exact (below_size (by repeat (first | (with_reducible first | exact HB.out | apply below_alloc | apply pw_below_drewN | apply below_drew1 | refine below_set ?_ (IsS173.ge HI605.out) | refine below_set ?_ GE601.out) | exact HB.out))) : w.heap.size ≤ gb613)); have n7_ := Aside0.mk ((by rw [hg]; exact Nat.ne_of_lt (blk_lt (g := gb601) (o := .cells #[.int .i64 0, .string (⟨#[]⟩ : ByteArray)] 31 (0, 0)) (by (with_reducible repeat (first | refine blk_drewN ?_ _ | refine blk_drew ?_ | refine blk_alloc ?_ _)); exact BK601.out)) : gb601 ≠ gb613)); have n8_ := Aside0.mk ((by rw [hg]; exact Nat.ne_of_gt (blk_lt (g := gb601) (o := .cells #[.int .i64 0, .string (⟨#[]⟩ : ByteArray)] 31 (0, 0)) (by (with_reducible repeat (first | refine blk_drewN ?_ _ | refine blk_drew ?_ | refine blk_alloc ?_ _)); exact BK601.out)) : gb613 ≠ gb601)); have n9_ := Aside0.mk ((by rw [hg]; exact Nat.ne_of_lt (IsS173.lt (show IsS173 w _ g605 t602 t609 t610 from by repeat (first | (with_reducible first | exact HI605.out | apply IsS173.alloc | apply IsS173.drewN | apply IsS173.drew | apply IsS173.set_1 | apply IsS173.set_2 | refine IsS173.far ?_ NB605_601.out _) | exact HI605.out))) : g605 ≠ gb613)); have n10_ := Aside0.mk ((by rw [hg]; exact Nat.ne_of_gt (IsS173.lt (show IsS173 w _ g605 t602 t609 t610 from by repeat (first | (with_reducible first | exact HI605.out | apply IsS173.alloc | apply IsS173.drewN | apply IsS173.drew | apply IsS173.set_1 | apply IsS173.set_2 | refine IsS173.far ?_ NB605_601.out _) | exact HI605.out))) : gb613 ≠ g605)); clear HO608; clear BK601; clear HI605; clear HB; have HO608 := n0_; have BK601 := n1_; have HI605 := n2_; have HB := n3_; have BK613 := n4_; have GW613 := n5_; have GE613 := n6_; have NB601_613 := n7_; have NB613_601 := n8_; have NB605_613 := n9_; have NB613_605 := n10_; clear n0_ n1_ n2_ n3_ n4_ n5_ n6_ n7_ n8_ n9_ n10_; clear hb hbox hg; have hnb26 := NB613_601.out; have hnc26 := NB601_613.out; have hnb27 := NB613_605.out; have hnc27 := NB605_613.out; have hcz28_0 : w25.cell? ⟨gb613, 0, none⟩ = some (.int .i64 0) := (blk_cell BK613.out 0).trans rfl; have hcz28_1 : w25.cell? ⟨gb613, 1, none⟩ = some (.string (⟨#[]⟩ : ByteArray)) := (blk_cell BK613.out 1).trans rfl; have hfz28_0 := blk_frozen BK613.out 0; have hfz28_1 := blk_frozen BK613.out 1) | ((with_reducible refine gate_callee (f := 110) rfl ?_); refine goesL_ (some 14) rfl rfl Try.func110 (by kernel_rfl) rfl #[.pointer (some ⟨g605, 0, none⟩), .int .i64 8] rfl (by (try simp only [List.map_toArray, List.map_cons, List.map_nil]); first | done | rfl | (simp only [List.length_drop, List.length_take]; rfl)) ?_; (with_reducible refine (spec_l1Once.calls g605 t602 t609 t610 8 false t615 t616 w _ ?side1 ?side2 A5.out).mono ?_); (case side1 => repeat (first | (with_reducible first | exact HI605.out | apply IsS173.alloc | apply IsS173.drewN | apply IsS173.drew | apply IsS173.set_1 | apply IsS173.set_2 | refine IsS173.far ?_ NB605_601.out _ | refine IsS173.far ?_ NB605_613.out _) | exact HI605.out)); (case side2 => repeat (first | (with_reducible first | exact HB.out | apply below_alloc | apply pw_below_drewN | apply below_drew1 | refine below_set ?_ (IsS173.ge HI605.out) | refine below_set ?_ GE601.out | refine below_set ?_ GE613.out) | exact HB.out)); rintro e w29 ⟨rfl, hi, hb, hk⟩; refine ⟨_, rfl, ?_⟩; have n0_ := Aside0.mk (KeepBut.blk hk (g' := gb601) (o := .cells #[.int .i64 0, .string (⟨#[]⟩ : ByteArray)] 31 (0, 0)) (by (with_reducible repeat (first | refine blk_drewN ?_ _ | refine blk_drew ?_ | refine blk_alloc ?_ _)); refine blk_far ?_ NB601_613.out _; (with_reducible repeat (first | refine blk_drewN ?_ _ | refine blk_drew ?_ | refine blk_alloc ?_ _)); refine blk_far ?_ NB601_613.out _; (with_reducible repeat (first | refine blk_drewN ?_ _ | refine blk_drew ?_ | refine blk_alloc ?_ _)); exact BK601.out) NB601_605.out (by simp)); have n1_ := Aside0.mk (Kd.R_mono (Kd.R_keep (IsS173.apart (show IsS173 w _ g605 t602 t609 t610 from by repeat (first | (with_reducible first | exact HI605.out | apply IsS173.alloc | apply IsS173.drewN | apply IsS173.drew | apply IsS173.set_1 | apply IsS173.set_2 | refine IsS173.far ?_ NB605_601.out _ | refine IsS173.far ?_ NB605_613.out _) | exact HI605.out)) (by (with_reducible repeat (first | apply Kd.R_alloc | apply Kd.R_drewN | apply Kd.R_drew)); exact (Kd.R_mono (Kd.R_far (p := ⟨gb613, 1, none⟩) (Kd.R_far (p := ⟨gb613, 0, none⟩) (Kd.R_types HO608.out BK613.out (by decide)) (fun _ hk => hk.2) (.int .i64 t611)) (fun _ hk => hk.2) (.string t612)) (fun _ h_ => h_.1))) (by decide)) hk (fun _ h => h.2)) (fun _ h => h.1)); have n2_ := Aside0.mk (KeepBut.blk hk (g' := gb613) (o := .cells #[.int .i64 t611, .string t612] 31 (0, 0)) (by (with_reducible repeat (first | refine blk_drewN ?_ _ | refine blk_drew ?_ | refine blk_alloc ?_ _)); refine blk_put (cs := #[.int .i64 t611, .string (⟨#[]⟩ : ByteArray)]) ?_ 1 _ rfl; (with_reducible repeat (first | refine blk_drewN ?_ _ | refine blk_drew ?_ | refine blk_alloc ?_ _)); refine blk_put (cs := #[.int .i64 0, .string (⟨#[]⟩ : ByteArray)]) ?_ 0 _ rfl; (with_reducible repeat (first | refine blk_drewN ?_ _ | refine blk_drew ?_ | refine blk_alloc ?_ _)); exact BK613.out) NB613_605.out (by simp)); have n3_ := Aside0.mk (hb); have n4_ := Aside0.mk (hi); clear BK601; clear HO608; clear BK613; clear HB; clear HI605; have BK601 := n0_; have HO608 := n1_; have BK613 := n2_; have HB := n3_; have HI605 := n4_; clear n0_ n1_ n2_ n3_ n4_; (try clear hb); (try clear hb2); (try clear hk); (try clear hi); have hcz30_0 : w29.cell? ⟨gb613, 0, none⟩ = some (.int .i64 t611) := (blk_cell BK613.out 0).trans rfl; have hcz30_1 : w29.cell? ⟨gb613, 1, none⟩ = some (.string t612) := (blk_cell BK613.out 1).trans rfl; have hfz30_0 := blk_frozen BK613.out 0; have hfz30_1 := blk_frozen BK613.out 1; have hnb31 := NB601_605.out; have hnc31 := NB605_601.out; have hcz32_0 : w29.cell? ⟨gb601, 0, none⟩ = some (.int .i64 0) := (blk_cell BK601.out 0).trans rfl; have hcz32_1 : w29.cell? ⟨gb601, 1, none⟩ = some (.string (⟨#[]⟩ : ByteArray)) := (blk_cell BK601.out 1).trans rfl; have hfz32_0 := blk_frozen BK601.out 0; have hfz32_1 := blk_frozen BK601.out 1))
  refine bodyPost_ret (results_ct rfl _ _ gb601 31 #[.int .i64 t611, .string t612] (0, 0) _ rfl (by (with_reducible repeat (first | refine blk_drewN ?_ _ | refine blk_drew ?_ | refine blk_alloc ?_ _)); refine blk_put (cs := #[.int .i64 t611, .string (⟨#[]⟩ : ByteArray)]) ?_ 1 _ rfl; (with_reducible repeat (first | refine blk_drewN ?_ _ | refine blk_drew ?_ | refine blk_alloc ?_ _)); refine blk_put (cs := #[.int .i64 0, .string (⟨#[]⟩ : ByteArray)]) ?_ 0 _ rfl; (with_reducible repeat (first | refine blk_drewN ?_ _ | refine blk_drew ?_ | refine blk_alloc ?_ _)); exact BK601.out) Try.underlying31 rfl (by kernel_rfl)) rfl ?_
  exact ⟨_, by first | rfl | (simp [errW_none, errW_some] <;> rfl) | (simp [*, errW_none, errW_some] <;> rfl), by (with_reducible repeat (first | apply Kd.R_alloc | apply Kd.R_drewN | apply Kd.R_drew)); exact Kd.R_mono (Kd.R_far (p := ⟨gb601, 1, none⟩) (Kd.R_far (p := ⟨gb601, 0, none⟩) (Kd.R_types HO608.out BK601.out (by decide)) (fun _ hk => hk.2) (.int .i64 t611)) (fun _ hk => hk.2) (.string t612)) (fun _ hk => trivial), by repeat (first | (with_reducible first | exact HB.out | apply below_alloc | apply pw_below_drewN | apply below_drew1 | refine below_set ?_ (IsS173.ge HI605.out) | refine below_set ?_ GE601.out | refine below_set ?_ GE613.out) | exact HB.out)⟩

end Go.Proofs.Ytcogimnpffnanaa.Q
end

section
/- Arguments that were read as data, opened as Lean values: numbers, bools, strings, slices of whatever kind; structs by their fields. For the rows of this seat's laws. -/
namespace Go.Proofs.Ytcogimnpffnanaa.XO
open Go.RowKit Go.Proofs.YtcogimnpffnanaaW.PrintWords Go.ChangeShapes Go.WideShapes

/-- What reads as data of type t is a Lean value of kind d, and good. -/
def Opens {α : Type} (P : Program) (d : Kd α) (t : TypeId) (G : α → Prop) : Prop :=
 ∀ {H : Type} {enc : TypeId × Value → H} {w : World} {base : Nat} {spare : Nat → Bool} {held : Bool} {fuel : Nat} {cs : List Value} {x : DataW H × List MemPlace},
  DataW.trod enc P w base spare held fuel t cs = some x → ∃ a : α, d.K w a cs ∧ G a

variable {P : Program} {t : TypeId}

theorem add_add (a : Addr) (x i : Nat) : (a.add x).add i = a.add (x + i) := by
 unfold Addr.add
 by_cases hx : x = 0
 ·subst hx
  simp
 ·by_cases hi : i = 0
  ·subst hi
   simp
  ·simp [hx, hi, Nat.add_assoc]
theorem cells_read {w : World} {base : Nat} {a : Addr} {x n : Nat} {cs : List Value} (h : w.cells? base (a.add x) n = some cs) (i : Nat) (u : Value) (hu : cs[i]? = some u) : w.cell? (a.add (x + i)) = some u := by
 unfold World.cells? at h
 split at h
 ·have hl : cs.length = n := by simpa using mapM_some_length h
  have hi : i < n := by
   rw [← hl]
   exact (List.getElem?_eq_some_iff.1 hu).1
  have hg := mapM_some_get h i i (by simp [hi])
  rw [hu, add_add] at hg
  exact hg
 ·exact absurd h (by simp)

theorem family {α : Type} {p : Nat → α → Prop} (n : Nat) (h : ∀ i, i < n → ∃ x, p i x) : ∃ xs : List α, xs.length = n ∧ ∀ i x, xs[i]? = some x → p i x := by
 induction n with
 | zero => exact ⟨[], rfl, fun i x hx => by simp at hx⟩
 | succ n ih =>
  obtain ⟨xs, h1, h2⟩ := ih (fun i hi => h i (by omega))
  obtain ⟨y, hy⟩ := h n (by omega)
  refine ⟨xs ++ [y], by simp [h1], fun i x hx => ?_⟩
  by_cases hi : i < xs.length
  ·rw [List.getElem?_append_left hi] at hx
   exact h2 i x hx
  ·rw [List.getElem?_append_right (by omega)] at hx
   have hz : i - xs.length = 0 := by
    rcases Nat.eq_zero_or_pos (i - xs.length) with hz | hz
    ·exact hz
    ·rw [List.getElem?_eq_none (by simp; omega)] at hx
     exact absurd hx (by simp)
   rw [hz] at hx
   have hxy : y = x := by simpa using hx
   have hin : i = n := by omega
   rw [← hxy, hin]
   exact hy

theorem opens_int {k : IntKind} (ht : P.underlying t = some (.int k)) : Opens P (Kd.int k) t (fun n => (Lit.int k n).wf = true) := by
 intro H enc w base spare held fuel cs x h
 obtain ⟨n, rfl, _, hw⟩ := DataW.trod_int ht h
 exact ⟨n, rfl, hw⟩

theorem opens_slice {α : Type} {d : Kd α} {G : α → Prop} {e : TypeId} (ht : P.underlying t = some (.slice e)) (hc : P.cellsOf e = d.sz) (h0 : Opens P d e G) :
  Opens P (Kd.slice e d) t (fun l => l.length ≤ 9223372036854775807 ∧ ∀ x ∈ l, G x) := by
 intro H enc w base spare held fuel cs x h
 rcases Go.Deep.open_slice ht h with ⟨rfl, _⟩ | ⟨a, len, cap, m, n, D, Pl, rfl, _, hl, hm, hmm, _, hel⟩
 ·exact ⟨[], ⟨none, 0, rfl, Nat.le_refl _, rfl, by simp, fun hp => absurd hp (by simp)⟩, by simp, fun x hx => absurd hx (by simp)⟩
 ·have hlm : len ≤ m := by
   rw [hmm]
   split
   ·exact hl
   ·exact Nat.le_refl _
  have hall : ∀ i, i < len → ∃ x : α, (∃ cs', w.cells? base (a.add (i * P.cellsOf e)) (P.cellsOf e) = some cs' ∧ d.K w x cs') ∧ G x := by
   intro i hi
   obtain ⟨cs', h1, h2⟩ := hel i (by omega)
   obtain ⟨x, hk, hg⟩ := h0 h2
   exact ⟨x, ⟨cs', h1, hk⟩, hg⟩
  have hlen : len ≤ 9223372036854775807 := by simp only [maxLen] at hm; omega
  obtain ⟨xs, h1, h2⟩ := family len hall
  refine ⟨xs, ⟨some a, cap, by rw [h1], by omega, rfl, by omega, fun _ => ⟨a, rfl, fun j p hj => ?_⟩⟩, by omega, fun x hx => ?_⟩
  ·obtain ⟨⟨cs', hc1, hk⟩, _⟩ := h2 j p hj
   refine ⟨cs', d.K_len hk, hk, fun i u hu => ?_⟩
   rw [hc] at hc1
   exact cells_read hc1 i u hu
  ·obtain ⟨i, hi⟩ := List.getElem?_of_mem hx
   exact (h2 i x hi).2

end Go.Proofs.Ytcogimnpffnanaa.XO
end

section
/- Which Lean values the laws' arguments are opened to: each struct type by its fields. -/
namespace Go.Proofs.Ytcogimnpffnanaa.Q
open Go.RowKit Go.Proofs.Ytcogimnpffnanaa.XO Go.Proofs.YtcogimnpffnanaaW.PrintWords Go.ChangeShapes Go.WideShapes
set_option linter.unusedVariables false
set_option linter.unusedSimpArgs false
end Go.Proofs.Ytcogimnpffnanaa.Q
end

section
-- Written by a program of this session (wip/tools/pp.sh) over the print of the kit.
namespace Go.Proofs.Ytcogimnpffnanaa.Q
open Go.RowKit Go.Proofs.YtcogimnpffnanaaW.PrintWords Go.Proofs.YtcogimnpffnanaaW.PrintLast Go.Proofs.YtcogimnpffnanaaW.PrintMore
attribute [local go_sem] max2_int min2_int max_two min_two max_three min_three max_four min_four   -- for this text's walks alone
set_option linter.unusedVariables false
set_option linter.unusedSimpArgs false

theorem eqA31 (d : Nat) (w : World) (x0 y0 : Int) (x1 y1 : ByteArray) :
  (Op.equalIn (d + 2) 31 (.agg #[.int .i64 x0, .string x1]) (.agg #[.int .i64 y0, .string y1])).run Try.prog w = .ok (x0 == y0 && (x1.toList == y1.toList)) w := by
 refine eqA_of Try.underlying31 (by kernel_rfl) ?_
 refine eqf_cons (by rfl) (by go_simp; rfl) (by go_simp; rfl) (by go_simp) ?_
 exact eqf_last (by rfl) (by go_simp; rfl) (by go_simp; rfl) (by go_simp)
end Go.Proofs.Ytcogimnpffnanaa.Q
end

section
-- Written by a program of this session (wip/tools/pp.sh) over the print of the kit.
namespace Go.Proofs.Ytcogimnpffnanaa.Q
open Go.RowKit Go.Proofs.YtcogimnpffnanaaW.PrintWords Go.Proofs.YtcogimnpffnanaaW.PrintLast Go.Proofs.YtcogimnpffnanaaW.PrintMore
attribute [local go_sem] max2_int min2_int max_two min_two max_three min_three max_four min_four   -- for this text's walks alone
set_option linter.unusedVariables false
set_option linter.unusedSimpArgs false

/-! ### laws_big: function 30 -/
def laws_big.f (l0 : List Int) : Option (Bool) := some (decide ((l0.length : Int) > 1048576))
set_option maxHeartbeats 8000000 in
set_option maxRecDepth 100000 in
theorem laws_big.calls (A0 : Option Addr) (c0 : Nat) (l0 : List Int) (r : Bool) (w : World) (hr0 : Kd.C (Kd.int .u8) w A0 l0.length l0) (hc0 : l0.length ≤ c0) (h : laws_big.f l0 = some r) :
  Calls Try.prog 30 #[.slice A0 l0.length c0] w fun e w' => e = .returned (.bool r) ∧ Drawn0 w w' := by
 have HR0 := Aside0.mk hr0
 have HC0 := Aside0.mk hc0
 clear hr0 hc0
 have H : (some (decide ((l0.length : Int) > 1048576))) = some r := h
 clear h
 obtain rfl := Option.some.inj H
 go_enter Try.func30, Try.ntmps30
 go_wp2
 go_ret
 exact ⟨by first | rfl | (simp; done) | (simp [*]; done), by repeat (first | exact Drawn0.refl _ | apply Drawn0.step)⟩

end Go.Proofs.Ytcogimnpffnanaa.Q
end

section
-- Written by a program of this session (wip/tools/pp.sh) over the print of the kit.
namespace Go.Proofs.Ytcogimnpffnanaa.Q
open Go.RowKit Go.Proofs.YtcogimnpffnanaaW.PrintWords Go.Proofs.YtcogimnpffnanaaW.PrintLast Go.Proofs.YtcogimnpffnanaaW.PrintMore
attribute [local go_sem] max2_int min2_int max_two min_two max_three min_three max_four min_four   -- for this text's walks alone
set_option linter.unusedVariables false
set_option linter.unusedSimpArgs false

/-! ### laws_at: function 40 -/
def laws_at.f (l0 : List Int) (a1 : Int) : Option (Int) := if a1 < (l0.length : Int) then (if 0 ≤ a1 then (some (wrap64 (rd l0 a1))) else (none)) else (some (Int.tmod (wrap64 ((wrap64 (a1 * 31)) + (wrap64 ((l0.length : Int) * 7)))) 256))
set_option maxHeartbeats 8000000 in
set_option maxRecDepth 100000 in
theorem laws_at.calls (A0 : Option Addr) (c0 : Nat) (l0 : List Int) (a1 : Int) (r : Int) (w : World) (hr0 : Kd.C (Kd.int .u8) w A0 l0.length l0) (hc0 : l0.length ≤ c0) (h : laws_at.f l0 a1 = some r) :
  Calls Try.prog 40 #[.slice A0 l0.length c0, .int .i64 a1] w fun e w' => e = .returned (.int .i64 r) ∧ Drawn0 w w' := by
 have HR0 := Aside0.mk hr0
 have HC0 := Aside0.mk hc0
 clear hr0 hc0
 have H : (if a1 < (l0.length : Int) then (if 0 ≤ a1 then (some (wrap64 (rd l0 a1))) else (none)) else (some (Int.tmod (wrap64 ((wrap64 (a1 * 31)) + (wrap64 ((l0.length : Int) * 7)))) 256))) = some r := h
 clear h
 by_cases c3 : a1 < (l0.length : Int)
 ·rw [if_pos c3] at H
  have c3b0 : decide (a1 < (l0.length : Int)) = true := decide_eq_true c3
  clear c3
  by_cases c4 : 0 ≤ a1
  ·rw [if_pos c4] at H
   have c4b0 : decide (0 ≤ a1) = true := decide_eq_true c4
   clear c4
   obtain rfl := Option.some.inj H
   have p601 : 0 ≤ (a1 : Int) := of_decide_eq_true (by first | (with_reducible assumption) | assumption)
   have q601 : a1 < (l0.length : Int) := of_decide_eq_true (by first | (with_reducible assumption) | assumption)
   obtain ⟨ad601, e601, hx601_0⟩ := Kd.at_int HR0.out a1 p601 q601
   cases e601
   replace p601 := eq_true p601
   replace q601 := eq_true q601
   go_enter Try.func40, Try.ntmps40
   go_wp2
   go_ret
   exact ⟨by first | rfl | (simp; done) | (simp [*]; done), by repeat (first | exact Drawn0.refl _ | apply Drawn0.step)⟩
  ·rw [if_neg c4] at H
   exact absurd H (by simp)
 ·rw [if_neg c3] at H
  have c3b0 : decide (a1 < (l0.length : Int)) = false := decide_eq_false c3
  clear c3
  obtain rfl := Option.some.inj H
  go_enter Try.func40, Try.ntmps40
  go_wp2
  go_ret
  exact ⟨by first | rfl | (simp; done) | (simp [*]; done), by repeat (first | exact Drawn0.refl _ | apply Drawn0.step)⟩

end Go.Proofs.Ytcogimnpffnanaa.Q
end

section
-- Written by a program of this session (wip/tools/pp.sh) over the print of the kit.
namespace Go.Proofs.Ytcogimnpffnanaa.Q
open Go.RowKit Go.Proofs.YtcogimnpffnanaaW.PrintWords Go.Proofs.YtcogimnpffnanaaW.PrintLast Go.Proofs.YtcogimnpffnanaaW.PrintMore
attribute [local go_sem] max2_int min2_int max_two min_two max_three min_three max_four min_four   -- for this text's walks alone
set_option linter.unusedVariables false
set_option linter.unusedSimpArgs false

attribute [local go_sem high] eqA31
/-! ### laws_FnCommits: function 7 -/
def laws_FnCommits.j0 : Nat → List Int → List ByteArray → List Int → Bool → Int → ByteArray → Option (Bool)
 | 0, _, _, _, _, _, _ => none
 | k + 1, x0, x4, x5, x36, x608000, x608001 => if x36 = true then (some ((x5.length : Int) == 0)) else ((some (([7] : List Int) : List Int)).bind fun y612 => (if y612.length + x5.length < 140737488355328 then ((impl_GetCommit.f k (y612 ++ x5) 1).bind fun bt618 => ((some (([] : List Int) : List Int)).bind fun y626 => (if y626.length + x5.length < 140737488355328 then ((some (y626 ++ x5 : List Int)).bind fun y629 => ((laws_at.f x0 2).bind fun t632 => (if 0 ≤ (wrap64 ((wrap64 ((x5.length : Int) - 1)) - (Int.tmod t632 4))) then (if (wrap64 ((wrap64 ((x5.length : Int) - 1)) - (Int.tmod t632 4))) < (y629.length : Int) then ((laws_at.f x0 3).bind fun t634 => (if 0 ≤ (IntKind.u64.wrap (Int.tmod t634 8)) then ((impl_GetCommit.f k (y629.set ((wrap64 ((wrap64 ((x5.length : Int) - 1)) - (Int.tmod t632 4))) : Int).toNat (Go.bits .xor .u8 (rd y629 (wrap64 ((wrap64 ((x5.length : Int) - 1)) - (Int.tmod t632 4)))) (shl .u8 1 (IntKind.u64.wrap (Int.tmod t634 8))))) 0).bind fun bt636 => ((laws_at.f x0 4).bind fun t644 => (if (x5.length : Int) = 0 then (none) else (if 0 ≤ (Int.tmod t644 (x5.length : Int)) then (if (Int.tmod t644 (x5.length : Int)) ≤ (x5.length : Int) then ((impl_GetCommit.f k (x5.take ((Int.tmod t644 (x5.length : Int)) : Int).toNat) 0).bind fun bt649 => (if bt618.2.2.2.2 = true then (if (bt618.1 == x608000 && (bt618.2.1.toList == x608001.toList)) = true then ((laws_sameTexts.f k bt618.2.2.1 x4).bind fun t657 => (if t657 = true then (if bt618.2.2.2.1 = (wrap64 ((x5.length : Int) + 1)) then (if bt636.2.2.2.2 = true then (none) else (some (!bt649.2.2.2.2))) else (none)) else (none))) else (none)) else (none))) else (none)) else (none))))) else (none))) else (none)) else (none)))) else (none)))) else (none)))
def laws_FnCommits.f (k : Nat) (l0 : List Int) : Option (Bool) := (laws_big.f l0).bind fun t601 => (if t601 = true then (some true) else ((spec_DrawPutCommit.f k l0).bind fun bt602 => ((impl_PutCommit.f k bt602.1 bt602.2.1 bt602.2.2).bind fun t608 => ((spec_HeadOk.f bt602.1 bt602.2.1).bind fun t611 => (if t611 = true then (laws_FnCommits.j0 k l0 bt602.2.2 t608 ((bt602.2.2.length : Int) == 0) bt602.1 bt602.2.1) else (laws_FnCommits.j0 k l0 bt602.2.2 t608 true bt602.1 bt602.2.1))))))
theorem laws_FnCommits.mono_l : ∀ k, (∀ y0 y1 y2 y3 y4 y5, LeO (laws_FnCommits.j0 k y0 y1 y2 y3 y4 y5) (laws_FnCommits.j0 (k + 1) y0 y1 y2 y3 y4 y5))
 | 0 => fun _ _ _ _ _ _ r h => by simp [laws_FnCommits.j0] at h
 | k + 1 => by
  have ih0 := laws_FnCommits.mono_l k
  ·intro y0 y1 y2 y3 y4 y5
   unfold laws_FnCommits.j0
   repeat' first
   | (with_reducible exact ih0 _ _ _ _ _ _)
   | (with_reducible exact impl_GetCommit.mono _ _ _)
   | (with_reducible exact impl_PutCommit.mono _ _ _ _)
   | (with_reducible exact laws_sameTexts.mono _ _ _)
   | (with_reducible exact spec_DrawPutCommit.mono _ _)
   | (with_reducible exact LeO.refl _)
   | (with_reducible exact LeO.none _)
   | (with_reducible refine LeO.ite ?_ ?_)
   | (with_reducible refine LeO.bind ?_ (fun _ => ?_))
   | exact ih0 _ _ _ _ _ _
   | exact impl_GetCommit.mono _ _ _
   | exact impl_PutCommit.mono _ _ _ _
   | exact laws_sameTexts.mono _ _ _
   | exact spec_DrawPutCommit.mono _ _
   | exact LeO.none _
   | refine LeO.ite ?_ ?_
   | refine LeO.bind ?_ (fun _ => ?_)
theorem laws_FnCommits.mono : ∀ a0 k, LeO (laws_FnCommits.f k a0) (laws_FnCommits.f (k + 1) a0) := by
 intro a0 k
 have ih0 := laws_FnCommits.mono_l k
 unfold laws_FnCommits.f
 repeat' first
   | (with_reducible exact ih0 _ _ _ _ _ _)
   | (with_reducible exact impl_GetCommit.mono _ _ _)
   | (with_reducible exact impl_PutCommit.mono _ _ _ _)
   | (with_reducible exact laws_sameTexts.mono _ _ _)
   | (with_reducible exact spec_DrawPutCommit.mono _ _)
   | (with_reducible exact LeO.refl _)
   | (with_reducible exact LeO.none _)
   | (with_reducible refine LeO.ite ?_ ?_)
   | (with_reducible refine LeO.bind ?_ (fun _ => ?_))
   | exact ih0 _ _ _ _ _ _
   | exact impl_GetCommit.mono _ _ _
   | exact impl_PutCommit.mono _ _ _ _
   | exact laws_sameTexts.mono _ _ _
   | exact spec_DrawPutCommit.mono _ _
   | exact LeO.none _
   | refine LeO.ite ?_ ?_
   | refine LeO.bind ?_ (fun _ => ?_)
def laws_FnCommits.T9 : Bool × List (List Nat × List Nat) := (true, [([], []), ([], []), ([1], [1]), ([2], [2]), ([], []), ([4], [4]), ([5], [5]), ([3, 6], [3, 6]), ([0, 7], [0, 7]), ([8], [8]), ([], []), ([10, 5], [10]), ([11], [11]), ([12], [12]), ([13], [13]), ([9, 14], [9, 14]), ([0, 7, 0, 1, 2, 3, 4, 5, 6, 7, 8, 9, 10, 11, 12, 13, 14, 15], [0, 7]), ([16, 15, 11, 0, 1, 2, 3, 4, 5, 6, 7, 8, 9, 10, 11, 12, 13, 14, 15], [15, 16])])
def laws_FnCommits.B9 : List Nat := [0, 0, 2, 6, 0, 16, 48, 126, 255, 511, 0, 1072, 3120, 7216, 15408, 32767, 65535, 131071]
theorem laws_FnCommits.tab9 : rtab .any (opsOf Try.f7 9) = laws_FnCommits.T9 := by kernel_rfl
theorem laws_FnCommits.bits9 : waitsOk laws_FnCommits.T9.2 laws_FnCommits.B9 = true := by kernel_rfl
set_option maxHeartbeats 8000000 in
set_option maxRecDepth 100000 in
theorem laws_FnCommits.calls (k : Nat) (A0 : Option Addr) (c0 : Nat) (l0 : List Int) (r : Bool) (w : World) (hr0 : Kd.C (Kd.int .u8) w A0 l0.length l0) (hc0 : l0.length ≤ c0) (h : laws_FnCommits.f k l0 = some r) :
  Calls Try.prog 7 #[.slice A0 l0.length c0] w fun e w' => e = .returned (.bool r) ∧ Below w.heap.size w w' := by
 have hu31 := Try.underlying31
 have HR0 := Aside0.mk hr0
 have HC0 := Aside0.mk hc0
 clear hr0 hc0
 have HB := Aside0.mk (Below.refl w.heap.size w)
 have H : ((laws_big.f l0).bind fun t601 => (if t601 = true then (some true) else ((spec_DrawPutCommit.f k l0).bind fun bt602 => ((impl_PutCommit.f k bt602.1 bt602.2.1 bt602.2.2).bind fun t608 => ((spec_HeadOk.f bt602.1 bt602.2.1).bind fun t611 => (if t611 = true then (laws_FnCommits.j0 k l0 bt602.2.2 t608 ((bt602.2.2.length : Int) == 0) bt602.1 bt602.2.1) else (laws_FnCommits.j0 k l0 bt602.2.2 t608 true bt602.1 bt602.2.1))))))) = some r := h
 clear h
 replace H := Option.bind_eq_some_iff.mp H
 obtain ⟨t601, A20, H⟩ := H
 replace H : (if t601 = true then (some true) else ((spec_DrawPutCommit.f k l0).bind fun bt602 => ((impl_PutCommit.f k bt602.1 bt602.2.1 bt602.2.2).bind fun t608 => ((spec_HeadOk.f bt602.1 bt602.2.1).bind fun t611 => (if t611 = true then (laws_FnCommits.j0 k l0 bt602.2.2 t608 ((bt602.2.2.length : Int) == 0) bt602.1 bt602.2.1) else (laws_FnCommits.j0 k l0 bt602.2.2 t608 true bt602.1 bt602.2.1)))))) = some r := H
 have A2 := Aside0.mk A20
 clear A20
 by_cases c3 : t601 = true
 ·subst c3
  have H1 : (some true) = some r := by rw [if_pos rfl] at H; exact H
  clear H
  have H := H1
  clear H1
  obtain rfl := Option.some.inj H
  go_enter Try.func7, Try.ntmps7
  go_wp2_with (first | ((with_reducible refine gate_callee (f := 30) rfl ?_); refine goesL_ (some 20) rfl rfl Try.func30 (by kernel_rfl) rfl #[.slice A0 l0.length c0] rfl (by (try simp only [List.map_toArray, List.map_cons, List.map_nil]); first | done | rfl | (simp only [List.length_drop, List.length_take]; rfl)) ?_; (with_reducible refine (laws_big.calls _ _ l0 true _ ?side1 ?side2 A2.out).mono ?_); (case side1 => repeat (first | exact HR0.out | (with_reducible refine Kd.C_alloc ?_ _) | (with_reducible refine Kd.C_drewN ?_ _) | (with_reducible refine Kd.C_drew ?_))); (case side2 => exact HC0.out); rintro e w' ⟨rfl, ⟨nd, rfl⟩⟩; refine ⟨_, rfl, ?_⟩))
  go_ret
  exact ⟨by first | rfl | (simp [errW_none, errW_some] <;> rfl) | (simp [*, errW_none, errW_some] <;> rfl), by repeat (first | (with_reducible first | exact HB.out | apply below_alloc | apply pw_below_drewN | apply below_drew1) | exact HB.out)⟩
 ·replace c3 := Bool.eq_false_iff.mpr c3
  subst c3
  have H1 : ((spec_DrawPutCommit.f k l0).bind fun bt602 => ((impl_PutCommit.f k bt602.1 bt602.2.1 bt602.2.2).bind fun t608 => ((spec_HeadOk.f bt602.1 bt602.2.1).bind fun t611 => (if t611 = true then (laws_FnCommits.j0 k l0 bt602.2.2 t608 ((bt602.2.2.length : Int) == 0) bt602.1 bt602.2.1) else (laws_FnCommits.j0 k l0 bt602.2.2 t608 true bt602.1 bt602.2.1))))) = some r := by rw [if_neg (show ¬ (false = true) by decide)] at H; exact H
  clear H
  have H := H1
  clear H1
  replace H := Option.bind_eq_some_iff.mp H
  obtain ⟨⟨t602, t603, t604⟩, A40, H⟩ := H
  replace H : ((impl_PutCommit.f k t602 t603 t604).bind fun t608 => ((spec_HeadOk.f t602 t603).bind fun t611 => (if t611 = true then (laws_FnCommits.j0 k l0 t604 t608 ((t604.length : Int) == 0) t602 t603) else (laws_FnCommits.j0 k l0 t604 t608 true t602 t603)))) = some r := H
  have A4 := Aside0.mk A40
  clear A40
  replace H := Option.bind_eq_some_iff.mp H
  obtain ⟨t608, A50, H⟩ := H
  replace H : ((spec_HeadOk.f t602 t603).bind fun t611 => (if t611 = true then (laws_FnCommits.j0 k l0 t604 t608 ((t604.length : Int) == 0) t602 t603) else (laws_FnCommits.j0 k l0 t604 t608 true t602 t603))) = some r := H
  have A5 := Aside0.mk A50
  clear A50
  have HC6 := Aside0.mk H
  clear H
  go_enter Try.func7, Try.ntmps7
  go_upto_region 5 with (first | ((with_reducible refine gate_callee (f := 30) rfl ?_); refine goesL_ (some 20) rfl rfl Try.func30 (by kernel_rfl) rfl #[.slice A0 l0.length c0] rfl (by (try simp only [List.map_toArray, List.map_cons, List.map_nil]); first | done | rfl | (simp only [List.length_drop, List.length_take]; rfl)) ?_; (with_reducible refine (laws_big.calls _ _ l0 false _ ?side1 ?side2 A2.out).mono ?_); (case side1 => repeat (first | exact HR0.out | (with_reducible refine Kd.C_alloc ?_ _) | (with_reducible refine Kd.C_drewN ?_ _) | (with_reducible refine Kd.C_drew ?_))); (case side2 => exact HC0.out); rintro e w' ⟨rfl, ⟨nd, rfl⟩⟩; refine ⟨_, rfl, ?_⟩) | ((with_reducible refine gate_callee (f := 36) rfl ?_); refine goesL_ (some 23) rfl rfl Try.func36 (by kernel_rfl) rfl #[.slice A0 l0.length c0] rfl (by (try simp only [List.map_toArray, List.map_cons, List.map_nil]); first | done | rfl | (simp only [List.length_drop, List.length_take]; rfl)) ?_; (with_reducible refine (spec_DrawPutCommit.calls k _ _ l0 t602 t603 t604 _ ?side1 ?side2 A4.out).mono ?_); (case side1 => repeat (first | exact HR0.out | (with_reducible refine Kd.C_alloc ?_ _) | (with_reducible refine Kd.C_drewN ?_ _) | (with_reducible refine Kd.C_drew ?_))); (case side2 => exact HC0.out); rintro e w7 ⟨v605, rfl, ho0, hb⟩; refine ⟨_, rfl, ?_⟩; have n0_ := Aside0.mk (Kd.R_lower ho0 (below_size (by repeat (first | (with_reducible first | exact HB.out | apply below_alloc | apply pw_below_drewN | apply below_drew1) | exact HB.out)))); have n1_ := Aside0.mk (below_step (by repeat (first | (with_reducible first | exact HB.out | apply below_alloc | apply pw_below_drewN | apply below_drew1) | exact HB.out)) hb); clear HB; have HO606 := n0_; have HB := n1_; clear n0_ n1_; (try clear hb); (try clear hb2); (try clear hk); (try clear hi); (try clear ho0)) | ((with_reducible refine gate_dst (N := 3) rfl ?_); (try (refine gate_guard (by rfl) ?_; dsimp only)); refine box_event ?hg (N := 3) ?hd (cs := #[.int .i64 0, .string (⟨#[]⟩ : ByteArray)]) (t := 31) ?hr ?_; (case hd => rfl); (case hg => rfl); (case hr => first | (go_simp; done) | (go_simp; rfl)); intro gb607 hg w8 hbox hb; have n0_ := Aside0.mk (Kd.R_below (by (with_reducible repeat (first | apply Kd.R_alloc | apply Kd.R_drewN | apply Kd.R_drew)); exact HO606.out) hb); have n1_ := Aside0.mk (below_step (by repeat (first | (with_reducible first | exact HB.out | apply below_alloc | apply pw_below_drewN | apply below_drew1) | exact HB.out)) hb); have n2_ := Aside0.mk (hbox); have n3_ := Aside0.mk ((by rw [hg]; exact (below_size (by repeat (first | (with_reducible first | exact HB.out | apply below_alloc | apply pw_below_drewN | apply below_drew1) | exact HB.out))) : w.heap.size ≤ gb607)); have n4_ := Aside0.mk ((by rw [hg]; exact (below_size (by repeat (first | (with_reducible first | exact HB.out | apply below_alloc | apply pw_below_drewN | apply below_drew1) | exact HB.out))) : w.heap.size ≤ gb607)); clear HO606; clear HB; have HO606 := n0_; have HB := n1_; have BK607 := n2_; have GW607 := n3_; have GE607 := n4_; clear n0_ n1_ n2_ n3_ n4_; clear hb hbox hg; have hcz9_0 : w8.cell? ⟨gb607, 0, none⟩ = some (.int .i64 0) := (blk_cell BK607.out 0).trans rfl; have hcz9_1 : w8.cell? ⟨gb607, 1, none⟩ = some (.string (⟨#[]⟩ : ByteArray)) := (blk_cell BK607.out 1).trans rfl; have hfz9_0 := blk_frozen BK607.out 0; have hfz9_1 := blk_frozen BK607.out 1; obtain ⟨Ao10, co10, eo10⟩ := Kd.R_slice HO606.out; subst eo10) | ((with_reducible refine gate_callee (f := 37) rfl ?_); refine goesL_ (some 28) rfl rfl Try.func37 (by kernel_rfl) rfl #[.agg #[.int .i64 t602, .string t603], .slice Ao10 t604.length co10] rfl (by (try simp only [List.map_toArray, List.map_cons, List.map_nil]); first | done | rfl | (simp only [List.length_drop, List.length_take]; rfl)) ?_; (with_reducible refine (impl_PutCommit.calls k t602 t603 _ _ t604 t608 _ ?side1 ?side2 A5.out).mono ?_); (case side1 => refine (Kd.R_reads' (e := 9) (base := w.heap.size) (ok := fun k_ => True) (n := t604.length) (c := co10) ?_).2.2; exact (by (with_reducible repeat (first | apply Kd.R_alloc | apply Kd.R_drewN | apply Kd.R_drew)); exact (Kd.R_mono (Kd.R_far (p := ⟨gb607, 1, none⟩) (Kd.R_far (p := ⟨gb607, 0, none⟩) (Kd.R_types HO606.out BK607.out (by decide)) (fun _ hk => hk.2) (.int .i64 t602)) (fun _ hk => hk.2) (.string t603)) (fun _ h_ => by first | exact h_.1 | exact ⟨⟨by first | exact h_.1.1.1 | exact h_.1.1.2 | exact h_.1.2, by first | exact h_.1.1.1 | exact h_.1.1.2 | exact h_.1.2⟩, by first | exact h_.1.1.1 | exact h_.1.1.2 | exact h_.1.2⟩)))); (case side2 => exact (Kd.R_reads' HO606.out).2.1); rintro e w11 ⟨v609, rfl, ho0, hb⟩; refine ⟨_, rfl, ?_⟩; have n0_ := Aside0.mk (Kd.R_below (by (with_reducible repeat (first | apply Kd.R_alloc | apply Kd.R_drewN | apply Kd.R_drew)); exact (Kd.R_mono (Kd.R_far (p := ⟨gb607, 1, none⟩) (Kd.R_far (p := ⟨gb607, 0, none⟩) (Kd.R_types HO606.out BK607.out (by decide)) (fun _ hk => hk.2) (.int .i64 t602)) (fun _ hk => hk.2) (.string t603)) (fun _ h_ => h_.1))) hb); have n1_ := Aside0.mk (Kd.R_lower ho0 (below_size (by repeat (first | (with_reducible first | exact HB.out | apply below_alloc | apply pw_below_drewN | apply below_drew1 | refine below_set ?_ GE607.out) | exact HB.out)))); have n2_ := Aside0.mk (blk_below (g := gb607) (o := .cells #[.int .i64 t602, .string t603] 31 (0, 0)) (by (with_reducible repeat (first | refine blk_drewN ?_ _ | refine blk_drew ?_ | refine blk_alloc ?_ _)); refine blk_put (cs := #[.int .i64 t602, .string (⟨#[]⟩ : ByteArray)]) ?_ 1 _ rfl; (with_reducible repeat (first | refine blk_drewN ?_ _ | refine blk_drew ?_ | refine blk_alloc ?_ _)); refine blk_put (cs := #[.int .i64 0, .string (⟨#[]⟩ : ByteArray)]) ?_ 0 _ rfl; (with_reducible repeat (first | refine blk_drewN ?_ _ | refine blk_drew ?_ | refine blk_alloc ?_ _)); exact BK607.out) hb); have n3_ := Aside0.mk (below_step (by repeat (first | (with_reducible first | exact HB.out | apply below_alloc | apply pw_below_drewN | apply below_drew1 | refine below_set ?_ GE607.out) | exact HB.out)) hb); clear HO606; clear BK607; clear HB; have HO606 := n0_; have HO610 := n1_; have BK607 := n2_; have HB := n3_; clear n0_ n1_ n2_ n3_; (try clear hb); (try clear hb2); (try clear hk); (try clear hi); (try clear ho0)))
  (try simp only [Act.put, List.setIfInBounds_toArray, List.set_cons_zero, List.set_cons_succ])
  go_cut [36] (fun v36 wc => ∃ (kq : Nat) (x36_5 : Bool), v36 = .bool x36_5 ∧ Aside0 (laws_FnCommits.j0 kq l0 t604 t608 x36_5 t602 t603 = some r) ∧ Aside0 (kq ≤ k) ∧ Aside0 (Kd.R Kd.string 9 wc w.heap.size (fun _ => True) (.slice Ao10 t604.length co10) t604) ∧ Aside0 (Kd.R (Kd.int .u8) 5 wc w.heap.size (fun _ => True) v609 t608) ∧ Aside0 (wc.heap[gb607]? = some (.cells #[.int .i64 t602, .string t603] 31 (0, 0))) ∧ Aside0 (Below w.heap.size w wc))
  case first =>
   have H := HC6.out
   clear HC6
   replace H := Option.bind_eq_some_iff.mp H
   obtain ⟨t611, A120, H⟩ := H
   replace H : (if t611 = true then (laws_FnCommits.j0 k l0 t604 t608 ((t604.length : Int) == 0) t602 t603) else (laws_FnCommits.j0 k l0 t604 t608 true t602 t603)) = some r := H
   have A12 := Aside0.mk A120
   clear A120
   by_cases c13 : t611 = true
   ·subst c13
    have H1 : (laws_FnCommits.j0 k l0 t604 t608 ((t604.length : Int) == 0) t602 t603) = some r := by rw [if_pos rfl] at H; exact H
    clear H
    have H := H1
    clear H1
    have H' := Aside0.mk H
    clear H
    have hcz14_0 : w11.cell? ⟨gb607, 0, none⟩ = some (.int .i64 t602) := (blk_cell BK607.out 0).trans rfl
    have hcz14_1 : w11.cell? ⟨gb607, 1, none⟩ = some (.string t603) := (blk_cell BK607.out 1).trans rfl
    have hfz14_0 := blk_frozen BK607.out 0
    have hfz14_1 := blk_frozen BK607.out 1
    go_wp2_with (first | ((with_reducible refine gate_callee (f := 38) rfl ?_); refine goesL_ (some 30) rfl rfl Try.func38 (by kernel_rfl) rfl #[.agg #[.int .i64 t602, .string t603]] rfl (by (try simp only [List.map_toArray, List.map_cons, List.map_nil]); first | done | rfl | (simp only [List.length_drop, List.length_take]; rfl)) ?_; (with_reducible refine (spec_HeadOk.calls t602 t603 true _ A12.out).mono ?_); rintro e w15 ⟨rfl, hb⟩; refine ⟨_, rfl, ?_⟩; have n0_ := Aside0.mk (Kd.R_below (by (with_reducible repeat (first | apply Kd.R_alloc | apply Kd.R_drewN | apply Kd.R_drew)); exact HO606.out) hb); have n1_ := Aside0.mk (Kd.R_below (by (with_reducible repeat (first | apply Kd.R_alloc | apply Kd.R_drewN | apply Kd.R_drew)); exact HO610.out) hb); have n2_ := Aside0.mk (blk_below (g := gb607) (o := .cells #[.int .i64 t602, .string t603] 31 (0, 0)) (by (with_reducible repeat (first | refine blk_drewN ?_ _ | refine blk_drew ?_ | refine blk_alloc ?_ _)); exact BK607.out) hb); have n3_ := Aside0.mk (below_step (by repeat (first | (with_reducible first | exact HB.out | apply below_alloc | apply pw_below_drewN | apply below_drew1 | refine below_set ?_ GE607.out) | exact HB.out)) hb); clear HO606; clear HO610; clear BK607; clear HB; have HO606 := n0_; have HO610 := n1_; have BK607 := n2_; have HB := n3_; clear n0_ n1_ n2_ n3_; (try clear hb); (try clear hb2); (try clear hk); (try clear hi)))
    go_meet
    case rel => exact ⟨_, (((t604.length : Int) == 0)), (by first | rfl | (simp; done) | (simp [*]; done)), H', ⟨by first | omega | exact Nat.le_refl _⟩, ⟨by (with_reducible repeat (first | apply Kd.R_alloc | apply Kd.R_drewN | apply Kd.R_drew)); exact HO606.out⟩, ⟨by (with_reducible repeat (first | apply Kd.R_alloc | apply Kd.R_drewN | apply Kd.R_drew)); exact HO610.out⟩, ⟨by (with_reducible repeat (first | refine blk_drewN ?_ _ | refine blk_drew ?_ | refine blk_alloc ?_ _)); exact BK607.out⟩, ⟨by repeat (first | (with_reducible first | exact HB.out | apply below_alloc | apply pw_below_drewN | apply below_drew1 | refine below_set ?_ GE607.out) | exact HB.out)⟩⟩
   ·replace c13 := Bool.eq_false_iff.mpr c13
    subst c13
    have H1 : (laws_FnCommits.j0 k l0 t604 t608 true t602 t603) = some r := by rw [if_neg (show ¬ (false = true) by decide)] at H; exact H
    clear H
    have H := H1
    clear H1
    have H' := Aside0.mk H
    clear H
    have hcz16_0 : w11.cell? ⟨gb607, 0, none⟩ = some (.int .i64 t602) := (blk_cell BK607.out 0).trans rfl
    have hcz16_1 : w11.cell? ⟨gb607, 1, none⟩ = some (.string t603) := (blk_cell BK607.out 1).trans rfl
    have hfz16_0 := blk_frozen BK607.out 0
    have hfz16_1 := blk_frozen BK607.out 1
    go_wp2_with (first | ((with_reducible refine gate_callee (f := 38) rfl ?_); refine goesL_ (some 30) rfl rfl Try.func38 (by kernel_rfl) rfl #[.agg #[.int .i64 t602, .string t603]] rfl (by (try simp only [List.map_toArray, List.map_cons, List.map_nil]); first | done | rfl | (simp only [List.length_drop, List.length_take]; rfl)) ?_; (with_reducible refine (spec_HeadOk.calls t602 t603 false _ A12.out).mono ?_); rintro e w17 ⟨rfl, hb⟩; refine ⟨_, rfl, ?_⟩; have n0_ := Aside0.mk (Kd.R_below (by (with_reducible repeat (first | apply Kd.R_alloc | apply Kd.R_drewN | apply Kd.R_drew)); exact HO606.out) hb); have n1_ := Aside0.mk (Kd.R_below (by (with_reducible repeat (first | apply Kd.R_alloc | apply Kd.R_drewN | apply Kd.R_drew)); exact HO610.out) hb); have n2_ := Aside0.mk (blk_below (g := gb607) (o := .cells #[.int .i64 t602, .string t603] 31 (0, 0)) (by (with_reducible repeat (first | refine blk_drewN ?_ _ | refine blk_drew ?_ | refine blk_alloc ?_ _)); exact BK607.out) hb); have n3_ := Aside0.mk (below_step (by repeat (first | (with_reducible first | exact HB.out | apply below_alloc | apply pw_below_drewN | apply below_drew1 | refine below_set ?_ GE607.out) | exact HB.out)) hb); clear HO606; clear HO610; clear BK607; clear HB; have HO606 := n0_; have HO610 := n1_; have BK607 := n2_; have HB := n3_; clear n0_ n1_ n2_ n3_; (try clear hb); (try clear hb2); (try clear hk); (try clear hi)))
    go_meet
    case rel => exact ⟨_, (true), (by first | rfl | (simp; done) | (simp [*]; done)), H', ⟨by first | omega | exact Nat.le_refl _⟩, ⟨by (with_reducible repeat (first | apply Kd.R_alloc | apply Kd.R_drewN | apply Kd.R_drew)); exact HO606.out⟩, ⟨by (with_reducible repeat (first | apply Kd.R_alloc | apply Kd.R_drewN | apply Kd.R_drew)); exact HO610.out⟩, ⟨by (with_reducible repeat (first | refine blk_drewN ?_ _ | refine blk_drew ?_ | refine blk_alloc ?_ _)); exact BK607.out⟩, ⟨by repeat (first | (with_reducible first | exact HB.out | apply below_alloc | apply pw_below_drewN | apply below_drew1 | refine below_set ?_ GE607.out) | exact HB.out)⟩⟩
  case rest =>
   clear HC6
   try clear c1
   try clear p2
   try clear c3
   try clear c7
   try clear c13
   try clear hcz14_0
   try clear hcz14_1
   try clear hcz16_0
   try clear hcz16_1
   try clear hcz9_0
   try clear hcz9_1
   try clear hfz14_0
   try clear hfz14_1
   try clear hfz16_0
   try clear hfz16_1
   try clear hfz9_0
   try clear hfz9_1
   obtain ⟨kq, x36_5, rfl, HA, HJ5, HO_4, HO_5, BK607, HB⟩ := hcut
   cases kq with
   | zero => exact absurd HA.out (by simp [laws_FnCommits.j0])
   | succ kj5 =>
    have H := HA.out
    clear HA
    simp only [laws_FnCommits.j0] at H
    by_cases c18 : x36_5 = true
    ·subst c18
     have H1 : (some ((t608.length : Int) == 0)) = some r := by rw [if_pos rfl] at H; exact H
     clear H
     have H := H1
     clear H1
     obtain rfl := Option.some.inj H
     obtain ⟨Ao19, co19, eo19⟩ := Kd.R_slice HO_5.out
     subst eo19
     go_wp2
     go_ret
     exact ⟨by first | rfl | (simp [errW_none, errW_some] <;> rfl) | (simp [*, errW_none, errW_some] <;> rfl), by repeat (first | (with_reducible first | exact HB.out | apply below_alloc | apply pw_below_drewN | apply below_drew1 | refine below_set ?_ GE607.out) | exact HB.out)⟩
    ·replace c18 := Bool.eq_false_iff.mpr c18
     subst c18
     have H1 : ((some (([7] : List Int) : List Int)).bind fun y612 => (if y612.length + t608.length < 140737488355328 then ((impl_GetCommit.f kj5 (y612 ++ t608) 1).bind fun bt618 => ((some (([] : List Int) : List Int)).bind fun y626 => (if y626.length + t608.length < 140737488355328 then ((some (y626 ++ t608 : List Int)).bind fun y629 => ((laws_at.f l0 2).bind fun t632 => (if 0 ≤ (wrap64 ((wrap64 ((t608.length : Int) - 1)) - (Int.tmod t632 4))) then (if (wrap64 ((wrap64 ((t608.length : Int) - 1)) - (Int.tmod t632 4))) < (y629.length : Int) then ((laws_at.f l0 3).bind fun t634 => (if 0 ≤ (IntKind.u64.wrap (Int.tmod t634 8)) then ((impl_GetCommit.f kj5 (y629.set ((wrap64 ((wrap64 ((t608.length : Int) - 1)) - (Int.tmod t632 4))) : Int).toNat (Go.bits .xor .u8 (rd y629 (wrap64 ((wrap64 ((t608.length : Int) - 1)) - (Int.tmod t632 4)))) (shl .u8 1 (IntKind.u64.wrap (Int.tmod t634 8))))) 0).bind fun bt636 => ((laws_at.f l0 4).bind fun t644 => (if (t608.length : Int) = 0 then (none) else (if 0 ≤ (Int.tmod t644 (t608.length : Int)) then (if (Int.tmod t644 (t608.length : Int)) ≤ (t608.length : Int) then ((impl_GetCommit.f kj5 (t608.take ((Int.tmod t644 (t608.length : Int)) : Int).toNat) 0).bind fun bt649 => (if bt618.2.2.2.2 = true then (if (bt618.1 == t602 && (bt618.2.1.toList == t603.toList)) = true then ((laws_sameTexts.f kj5 bt618.2.2.1 t604).bind fun t657 => (if t657 = true then (if bt618.2.2.2.1 = (wrap64 ((t608.length : Int) + 1)) then (if bt636.2.2.2.2 = true then (none) else (some (!bt649.2.2.2.2))) else (none)) else (none))) else (none)) else (none))) else (none)) else (none))))) else (none))) else (none)) else (none)))) else (none)))) else (none))) = some r := by rw [if_neg (show ¬ (false = true) by decide)] at H; exact H
     clear H
     have H := H1
     clear H1
     obtain ⟨y612, hy612⟩ : ∃ y_ : List Int, y_ = (([7] : List Int)) := ⟨_, rfl⟩
     replace H : (if y612.length + t608.length < 140737488355328 then ((impl_GetCommit.f kj5 (y612 ++ t608) 1).bind fun bt618 => ((some (([] : List Int) : List Int)).bind fun y626 => (if y626.length + t608.length < 140737488355328 then ((some (y626 ++ t608 : List Int)).bind fun y629 => ((laws_at.f l0 2).bind fun t632 => (if 0 ≤ (wrap64 ((wrap64 ((t608.length : Int) - 1)) - (Int.tmod t632 4))) then (if (wrap64 ((wrap64 ((t608.length : Int) - 1)) - (Int.tmod t632 4))) < (y629.length : Int) then ((laws_at.f l0 3).bind fun t634 => (if 0 ≤ (IntKind.u64.wrap (Int.tmod t634 8)) then ((impl_GetCommit.f kj5 (y629.set ((wrap64 ((wrap64 ((t608.length : Int) - 1)) - (Int.tmod t632 4))) : Int).toNat (Go.bits .xor .u8 (rd y629 (wrap64 ((wrap64 ((t608.length : Int) - 1)) - (Int.tmod t632 4)))) (shl .u8 1 (IntKind.u64.wrap (Int.tmod t634 8))))) 0).bind fun bt636 => ((laws_at.f l0 4).bind fun t644 => (if (t608.length : Int) = 0 then (none) else (if 0 ≤ (Int.tmod t644 (t608.length : Int)) then (if (Int.tmod t644 (t608.length : Int)) ≤ (t608.length : Int) then ((impl_GetCommit.f kj5 (t608.take ((Int.tmod t644 (t608.length : Int)) : Int).toNat) 0).bind fun bt649 => (if bt618.2.2.2.2 = true then (if (bt618.1 == t602 && (bt618.2.1.toList == t603.toList)) = true then ((laws_sameTexts.f kj5 bt618.2.2.1 t604).bind fun t657 => (if t657 = true then (if bt618.2.2.2.1 = (wrap64 ((t608.length : Int) + 1)) then (if bt636.2.2.2.2 = true then (none) else (some (!bt649.2.2.2.2))) else (none)) else (none))) else (none)) else (none))) else (none)) else (none))))) else (none))) else (none)) else (none)))) else (none)))) else (none)) = some r := by first | (rw [hy612]; with_reducible exact H) | (have H2_ := (Option.bind_some _ _).symm.trans H; rw [hy612]; with_reducible exact H2_) | (have H2_ := (Option.bind_some _ _).symm.trans H; with_reducible exact H2_) | with_reducible exact H | (rw [hy612]; exact H) | exact H
     have Ny612 := Aside0.mk hy612
     clear hy612
     by_cases c20 : y612.length + t608.length < 140737488355328
     ·rw [if_pos c20] at H
      have LMc20 := Aside0.mk c20
      clear c20
      obtain ⟨y615, hy615⟩ : ∃ y_ : List Int, y_ = (y612 ++ t608) := ⟨_, rfl⟩
      replace H : ((impl_GetCommit.f kj5 y615 1).bind fun bt618 => ((some (([] : List Int) : List Int)).bind fun y626 => (if y626.length + t608.length < 140737488355328 then ((some (y626 ++ t608 : List Int)).bind fun y629 => ((laws_at.f l0 2).bind fun t632 => (if 0 ≤ (wrap64 ((wrap64 ((t608.length : Int) - 1)) - (Int.tmod t632 4))) then (if (wrap64 ((wrap64 ((t608.length : Int) - 1)) - (Int.tmod t632 4))) < (y629.length : Int) then ((laws_at.f l0 3).bind fun t634 => (if 0 ≤ (IntKind.u64.wrap (Int.tmod t634 8)) then ((impl_GetCommit.f kj5 (y629.set ((wrap64 ((wrap64 ((t608.length : Int) - 1)) - (Int.tmod t632 4))) : Int).toNat (Go.bits .xor .u8 (rd y629 (wrap64 ((wrap64 ((t608.length : Int) - 1)) - (Int.tmod t632 4)))) (shl .u8 1 (IntKind.u64.wrap (Int.tmod t634 8))))) 0).bind fun bt636 => ((laws_at.f l0 4).bind fun t644 => (if (t608.length : Int) = 0 then (none) else (if 0 ≤ (Int.tmod t644 (t608.length : Int)) then (if (Int.tmod t644 (t608.length : Int)) ≤ (t608.length : Int) then ((impl_GetCommit.f kj5 (t608.take ((Int.tmod t644 (t608.length : Int)) : Int).toNat) 0).bind fun bt649 => (if bt618.2.2.2.2 = true then (if (bt618.1 == t602 && (bt618.2.1.toList == t603.toList)) = true then ((laws_sameTexts.f kj5 bt618.2.2.1 t604).bind fun t657 => (if t657 = true then (if bt618.2.2.2.1 = (wrap64 ((t608.length : Int) + 1)) then (if bt636.2.2.2.2 = true then (none) else (some (!bt649.2.2.2.2))) else (none)) else (none))) else (none)) else (none))) else (none)) else (none))))) else (none))) else (none)) else (none)))) else (none)))) = some r := by first | (rw [hy615]; with_reducible exact H) | (have H2_ := (Option.bind_some _ _).symm.trans H; rw [hy615]; with_reducible exact H2_) | (have H2_ := (Option.bind_some _ _).symm.trans H; with_reducible exact H2_) | with_reducible exact H | (rw [hy615]; exact H) | exact H
      have Ny615 := Aside0.mk hy615
      clear hy615
      replace H := Option.bind_eq_some_iff.mp H
      obtain ⟨⟨t618, t619, t620, t623, t624⟩, A210, H⟩ := H
      replace H : ((some (([] : List Int) : List Int)).bind fun y626 => (if y626.length + t608.length < 140737488355328 then ((some (y626 ++ t608 : List Int)).bind fun y629 => ((laws_at.f l0 2).bind fun t632 => (if 0 ≤ (wrap64 ((wrap64 ((t608.length : Int) - 1)) - (Int.tmod t632 4))) then (if (wrap64 ((wrap64 ((t608.length : Int) - 1)) - (Int.tmod t632 4))) < (y629.length : Int) then ((laws_at.f l0 3).bind fun t634 => (if 0 ≤ (IntKind.u64.wrap (Int.tmod t634 8)) then ((impl_GetCommit.f kj5 (y629.set ((wrap64 ((wrap64 ((t608.length : Int) - 1)) - (Int.tmod t632 4))) : Int).toNat (Go.bits .xor .u8 (rd y629 (wrap64 ((wrap64 ((t608.length : Int) - 1)) - (Int.tmod t632 4)))) (shl .u8 1 (IntKind.u64.wrap (Int.tmod t634 8))))) 0).bind fun bt636 => ((laws_at.f l0 4).bind fun t644 => (if (t608.length : Int) = 0 then (none) else (if 0 ≤ (Int.tmod t644 (t608.length : Int)) then (if (Int.tmod t644 (t608.length : Int)) ≤ (t608.length : Int) then ((impl_GetCommit.f kj5 (t608.take ((Int.tmod t644 (t608.length : Int)) : Int).toNat) 0).bind fun bt649 => (if t624 = true then (if (t618 == t602 && (t619.toList == t603.toList)) = true then ((laws_sameTexts.f kj5 t620 t604).bind fun t657 => (if t657 = true then (if t623 = (wrap64 ((t608.length : Int) + 1)) then (if bt636.2.2.2.2 = true then (none) else (some (!bt649.2.2.2.2))) else (none)) else (none))) else (none)) else (none))) else (none)) else (none))))) else (none))) else (none)) else (none)))) else (none))) = some r := H
      have A21 := Aside0.mk A210
      clear A210
      obtain ⟨y626, hy626⟩ : ∃ y_ : List Int, y_ = (([] : List Int)) := ⟨_, rfl⟩
      replace H : (if y626.length + t608.length < 140737488355328 then ((some (y626 ++ t608 : List Int)).bind fun y629 => ((laws_at.f l0 2).bind fun t632 => (if 0 ≤ (wrap64 ((wrap64 ((t608.length : Int) - 1)) - (Int.tmod t632 4))) then (if (wrap64 ((wrap64 ((t608.length : Int) - 1)) - (Int.tmod t632 4))) < (y629.length : Int) then ((laws_at.f l0 3).bind fun t634 => (if 0 ≤ (IntKind.u64.wrap (Int.tmod t634 8)) then ((impl_GetCommit.f kj5 (y629.set ((wrap64 ((wrap64 ((t608.length : Int) - 1)) - (Int.tmod t632 4))) : Int).toNat (Go.bits .xor .u8 (rd y629 (wrap64 ((wrap64 ((t608.length : Int) - 1)) - (Int.tmod t632 4)))) (shl .u8 1 (IntKind.u64.wrap (Int.tmod t634 8))))) 0).bind fun bt636 => ((laws_at.f l0 4).bind fun t644 => (if (t608.length : Int) = 0 then (none) else (if 0 ≤ (Int.tmod t644 (t608.length : Int)) then (if (Int.tmod t644 (t608.length : Int)) ≤ (t608.length : Int) then ((impl_GetCommit.f kj5 (t608.take ((Int.tmod t644 (t608.length : Int)) : Int).toNat) 0).bind fun bt649 => (if t624 = true then (if (t618 == t602 && (t619.toList == t603.toList)) = true then ((laws_sameTexts.f kj5 t620 t604).bind fun t657 => (if t657 = true then (if t623 = (wrap64 ((t608.length : Int) + 1)) then (if bt636.2.2.2.2 = true then (none) else (some (!bt649.2.2.2.2))) else (none)) else (none))) else (none)) else (none))) else (none)) else (none))))) else (none))) else (none)) else (none)))) else (none)) = some r := by first | (rw [hy626]; with_reducible exact H) | (have H2_ := (Option.bind_some _ _).symm.trans H; rw [hy626]; with_reducible exact H2_) | (have H2_ := (Option.bind_some _ _).symm.trans H; with_reducible exact H2_) | with_reducible exact H | (rw [hy626]; exact H) | exact H
      have Ny626 := Aside0.mk hy626
      clear hy626
      by_cases c22 : y626.length + t608.length < 140737488355328
      ·rw [if_pos c22] at H
       have LMc22 := Aside0.mk c22
       clear c22
       obtain ⟨y629, hy629⟩ : ∃ y_ : List Int, y_ = (y626 ++ t608) := ⟨_, rfl⟩
       replace H : ((laws_at.f l0 2).bind fun t632 => (if 0 ≤ (wrap64 ((wrap64 ((t608.length : Int) - 1)) - (Int.tmod t632 4))) then (if (wrap64 ((wrap64 ((t608.length : Int) - 1)) - (Int.tmod t632 4))) < (y629.length : Int) then ((laws_at.f l0 3).bind fun t634 => (if 0 ≤ (IntKind.u64.wrap (Int.tmod t634 8)) then ((impl_GetCommit.f kj5 (y629.set ((wrap64 ((wrap64 ((t608.length : Int) - 1)) - (Int.tmod t632 4))) : Int).toNat (Go.bits .xor .u8 (rd y629 (wrap64 ((wrap64 ((t608.length : Int) - 1)) - (Int.tmod t632 4)))) (shl .u8 1 (IntKind.u64.wrap (Int.tmod t634 8))))) 0).bind fun bt636 => ((laws_at.f l0 4).bind fun t644 => (if (t608.length : Int) = 0 then (none) else (if 0 ≤ (Int.tmod t644 (t608.length : Int)) then (if (Int.tmod t644 (t608.length : Int)) ≤ (t608.length : Int) then ((impl_GetCommit.f kj5 (t608.take ((Int.tmod t644 (t608.length : Int)) : Int).toNat) 0).bind fun bt649 => (if t624 = true then (if (t618 == t602 && (t619.toList == t603.toList)) = true then ((laws_sameTexts.f kj5 t620 t604).bind fun t657 => (if t657 = true then (if t623 = (wrap64 ((t608.length : Int) + 1)) then (if bt636.2.2.2.2 = true then (none) else (some (!bt649.2.2.2.2))) else (none)) else (none))) else (none)) else (none))) else (none)) else (none))))) else (none))) else (none)) else (none))) = some r := by first | (rw [hy629]; with_reducible exact H) | (have H2_ := (Option.bind_some _ _).symm.trans H; rw [hy629]; with_reducible exact H2_) | (have H2_ := (Option.bind_some _ _).symm.trans H; with_reducible exact H2_) | with_reducible exact H | (rw [hy629]; exact H) | exact H
       have Ny629 := Aside0.mk hy629
       clear hy629
       replace H := Option.bind_eq_some_iff.mp H
       obtain ⟨t632, A230, H⟩ := H
       replace H : (if 0 ≤ (wrap64 ((wrap64 ((t608.length : Int) - 1)) - (Int.tmod t632 4))) then (if (wrap64 ((wrap64 ((t608.length : Int) - 1)) - (Int.tmod t632 4))) < (y629.length : Int) then ((laws_at.f l0 3).bind fun t634 => (if 0 ≤ (IntKind.u64.wrap (Int.tmod t634 8)) then ((impl_GetCommit.f kj5 (y629.set ((wrap64 ((wrap64 ((t608.length : Int) - 1)) - (Int.tmod t632 4))) : Int).toNat (Go.bits .xor .u8 (rd y629 (wrap64 ((wrap64 ((t608.length : Int) - 1)) - (Int.tmod t632 4)))) (shl .u8 1 (IntKind.u64.wrap (Int.tmod t634 8))))) 0).bind fun bt636 => ((laws_at.f l0 4).bind fun t644 => (if (t608.length : Int) = 0 then (none) else (if 0 ≤ (Int.tmod t644 (t608.length : Int)) then (if (Int.tmod t644 (t608.length : Int)) ≤ (t608.length : Int) then ((impl_GetCommit.f kj5 (t608.take ((Int.tmod t644 (t608.length : Int)) : Int).toNat) 0).bind fun bt649 => (if t624 = true then (if (t618 == t602 && (t619.toList == t603.toList)) = true then ((laws_sameTexts.f kj5 t620 t604).bind fun t657 => (if t657 = true then (if t623 = (wrap64 ((t608.length : Int) + 1)) then (if bt636.2.2.2.2 = true then (none) else (some (!bt649.2.2.2.2))) else (none)) else (none))) else (none)) else (none))) else (none)) else (none))))) else (none))) else (none)) else (none)) = some r := H
       have A23 := Aside0.mk A230
       clear A230
       obtain ⟨ji24, hji24⟩ : ∃ j_ : Int, (wrap64 ((wrap64 ((t608.length : Int) - 1)) - (Int.tmod t632 4))) = j_ := ⟨_, rfl⟩
       replace H : (if 0 ≤ (ji24) then (if (ji24) < (y629.length : Int) then ((laws_at.f l0 3).bind fun t634 => (if 0 ≤ (IntKind.u64.wrap (Int.tmod t634 8)) then ((impl_GetCommit.f kj5 (y629.set ((ji24) : Int).toNat (Go.bits .xor .u8 (rd y629 (ji24)) (shl .u8 1 (IntKind.u64.wrap (Int.tmod t634 8))))) 0).bind fun bt636 => ((laws_at.f l0 4).bind fun t644 => (if (t608.length : Int) = 0 then (none) else (if 0 ≤ (Int.tmod t644 (t608.length : Int)) then (if (Int.tmod t644 (t608.length : Int)) ≤ (t608.length : Int) then ((impl_GetCommit.f kj5 (t608.take ((Int.tmod t644 (t608.length : Int)) : Int).toNat) 0).bind fun bt649 => (if t624 = true then (if (t618 == t602 && (t619.toList == t603.toList)) = true then ((laws_sameTexts.f kj5 t620 t604).bind fun t657 => (if t657 = true then (if t623 = (wrap64 ((t608.length : Int) + 1)) then (if bt636.2.2.2.2 = true then (none) else (some (!bt649.2.2.2.2))) else (none)) else (none))) else (none)) else (none))) else (none)) else (none))))) else (none))) else (none)) else (none)) = some r := by first | (rw [hji24] at H; exact H) | (simp only [hji24] at H ⊢; exact H)
       (try rw [hji24] at A21)
       (try rw [hji24] at A23)
       have hji24w : (IntKind.i64.wrap ((wrap64 ((t608.length : Int) - 1)) - (Int.tmod t632 4))) = ji24 := (i64_w _).trans hji24
       by_cases c25 : 0 ≤ (ji24)
       ·rw [if_pos c25] at H
        have c25b0 : decide (0 ≤ (ji24)) = true := decide_eq_true c25
        clear c25
        by_cases c26 : (ji24) < (y629.length : Int)
        ·rw [if_pos c26] at H
         have c26b0 : decide ((ji24) < (y629.length : Int)) = true := decide_eq_true c26
         clear c26
         replace H := Option.bind_eq_some_iff.mp H
         obtain ⟨t634, A270, H⟩ := H
         replace H : (if 0 ≤ (IntKind.u64.wrap (Int.tmod t634 8)) then ((impl_GetCommit.f kj5 (y629.set ((ji24) : Int).toNat (Go.bits .xor .u8 (rd y629 (ji24)) (shl .u8 1 (IntKind.u64.wrap (Int.tmod t634 8))))) 0).bind fun bt636 => ((laws_at.f l0 4).bind fun t644 => (if (t608.length : Int) = 0 then (none) else (if 0 ≤ (Int.tmod t644 (t608.length : Int)) then (if (Int.tmod t644 (t608.length : Int)) ≤ (t608.length : Int) then ((impl_GetCommit.f kj5 (t608.take ((Int.tmod t644 (t608.length : Int)) : Int).toNat) 0).bind fun bt649 => (if t624 = true then (if (t618 == t602 && (t619.toList == t603.toList)) = true then ((laws_sameTexts.f kj5 t620 t604).bind fun t657 => (if t657 = true then (if t623 = (wrap64 ((t608.length : Int) + 1)) then (if bt636.2.2.2.2 = true then (none) else (some (!bt649.2.2.2.2))) else (none)) else (none))) else (none)) else (none))) else (none)) else (none))))) else (none)) = some r := H
         have A27 := Aside0.mk A270
         clear A270
         obtain ⟨ji28, hji28⟩ : ∃ j_ : Int, (IntKind.u64.wrap (Int.tmod t634 8)) = j_ := ⟨_, rfl⟩
         replace H : (if 0 ≤ (ji28) then ((impl_GetCommit.f kj5 (y629.set ((ji24) : Int).toNat (Go.bits .xor .u8 (rd y629 (ji24)) (shl .u8 1 (ji28)))) 0).bind fun bt636 => ((laws_at.f l0 4).bind fun t644 => (if (t608.length : Int) = 0 then (none) else (if 0 ≤ (Int.tmod t644 (t608.length : Int)) then (if (Int.tmod t644 (t608.length : Int)) ≤ (t608.length : Int) then ((impl_GetCommit.f kj5 (t608.take ((Int.tmod t644 (t608.length : Int)) : Int).toNat) 0).bind fun bt649 => (if t624 = true then (if (t618 == t602 && (t619.toList == t603.toList)) = true then ((laws_sameTexts.f kj5 t620 t604).bind fun t657 => (if t657 = true then (if t623 = (wrap64 ((t608.length : Int) + 1)) then (if bt636.2.2.2.2 = true then (none) else (some (!bt649.2.2.2.2))) else (none)) else (none))) else (none)) else (none))) else (none)) else (none))))) else (none)) = some r := by first | (rw [hji28] at H; exact H) | (simp only [hji28] at H ⊢; exact H)
         (try rw [hji28] at A21)
         (try rw [hji28] at A23)
         (try rw [hji28] at A27)
         by_cases c29 : 0 ≤ (ji28)
         ·rw [if_pos c29] at H
          have c29b0 := eq_true c29
          have c29b1 : decide (0 ≤ (ji28)) = true := decide_eq_true c29
          clear c29
          obtain ⟨ji30, hji30⟩ : ∃ j_ : Int, (shl .u8 1 (ji28)) = j_ := ⟨_, rfl⟩
          replace H : ((impl_GetCommit.f kj5 (y629.set ((ji24) : Int).toNat (Go.bits .xor .u8 (rd y629 (ji24)) (ji30))) 0).bind fun bt636 => ((laws_at.f l0 4).bind fun t644 => (if (t608.length : Int) = 0 then (none) else (if 0 ≤ (Int.tmod t644 (t608.length : Int)) then (if (Int.tmod t644 (t608.length : Int)) ≤ (t608.length : Int) then ((impl_GetCommit.f kj5 (t608.take ((Int.tmod t644 (t608.length : Int)) : Int).toNat) 0).bind fun bt649 => (if t624 = true then (if (t618 == t602 && (t619.toList == t603.toList)) = true then ((laws_sameTexts.f kj5 t620 t604).bind fun t657 => (if t657 = true then (if t623 = (wrap64 ((t608.length : Int) + 1)) then (if bt636.2.2.2.2 = true then (none) else (some (!bt649.2.2.2.2))) else (none)) else (none))) else (none)) else (none))) else (none)) else (none))))) = some r := by first | (rw [hji30] at H; exact H) | (simp only [hji30] at H ⊢; exact H)
          (try rw [hji30] at A21)
          (try rw [hji30] at A23)
          (try rw [hji30] at A27)
          have hji30_ : (IntKind.u8.wrap (1 * 2 ^ min (ji28).toNat 8)) = ji30 := hji30
          have hji30z : (ji28) ≤ 8 → (IntKind.u8.wrap (1 * 2 ^ (ji28).toNat)) = ji30 := shl_small hji30
          have hji30u : (IntKind.u8.wrap (2 ^ min (ji28).toNat 8)) = ji30 := by have h_ := hji30_; rw [Int.one_mul] at h_; exact h_
          have hji30v : (ji28) ≤ 8 → (IntKind.u8.wrap (2 ^ (ji28).toNat)) = ji30 := fun hle_ => by have h_ := hji30z hle_; rw [Int.one_mul] at h_; exact h_
          obtain ⟨y635, hy635⟩ : ∃ y_ : List Int, y_ = (y629.set ((ji24) : Int).toNat (Go.bits .xor .u8 (rd y629 (ji24)) (ji30))) := ⟨_, rfl⟩
          replace H : ((impl_GetCommit.f kj5 y635 0).bind fun bt636 => ((laws_at.f l0 4).bind fun t644 => (if (t608.length : Int) = 0 then (none) else (if 0 ≤ (Int.tmod t644 (t608.length : Int)) then (if (Int.tmod t644 (t608.length : Int)) ≤ (t608.length : Int) then ((impl_GetCommit.f kj5 (t608.take ((Int.tmod t644 (t608.length : Int)) : Int).toNat) 0).bind fun bt649 => (if t624 = true then (if (t618 == t602 && (t619.toList == t603.toList)) = true then ((laws_sameTexts.f kj5 t620 t604).bind fun t657 => (if t657 = true then (if t623 = (wrap64 ((t608.length : Int) + 1)) then (if bt636.2.2.2.2 = true then (none) else (some (!bt649.2.2.2.2))) else (none)) else (none))) else (none)) else (none))) else (none)) else (none))))) = some r := by first | (rw [hy635]; with_reducible exact H) | (have H2_ := (Option.bind_some _ _).symm.trans H; rw [hy635]; with_reducible exact H2_) | (have H2_ := (Option.bind_some _ _).symm.trans H; with_reducible exact H2_) | with_reducible exact H | (rw [hy635]; exact H) | exact H
          have Ny635 := Aside0.mk hy635
          clear hy635
          replace H := Option.bind_eq_some_iff.mp H
          obtain ⟨⟨t636, t637, t638, t641, t642⟩, A320, H⟩ := H
          replace H : ((laws_at.f l0 4).bind fun t644 => (if (t608.length : Int) = 0 then (none) else (if 0 ≤ (Int.tmod t644 (t608.length : Int)) then (if (Int.tmod t644 (t608.length : Int)) ≤ (t608.length : Int) then ((impl_GetCommit.f kj5 (t608.take ((Int.tmod t644 (t608.length : Int)) : Int).toNat) 0).bind fun bt649 => (if t624 = true then (if (t618 == t602 && (t619.toList == t603.toList)) = true then ((laws_sameTexts.f kj5 t620 t604).bind fun t657 => (if t657 = true then (if t623 = (wrap64 ((t608.length : Int) + 1)) then (if t642 = true then (none) else (some (!bt649.2.2.2.2))) else (none)) else (none))) else (none)) else (none))) else (none)) else (none)))) = some r := H
          have A32 := Aside0.mk A320
          clear A320
          replace H := Option.bind_eq_some_iff.mp H
          obtain ⟨t644, A330, H⟩ := H
          replace H : (if (t608.length : Int) = 0 then (none) else (if 0 ≤ (Int.tmod t644 (t608.length : Int)) then (if (Int.tmod t644 (t608.length : Int)) ≤ (t608.length : Int) then ((impl_GetCommit.f kj5 (t608.take ((Int.tmod t644 (t608.length : Int)) : Int).toNat) 0).bind fun bt649 => (if t624 = true then (if (t618 == t602 && (t619.toList == t603.toList)) = true then ((laws_sameTexts.f kj5 t620 t604).bind fun t657 => (if t657 = true then (if t623 = (wrap64 ((t608.length : Int) + 1)) then (if t642 = true then (none) else (some (!bt649.2.2.2.2))) else (none)) else (none))) else (none)) else (none))) else (none)) else (none))) = some r := H
          have A33 := Aside0.mk A330
          clear A330
          by_cases c34 : (t608.length : Int) = 0
          ·rw [if_pos c34] at H
           exact absurd H (by simp)
          ·rw [if_neg c34] at H
           have c34b0 : ((t608.length : Int) == 0) = false := beq_eq_false_iff_ne.mpr c34
           have c34b1 : ((t608.length : Int) != 0) = true := bne_iff_ne.mpr c34
           have c34b2 : ¬ (t608 = []) := fun h_ => c34 (by rw [h_]; rfl)
           obtain ⟨ji35, hji35⟩ : ∃ j_ : Int, (Int.tmod t644 (t608.length : Int)) = j_ := ⟨_, rfl⟩
           replace H : (if 0 ≤ (ji35) then (if (ji35) ≤ (t608.length : Int) then ((impl_GetCommit.f kj5 (t608.take ((ji35) : Int).toNat) 0).bind fun bt649 => (if t624 = true then (if (t618 == t602 && (t619.toList == t603.toList)) = true then ((laws_sameTexts.f kj5 t620 t604).bind fun t657 => (if t657 = true then (if t623 = (wrap64 ((t608.length : Int) + 1)) then (if t642 = true then (none) else (some (!bt649.2.2.2.2))) else (none)) else (none))) else (none)) else (none))) else (none)) else (none)) = some r := by first | (rw [hji35] at H; exact H) | (simp only [hji35] at H ⊢; exact H)
           (try rw [hji35] at A21)
           (try rw [hji35] at A23)
           (try rw [hji35] at A27)
           (try rw [hji35] at A32)
           (try rw [hji35] at A33)
           by_cases c36 : 0 ≤ (ji35)
           ·rw [if_pos c36] at H
            have c36b0 := eq_true c36
            have c36b1 : decide (0 ≤ (ji35)) = true := decide_eq_true c36
            clear c36
            by_cases c37 : (ji35) ≤ (t608.length : Int)
            ·rw [if_pos c37] at H
             have c37b0 := eq_true c37
             have c37b1 : decide ((ji35) ≤ (t608.length : Int)) = true := decide_eq_true c37
             clear c37
             obtain ⟨y645, hy645⟩ : ∃ y_ : List Int, y_ = (t608.take ((ji35) : Int).toNat) := ⟨_, rfl⟩
             replace H : ((impl_GetCommit.f kj5 y645 0).bind fun bt649 => (if t624 = true then (if (t618 == t602 && (t619.toList == t603.toList)) = true then ((laws_sameTexts.f kj5 t620 t604).bind fun t657 => (if t657 = true then (if t623 = (wrap64 ((t608.length : Int) + 1)) then (if t642 = true then (none) else (some (!bt649.2.2.2.2))) else (none)) else (none))) else (none)) else (none))) = some r := by first | (rw [hy645]; with_reducible exact H) | (have H2_ := (Option.bind_some _ _).symm.trans H; rw [hy645]; with_reducible exact H2_) | (have H2_ := (Option.bind_some _ _).symm.trans H; with_reducible exact H2_) | with_reducible exact H | (rw [hy645]; exact H) | exact H
             have Ny645 := Aside0.mk hy645
             clear hy645
             replace H := Option.bind_eq_some_iff.mp H
             obtain ⟨⟨t649, t650, t651, t654, t655⟩, A380, H⟩ := H
             replace H : (if t624 = true then (if (t618 == t602 && (t619.toList == t603.toList)) = true then ((laws_sameTexts.f kj5 t620 t604).bind fun t657 => (if t657 = true then (if t623 = (wrap64 ((t608.length : Int) + 1)) then (if t642 = true then (none) else (some (!t655))) else (none)) else (none))) else (none)) else (none)) = some r := H
             have A38 := Aside0.mk A380
             clear A380
             by_cases c39 : t624 = true
             ·subst c39
              have H1 : (if (t618 == t602 && (t619.toList == t603.toList)) = true then ((laws_sameTexts.f kj5 t620 t604).bind fun t657 => (if t657 = true then (if t623 = (wrap64 ((t608.length : Int) + 1)) then (if t642 = true then (none) else (some (!t655))) else (none)) else (none))) else (none)) = some r := by rw [if_pos rfl] at H; exact H
              clear H
              have H := H1
              clear H1
              by_cases c40 : (t618 == t602 && (t619.toList == t603.toList)) = true
              ·rw [if_pos c40] at H
               have c40b0 : (t618 == t602 && (t619.toList == t603.toList)) = true := c40
               (try (have c40b1 : decide (t618 = t602 && (t619.toList == t603.toList)) = true := by simpa using c40))
               (try (have c40b2 : (t618 == t602 && (t619.toList == t603.toList)) = true := by simpa using c40))
               clear c40
               replace H := Option.bind_eq_some_iff.mp H
               obtain ⟨t657, A410, H⟩ := H
               replace H : (if t657 = true then (if t623 = (wrap64 ((t608.length : Int) + 1)) then (if t642 = true then (none) else (some (!t655))) else (none)) else (none)) = some r := H
               have A41 := Aside0.mk A410
               clear A410
               by_cases c42 : t657 = true
               ·subst c42
                have H1 : (if t623 = (wrap64 ((t608.length : Int) + 1)) then (if t642 = true then (none) else (some (!t655))) else (none)) = some r := by rw [if_pos rfl] at H; exact H
                clear H
                have H := H1
                clear H1
                by_cases c43 : t623 = (wrap64 ((t608.length : Int) + 1))
                ·rw [if_pos c43] at H
                 have c43b0 : (t623 == (wrap64 ((t608.length : Int) + 1))) = true := beq_iff_eq.mpr c43
                 have c43b1 : (t623 != (wrap64 ((t608.length : Int) + 1))) = false := bne_eq_false_iff_eq.mpr c43
                 clear c43
                 by_cases c44 : t642 = true
                 ·subst c44
                  have H1 : (none) = some r := by rw [if_pos rfl] at H; exact H
                  clear H
                  have H := H1
                  clear H1
                  exact absurd H (by simp)
                 ·replace c44 := Bool.eq_false_iff.mpr c44
                  subst c44
                  have H1 : (some (!t655)) = some r := by rw [if_neg (show ¬ (false = true) by decide)] at H; exact H
                  clear H
                  have H := H1
                  clear H1
                  obtain rfl := Option.some.inj H
                  try go_wp2_with (first | ((with_reducible refine gate_dst (N := 41) rfl ?_); (try (refine gate_guard (by rfl) ?_; dsimp only)); refine Kd.R_lit (Kd.int .u8) _ 5 ?hg (N := 41) ?hd (xs := ([7] : List Int)) (inner := [.int .u8 7]) (ok := fun _ => True) (okp := fun _ => True) ?hr ?hp (fun _ hk => hk) trivial (Below.refl _ _) (Nat.le_refl _) (by simp) ?_; (case hd => rfl); (case hg => rfl); (case hr => first | (go_simp; done) | (go_simp; rfl)); (case hp => exact (Reps.one (show Kd.M (Kd.int .u8) _ _ _ 7 [.int .u8 7] from rfl) (Reps.none _ _))); intro v613 w45 ho46 hb hg_ hnew_; clear hg_ hnew_; (first | rw [← Ny612.out] at ho46 | (simp only [Int.reduceToNat] at ho46; rw [← Ny612.out] at ho46)); have n0_ := Aside0.mk (Kd.R_below (by (with_reducible repeat (first | apply Kd.R_alloc | apply Kd.R_drewN | apply Kd.R_drew)); exact HO_4.out) hb); have n1_ := Aside0.mk (Kd.R_elder' (by (with_reducible repeat (first | apply Kd.R_alloc | apply Kd.R_drewN | apply Kd.R_drew)); exact HO_5.out) (Kd.R_base ho46) hb); have n2_ := Aside0.mk (Kd.R_lower (Kd.R_new' ho46 (Kd.R_lt (by (with_reducible repeat (first | apply Kd.R_alloc | apply Kd.R_drewN | apply Kd.R_drew)); exact HO_5.out))) (below_size (by repeat (first | (with_reducible first | exact HB.out | apply below_alloc | apply pw_below_drewN | apply below_drew1 | refine below_set ?_ GE607.out) | exact HB.out)))); have n3_ := Aside0.mk (blk_below (g := gb607) (o := .cells #[.int .i64 t602, .string t603] 31 (0, 0)) (by (with_reducible repeat (first | refine blk_drewN ?_ _ | refine blk_drew ?_ | refine blk_alloc ?_ _)); exact BK607.out) hb); have n4_ := Aside0.mk (below_step (by repeat (first | (with_reducible first | exact HB.out | apply below_alloc | apply pw_below_drewN | apply below_drew1 | refine below_set ?_ GE607.out) | exact HB.out)) hb); clear HO_4; clear HO_5; clear BK607; clear HB; have HO_4 := n0_; have HO_5 := n1_; have HO614 := n2_; have BK607 := n3_; have HB := n4_; clear n0_ n1_ n2_ n3_ n4_; clear hb ho46; obtain ⟨Ao48, co48, eo48⟩ := Kd.R_slice HO_5.out; subst eo48) | ((with_reducible refine gate_builtin (b := .append) (xs := #[.tmp 41, .tmp 42]) rfl ?_); (try (refine gate_guard (by rfl) ?_; dsimp only)); at_builtin; refine Kd.R_append_rows (Kd.int .u8) (w0 := w) w.heap.size rfl (.tmp 41) (.tmp 42) 29 5 (.int .u8 0) 1 rfl Try.underlying29 info5 rfl (by decide) (by omega) v613 y612 t608 _ _ _ (fun k_ => some k_ ≠ (.slice Ao48 t608.length co48 : Value).ownBlock) (fun _ => False) rfl rfl ?aO ?aR (fun _ _ h => h) (fun _ h => h.elim) ?aF ?aB ?aS ?aL ?_; (case aR => repeat (first | exact (Kd.R_reads' HO_5.out).2.2 | (with_reducible refine Kd.C_alloc ?_ _) | (with_reducible refine Kd.C_drewN ?_ _) | (with_reducible refine Kd.C_drew ?_))); (case aB => exact (by repeat (first | (with_reducible first | exact HB.out | apply below_alloc | apply pw_below_drewN | apply below_drew1 | refine below_set ?_ GE607.out) | exact HB.out))); (case aF => exact (fun k_ hk => Kd.fresh' (Kd.R_lt (by (with_reducible repeat (first | apply Kd.R_alloc | apply Kd.R_drewN | apply Kd.R_drew)); exact HO_5.out)) k_ hk)); (case aO => exact (by (with_reducible repeat (first | apply Kd.R_alloc | apply Kd.R_drewN | apply Kd.R_drew)); exact Kd.R_mono HO614.out (fun _ hk => hk.2))); (case aS => exact (below_size (by repeat (first | (with_reducible first | exact HB.out | apply below_alloc | apply pw_below_drewN | apply below_drew1 | refine below_set ?_ GE607.out) | exact HB.out)))); (case aL => have := LMc20.out; omega); intro v616 w47 ho hb hg hat; rw [← Ny615.out] at ho; have n0_ := Aside0.mk (Kd.R_over' (by (with_reducible repeat (first | apply Kd.R_alloc | apply Kd.R_drewN | apply Kd.R_drew)); exact HO_4.out) (Kd.R_typed (by (with_reducible repeat (first | apply Kd.R_alloc | apply Kd.R_drewN | apply Kd.R_drew)); exact HO614.out)) (by decide) hg); have n1_ := Aside0.mk (Kd.R_after (ok := (fun _ => True)) (by (with_reducible repeat (first | apply Kd.R_alloc | apply Kd.R_drewN | apply Kd.R_drew)); exact HO_5.out) hg hat); have n2_ := Aside0.mk (blk_grown (g := gb607) (o := .cells #[.int .i64 t602, .string t603] 31 (0, 0)) (by (with_reducible repeat (first | refine blk_drewN ?_ _ | refine blk_drew ?_ | refine blk_alloc ?_ _)); exact BK607.out) hg (Kd.R_ne HO614.out BK607.out (by decide))); have n3_ := Aside0.mk (hb); have n4_ := Aside0.mk (ho); clear HO_4; clear HO_5; clear BK607; clear HB; clear HO614; have HO_4 := n0_; have HO_5 := n1_; have BK607 := n2_; have HB := n3_; have HO617 := n4_; clear n0_ n1_ n2_ n3_ n4_; clear ho hb hg hat; obtain ⟨Ao49, co49, eo49⟩ := Kd.R_slice HO617.out; subst eo49) | ((with_reducible refine gate_callee (f := 39) rfl ?_); refine goesL_ (some 44) rfl rfl Try.func39 (by kernel_rfl) rfl #[.slice Ao49 y615.length co49, .int .i64 1] rfl (by (try simp only [List.map_toArray, List.map_cons, List.map_nil]); first | done | rfl | (simp only [List.length_drop, List.length_take]; rfl)) ?_; (with_reducible refine (impl_GetCommit.calls kj5 _ _ y615 1 t618 t619 t620 t623 true _ ?side1 ?side2 A21.out).mono ?_); (case side1 => repeat (first | exact (Kd.R_reads' HO617.out).2.2 | (with_reducible refine Kd.C_alloc ?_ _) | (with_reducible refine Kd.C_drewN ?_ _) | (with_reducible refine Kd.C_drew ?_))); (case side2 => exact (Kd.R_reads' HO617.out).2.1); rintro e w50 ⟨v621, rfl, ho0, hb⟩; refine ⟨_, rfl, ?_⟩; have n0_ := Aside0.mk (Kd.R_elder' (by (with_reducible repeat (first | apply Kd.R_alloc | apply Kd.R_drewN | apply Kd.R_drew)); exact HO_4.out) (Kd.R_base ho0) hb); have n1_ := Aside0.mk (Kd.R_below (by (with_reducible repeat (first | apply Kd.R_alloc | apply Kd.R_drewN | apply Kd.R_drew)); exact HO_5.out) hb); have n2_ := Aside0.mk (Kd.R_below (by (with_reducible repeat (first | apply Kd.R_alloc | apply Kd.R_drewN | apply Kd.R_drew)); exact HO617.out) hb); have n3_ := Aside0.mk (Kd.R_lower (Kd.R_new' ho0 (Kd.R_lt (by (with_reducible repeat (first | apply Kd.R_alloc | apply Kd.R_drewN | apply Kd.R_drew)); exact HO_4.out))) (below_size (by repeat (first | (with_reducible first | exact HB.out | apply below_alloc | apply pw_below_drewN | apply below_drew1 | refine below_set ?_ GE607.out) | exact HB.out)))); have n4_ := Aside0.mk (blk_below (g := gb607) (o := .cells #[.int .i64 t602, .string t603] 31 (0, 0)) (by (with_reducible repeat (first | refine blk_drewN ?_ _ | refine blk_drew ?_ | refine blk_alloc ?_ _)); exact BK607.out) hb); have n5_ := Aside0.mk (below_step (by repeat (first | (with_reducible first | exact HB.out | apply below_alloc | apply pw_below_drewN | apply below_drew1 | refine below_set ?_ GE607.out) | exact HB.out)) hb); clear HO_4; clear HO_5; clear HO617; clear BK607; clear HB; have HO_4 := n0_; have HO_5 := n1_; have HO617 := n2_; have HO622 := n3_; have BK607 := n4_; have HB := n5_; clear n0_ n1_ n2_ n3_ n4_ n5_; (try clear hb); (try clear hb2); (try clear hk); (try clear hi); (try clear ho0)) | ((with_reducible refine gate_dst (N := 6) rfl ?_); (try (refine gate_guard (by rfl) ?_; dsimp only)); refine box_event ?hg (N := 6) ?hd (cs := #[.int .i64 0, .string (⟨#[]⟩ : ByteArray)]) (t := 31) ?hr ?_; (case hd => rfl); (case hg => rfl); (case hr => first | (go_simp; done) | (go_simp; rfl)); intro gb625 hg w51 hbox hb; have n0_ := Aside0.mk (Kd.R_below (by (with_reducible repeat (first | apply Kd.R_alloc | apply Kd.R_drewN | apply Kd.R_drew)); exact HO_4.out) hb); have n1_ := Aside0.mk (Kd.R_below (by (with_reducible repeat (first | apply Kd.R_alloc | apply Kd.R_drewN | apply Kd.R_drew)); exact HO_5.out) hb); have n2_ := Aside0.mk (Kd.R_below (by (with_reducible repeat (first | apply Kd.R_alloc | apply Kd.R_drewN | apply Kd.R_drew)); exact HO617.out) hb); have n3_ := Aside0.mk (Kd.R_below (by (with_reducible repeat (first | apply Kd.R_alloc | apply Kd.R_drewN | apply Kd.R_drew)); exact HO622.out) hb); have n4_ := Aside0.mk (blk_below (g := gb607) (o := .cells #[.int .i64 t602, .string t603] 31 (0, 0)) (by (with_reducible repeat (first | refine blk_drewN ?_ _ | refine blk_drew ?_ | refine blk_alloc ?_ _)); exact BK607.out) hb); have n5_ := Aside0.mk (below_step (by repeat (first | (with_reducible first | exact HB.out | apply below_alloc | apply pw_below_drewN | apply below_drew1 | refine below_set ?_ GE607.out) | exact HB.out)) hb); have n6_ := Aside0.mk (hbox); have n7_ := Aside0.mk ((by rw [hg]; exact (below_size (by repeat (first | (with_reducible first | exact HB.out | apply below_alloc | apply pw_below_drewN | apply below_drew1 | refine below_set ?_ GE607.out) | exact HB.out))) : w.heap.size ≤ gb625)); have n8_ := Aside0.mk ((by rw [hg]; exact (below_size (by repeat (first | (with_reducible first | exact HB.out | apply below_alloc | apply pw_below_drewN | apply below_drew1 | refine below_set ?_ GE607.out) | exact HB.out))) : w.heap.size ≤ gb625)); have n9_ := Aside0.mk ((by rw [hg]; exact Nat.ne_of_lt (blk_lt (g := gb607) (o := .cells #[.int .i64 t602, .string t603] 31 (0, 0)) (by (with_reducible repeat (first | refine blk_drewN ?_ _ | refine blk_drew ?_ | refine blk_alloc ?_ _)); exact BK607.out)) : gb607 ≠ gb625)); have n10_ := Aside0.mk ((by rw [hg]; exact Nat.ne_of_gt (blk_lt (g := gb607) (o := .cells #[.int .i64 t602, .string t603] 31 (0, 0)) (by (with_reducible repeat (first | refine blk_drewN ?_ _ | refine blk_drew ?_ | refine blk_alloc ?_ _)); exact BK607.out)) : gb625 ≠ gb607)); clear HO_4; clear HO_5; clear HO617; clear HO622; clear BK607; clear HB; have HO_4 := n0_; have HO_5 := n1_; have HO617 := n2_; have HO622 := n3_; have BK607 := n4_; have HB := n5_; have BK625 := n6_; have GW625 := n7_; have GE625 := n8_; have NB607_625 := n9_; have NB625_607 := n10_; clear n0_ n1_ n2_ n3_ n4_ n5_ n6_ n7_ n8_ n9_ n10_; clear hb hbox hg; have hnb52 := NB625_607.out; have hnc52 := NB607_625.out; have hcz53_0 : w51.cell? ⟨gb625, 0, none⟩ = some (.int .i64 0) := (blk_cell BK625.out 0).trans rfl; have hcz53_1 : w51.cell? ⟨gb625, 1, none⟩ = some (.string (⟨#[]⟩ : ByteArray)) := (blk_cell BK625.out 1).trans rfl; have hfz53_0 := blk_frozen BK625.out 0; have hfz53_1 := blk_frozen BK625.out 1) | ((with_reducible refine gate_dst (N := 49) rfl ?_); (try (refine gate_guard (by rfl) ?_; dsimp only)); refine Kd.R_lit (Kd.int .u8) _ 5 ?hg (N := 49) ?hd (xs := ([] : List Int)) (inner := []) (ok := fun _ => True) (okp := fun _ => True) ?hr ?hp (fun _ hk => hk) trivial (Below.refl _ _) (Nat.le_refl _) (by simp) ?_; (case hd => rfl); (case hg => rfl); (case hr => first | (go_simp; done) | (go_simp; rfl)); (case hp => exact (Reps.none _ _)); intro v627 w54 ho55 hb hg_ hnew_; clear hg_ hnew_; (first | rw [← Ny626.out] at ho55 | (simp only [Int.reduceToNat] at ho55; rw [← Ny626.out] at ho55)); have n0_ := Aside0.mk (Kd.R_below (by (with_reducible repeat (first | apply Kd.R_alloc | apply Kd.R_drewN | apply Kd.R_drew)); exact (Kd.R_mono (Kd.R_far (p := ⟨gb625, 1, none⟩) (Kd.R_far (p := ⟨gb625, 0, none⟩) (Kd.R_types HO_4.out BK625.out (by decide)) (fun _ hk => hk.2) (.int .i64 t618)) (fun _ hk => hk.2) (.string t619)) (fun _ h_ => h_.1))) hb); have n1_ := Aside0.mk (Kd.R_elder' (by (with_reducible repeat (first | apply Kd.R_alloc | apply Kd.R_drewN | apply Kd.R_drew)); exact (Kd.R_mono (Kd.R_far (p := ⟨gb625, 1, none⟩) (Kd.R_far (p := ⟨gb625, 0, none⟩) (Kd.R_types HO_5.out BK625.out (by decide)) (fun _ hk => hk.2) (.int .i64 t618)) (fun _ hk => hk.2) (.string t619)) (fun _ h_ => h_.1))) (Kd.R_base ho55) hb); have n2_ := Aside0.mk (Kd.R_elder' (by (with_reducible repeat (first | apply Kd.R_alloc | apply Kd.R_drewN | apply Kd.R_drew)); exact (Kd.R_mono (Kd.R_far (p := ⟨gb625, 1, none⟩) (Kd.R_far (p := ⟨gb625, 0, none⟩) (Kd.R_types HO617.out BK625.out (by decide)) (fun _ hk => hk.2) (.int .i64 t618)) (fun _ hk => hk.2) (.string t619)) (fun _ h_ => h_.1))) (Kd.R_base ho55) hb); have n3_ := Aside0.mk (Kd.R_below (by (with_reducible repeat (first | apply Kd.R_alloc | apply Kd.R_drewN | apply Kd.R_drew)); exact (Kd.R_mono (Kd.R_far (p := ⟨gb625, 1, none⟩) (Kd.R_far (p := ⟨gb625, 0, none⟩) (Kd.R_types HO622.out BK625.out (by decide)) (fun _ hk => hk.2) (.int .i64 t618)) (fun _ hk => hk.2) (.string t619)) (fun _ h_ => h_.1))) hb); have n4_ := Aside0.mk (Kd.R_lower (Kd.R_new' (Kd.R_new' ho55 (Kd.R_lt (by (with_reducible repeat (first | apply Kd.R_alloc | apply Kd.R_drewN | apply Kd.R_drew)); exact (Kd.R_mono (Kd.R_far (p := ⟨gb625, 1, none⟩) (Kd.R_far (p := ⟨gb625, 0, none⟩) (Kd.R_types HO_5.out BK625.out (by decide)) (fun _ hk => hk.2) (.int .i64 t618)) (fun _ hk => hk.2) (.string t619)) (fun _ h_ => h_.1))))) (Kd.R_lt (by (with_reducible repeat (first | apply Kd.R_alloc | apply Kd.R_drewN | apply Kd.R_drew)); exact (Kd.R_mono (Kd.R_far (p := ⟨gb625, 1, none⟩) (Kd.R_far (p := ⟨gb625, 0, none⟩) (Kd.R_types HO617.out BK625.out (by decide)) (fun _ hk => hk.2) (.int .i64 t618)) (fun _ hk => hk.2) (.string t619)) (fun _ h_ => h_.1))))) (below_size (by repeat (first | (with_reducible first | exact HB.out | apply below_alloc | apply pw_below_drewN | apply below_drew1 | refine below_set ?_ GE607.out | refine below_set ?_ GE625.out) | exact HB.out)))); have n5_ := Aside0.mk (blk_below (g := gb607) (o := .cells #[.int .i64 t602, .string t603] 31 (0, 0)) (by (with_reducible repeat (first | refine blk_drewN ?_ _ | refine blk_drew ?_ | refine blk_alloc ?_ _)); refine blk_far ?_ NB607_625.out _; (with_reducible repeat (first | refine blk_drewN ?_ _ | refine blk_drew ?_ | refine blk_alloc ?_ _)); refine blk_far ?_ NB607_625.out _; (with_reducible repeat (first | refine blk_drewN ?_ _ | refine blk_drew ?_ | refine blk_alloc ?_ _)); exact BK607.out) hb); have n6_ := Aside0.mk (blk_below (g := gb625) (o := .cells #[.int .i64 t618, .string t619] 31 (0, 0)) (by (with_reducible repeat (first | refine blk_drewN ?_ _ | refine blk_drew ?_ | refine blk_alloc ?_ _)); refine blk_put (cs := #[.int .i64 t618, .string (⟨#[]⟩ : ByteArray)]) ?_ 1 _ rfl; (with_reducible repeat (first | refine blk_drewN ?_ _ | refine blk_drew ?_ | refine blk_alloc ?_ _)); refine blk_put (cs := #[.int .i64 0, .string (⟨#[]⟩ : ByteArray)]) ?_ 0 _ rfl; (with_reducible repeat (first | refine blk_drewN ?_ _ | refine blk_drew ?_ | refine blk_alloc ?_ _)); exact BK625.out) hb); have n7_ := Aside0.mk (below_step (by repeat (first | (with_reducible first | exact HB.out | apply below_alloc | apply pw_below_drewN | apply below_drew1 | refine below_set ?_ GE607.out | refine below_set ?_ GE625.out) | exact HB.out)) hb); clear HO_4; clear HO_5; clear HO617; clear HO622; clear BK607; clear BK625; clear HB; have HO_4 := n0_; have HO_5 := n1_; have HO617 := n2_; have HO622 := n3_; have HO628 := n4_; have BK607 := n5_; have BK625 := n6_; have HB := n7_; clear n0_ n1_ n2_ n3_ n4_ n5_ n6_ n7_; clear hb ho55) | ((with_reducible refine gate_builtin (b := .append) (xs := #[.tmp 49, .tmp 50]) rfl ?_); (try (refine gate_guard (by rfl) ?_; dsimp only)); at_builtin; refine Kd.R_append_rows (Kd.int .u8) (w0 := w) w.heap.size rfl (.tmp 49) (.tmp 50) 29 5 (.int .u8 0) 1 rfl Try.underlying29 info5 rfl (by decide) (by omega) v627 y626 t608 _ _ _ (fun k_ => some k_ ≠ (.slice Ao48 t608.length co48 : Value).ownBlock ∧ some k_ ≠ (.slice Ao49 y615.length co49 : Value).ownBlock) (fun _ => False) rfl rfl ?aO ?aR (fun _ _ h => h) (fun _ h => h.elim) ?aF ?aB ?aS ?aL ?_; (case aR => repeat (first | exact (Kd.R_reads' HO_5.out).2.2 | (with_reducible refine Kd.C_alloc ?_ _) | (with_reducible refine Kd.C_drewN ?_ _) | (with_reducible refine Kd.C_drew ?_))); (case aB => exact (by repeat (first | (with_reducible first | exact HB.out | apply below_alloc | apply pw_below_drewN | apply below_drew1 | refine below_set ?_ GE607.out | refine below_set ?_ GE625.out) | exact HB.out))); (case aF => exact (fun k_ hk => ⟨Kd.fresh' (Kd.R_lt (by (with_reducible repeat (first | apply Kd.R_alloc | apply Kd.R_drewN | apply Kd.R_drew)); exact HO_5.out)) k_ hk, Kd.fresh' (Kd.R_lt (by (with_reducible repeat (first | apply Kd.R_alloc | apply Kd.R_drewN | apply Kd.R_drew)); exact HO617.out)) k_ hk⟩)); (case aO => exact (by (with_reducible repeat (first | apply Kd.R_alloc | apply Kd.R_drewN | apply Kd.R_drew)); exact Kd.R_mono HO628.out (fun _ hk => ⟨hk.1.2, hk.2⟩))); (case aS => exact (below_size (by repeat (first | (with_reducible first | exact HB.out | apply below_alloc | apply pw_below_drewN | apply below_drew1 | refine below_set ?_ GE607.out | refine below_set ?_ GE625.out) | exact HB.out)))); (case aL => have := LMc22.out; omega); intro v630 w56 ho hb hg hat; rw [← Ny629.out] at ho; have n0_ := Aside0.mk (Kd.R_over' (by (with_reducible repeat (first | apply Kd.R_alloc | apply Kd.R_drewN | apply Kd.R_drew)); exact HO_4.out) (Kd.R_typed (by (with_reducible repeat (first | apply Kd.R_alloc | apply Kd.R_drewN | apply Kd.R_drew)); exact HO628.out)) (by decide) hg); have n1_ := Aside0.mk (Kd.R_after (ok := (fun k_ => some k_ ≠ (.slice Ao49 y615.length co49 : Value).ownBlock)) (by (with_reducible repeat (first | apply Kd.R_alloc | apply Kd.R_drewN | apply Kd.R_drew)); exact Kd.R_mono HO_5.out (fun _ hk => ⟨hk.1.2, hk.2⟩)) hg hat); have n2_ := Aside0.mk (blk_grown (g := gb607) (o := .cells #[.int .i64 t602, .string t603] 31 (0, 0)) (by (with_reducible repeat (first | refine blk_drewN ?_ _ | refine blk_drew ?_ | refine blk_alloc ?_ _)); exact BK607.out) hg (Kd.R_ne HO628.out BK607.out (by decide))); have n3_ := Aside0.mk (Kd.R_after (ok := (fun k_ => some k_ ≠ (.slice Ao48 t608.length co48 : Value).ownBlock)) (by (with_reducible repeat (first | apply Kd.R_alloc | apply Kd.R_drewN | apply Kd.R_drew)); exact HO617.out) hg hat); have n4_ := Aside0.mk (Kd.R_over' (by (with_reducible repeat (first | apply Kd.R_alloc | apply Kd.R_drewN | apply Kd.R_drew)); exact HO622.out) (Kd.R_typed (by (with_reducible repeat (first | apply Kd.R_alloc | apply Kd.R_drewN | apply Kd.R_drew)); exact HO628.out)) (by decide) hg); have n5_ := Aside0.mk (blk_grown (g := gb625) (o := .cells #[.int .i64 t618, .string t619] 31 (0, 0)) (by (with_reducible repeat (first | refine blk_drewN ?_ _ | refine blk_drew ?_ | refine blk_alloc ?_ _)); exact BK625.out) hg (Kd.R_ne HO628.out BK625.out (by decide))); have n6_ := Aside0.mk (hb); have n7_ := Aside0.mk (ho); clear HO_4; clear HO_5; clear BK607; clear HO617; clear HO622; clear BK625; clear HB; clear HO628; have HO_4 := n0_; have HO_5 := n1_; have BK607 := n2_; have HO617 := n3_; have HO622 := n4_; have BK625 := n5_; have HB := n6_; have HO631 := n7_; clear n0_ n1_ n2_ n3_ n4_ n5_ n6_ n7_; clear ho hb hg hat))
                  have n0_ := Aside0.mk (Kd.R_drew HO_4.out)
                  have n1_ := Aside0.mk (Kd.R_drew HO_5.out)
                  have n2_ := Aside0.mk (Kd.R_drew HO617.out)
                  have n3_ := Aside0.mk (Kd.R_drew HO622.out)
                  have n4_ := Aside0.mk (Kd.R_drew HO631.out)
                  have n5_ := Aside0.mk (blk_drew BK607.out)
                  have n6_ := Aside0.mk (blk_drew BK625.out)
                  have n7_ := Aside0.mk (below_drew1 HB.out)
                  clear HO_4
                  clear HO_5
                  clear HO617
                  clear HO622
                  clear HO631
                  clear BK607
                  clear BK625
                  clear HB
                  have HO_4 := n0_
                  have HO_5 := n1_
                  have HO617 := n2_
                  have HO622 := n3_
                  have HO631 := n4_
                  have BK607 := n5_
                  have BK625 := n6_
                  have HB := n7_
                  clear n0_ n1_ n2_ n3_ n4_ n5_ n6_ n7_
                  have p633 : 0 ≤ ((ji24) : Int) := of_decide_eq_true (by first | (with_reducible assumption) | assumption)
                  have q633 : (ji24) < (y629.length : Int) := of_decide_eq_true (by first | (with_reducible assumption) | assumption)
                  (try (obtain ⟨Aq_9, cq_9, eq_9⟩ := Kd.R_slice HO631.out; subst eq_9))
                  obtain ⟨ad633, e633, hx633_0⟩ := Kd.at_int (Kd.R_reads' HO631.out).2.2 (ji24) p633 q633
                  cases e633
                  replace p633 := eq_true p633
                  replace q633 := eq_true q633
                  refine start_ (n := 18) (S := fun w' => w'.cell? (ad633.add ((ji24)).toNat) = some (.int .u8 (rd y629 (ji24)))) (ds := [17]) #[false, false, false, false, false, false, false, false, false, false, false, false, false, false, false, false, false, false] (by kernel_rfl) rfl rfl (hx633_0) (fun hHeld => ?_); refine with_tabW laws_FnCommits.tab9 laws_FnCommits.bits9 (fun HT_ HW_ => ?_)
                  generalize w56.drew = w57 at HO_4 HO_5 HO617 HO622 HO631 BK607 BK625 HB hx633_0 hHeld ⊢
                  refine pure_ (i := 0) (N := some 52) (v := ?_) (a' := ?_) #[true, false, false, false, false, false, false, false, false, false, false, false, false, false, false, false, false, false] rfl rfl (any_of HT_.out (by kernel_rfl)) (fun _ _ _ h => h) (Or.inl ⟨by rfl, ?_⟩) ?_ ?_
                  rotate_left
                  ·intro w'
                   go_simp
                   with_reducible rfl
                  rotate_left
                  ·simp only [Act.put, List.setIfInBounds_toArray, List.set_cons_zero, List.set_cons_succ, i64_w, i32_w]
                   rfl
                  refine pure_ (i := 1) (N := some 53) (v := ?_) (a' := ?_) #[true, true, false, false, false, false, false, false, false, false, false, false, false, false, false, false, false, false] rfl rfl (any_of HT_.out (by kernel_rfl)) (fun _ _ _ h => h) (Or.inl ⟨by rfl, ?_⟩) ?_ ?_
                  rotate_left
                  ·intro w'
                   go_simp
                   with_reducible rfl
                  rotate_left
                  ·simp only [Act.put, List.setIfInBounds_toArray, List.set_cons_zero, List.set_cons_succ, i64_w, i32_w]
                   rfl
                  refine pure_ (i := 2) (N := some 54) (v := ?_) (a' := ?_) #[true, true, true, false, false, false, false, false, false, false, false, false, false, false, false, false, false, false] rfl rfl (any_of HT_.out (by kernel_rfl)) (fun _ _ _ h => h) (Or.inl ⟨by rfl, ?_⟩) ?_ ?_
                  rotate_left
                  ·intro w'
                   go_simp
                   with_reducible rfl
                  rotate_left
                  ·simp only [Act.put, List.setIfInBounds_toArray, List.set_cons_zero, List.set_cons_succ, i64_w, i32_w]
                   rfl
                  refine pure_ (i := 3) (N := some 55) (v := ?_) (a' := ?_) #[true, true, true, true, false, false, false, false, false, false, false, false, false, false, false, false, false, false] rfl rfl (any_of HT_.out (by kernel_rfl)) (fun _ _ _ h => h) (Or.inl ⟨by rfl, ?_⟩) ?_ ?_
                  rotate_left
                  ·intro w'
                   go_simp
                   with_reducible rfl
                  rotate_left
                  ·simp only [Act.put, List.setIfInBounds_toArray, List.set_cons_zero, List.set_cons_succ, i64_w, i32_w]
                   rfl
                  refine pure_ (i := 4) (N := some 56) (v := ?_) (a' := ?_) #[true, true, true, true, true, false, false, false, false, false, false, false, false, false, false, false, false, false] rfl rfl (any_of HT_.out (by kernel_rfl)) (fun _ _ _ h => h) (Or.inl ⟨by rfl, ?_⟩) ?_ ?_
                  rotate_left
                  ·intro w'
                   go_simp
                   with_reducible rfl
                  rotate_left
                  ·simp only [Act.put, List.setIfInBounds_toArray, List.set_cons_zero, List.set_cons_succ, i64_w, i32_w]
                   rfl
                  refine pure_ (i := 10) (N := some 62) (v := ?_) (a' := ?_) #[true, true, true, true, true, false, false, false, false, false, true, false, false, false, false, false, false, false] rfl rfl (any_of HT_.out (by kernel_rfl)) (fun _ _ _ h => h) (Or.inl ⟨by rfl, ?_⟩) ?_ ?_
                  rotate_left
                  ·intro w'
                   go_simp
                   with_reducible rfl
                  rotate_left
                  ·simp only [Act.put, List.setIfInBounds_toArray, List.set_cons_zero, List.set_cons_succ, i64_w, i32_w]
                   rfl
                  refine one_ (i := 5) (N := some 57) #[true, true, true, true, true, true, false, false, false, false, true, false, false, false, false, false, false, false] rfl rfl (one_of HT_.out (by kernel_rfl)) (by decide) (fun K hK => ?_)
                  refine goes_ Try.func40 (by kernel_rfl) rfl #[.slice A0 l0.length c0, .int .i64 2] (by rfl) rfl rfl (by (try simp only [List.map_toArray, List.map_cons, List.map_nil]); first | done | rfl | (simp only [List.length_drop, List.length_take]; rfl)) ?_
                  with_reducible refine (laws_at.calls _ _ l0 2 t632 _ ?side1 ?side2 A23.out).mono ?_
                  (case side1 => repeat (first | exact (Kd.C_below HR0.out HB.out) | (with_reducible refine Kd.C_alloc ?_ _) | (with_reducible refine Kd.C_drewN ?_ _) | (with_reducible refine Kd.C_drew ?_)))
                  (case side2 => exact HC0.out)
                  rintro e w' ⟨rfl, ⟨nd, rfl⟩⟩
                  refine ⟨_, rfl, ?_⟩
                  replace hHeld := (show (w57.drewN nd).cell? (ad633.add ((ji24)).toNat) = some (.int .u8 (rd y629 (ji24))) from hHeld)
                  have m0_ := Aside0.mk (Kd.R_drewN HO_4.out nd)
                  have m1_ := Aside0.mk (Kd.R_drewN HO_5.out nd)
                  have m2_ := Aside0.mk (Kd.R_drewN HO617.out nd)
                  have m3_ := Aside0.mk (Kd.R_drewN HO622.out nd)
                  have m4_ := Aside0.mk (Kd.R_drewN HO631.out nd)
                  have m5_ := Aside0.mk (blk_drewN BK607.out nd)
                  have m6_ := Aside0.mk (blk_drewN BK625.out nd)
                  have m7_ := Aside0.mk (pw_below_drewN HB.out nd)
                  clear HO_4 HO_5 HO617 HO622 HO631 BK607 BK625 HB hx633_0
                  have hx633_0 := hHeld
                  generalize w57.drewN nd = w57 at m0_ m1_ m2_ m3_ m4_ m5_ m6_ m7_ hx633_0 hHeld ⊢
                  have HO_4 := m0_
                  have HO_5 := m1_
                  have HO617 := m2_
                  have HO622 := m3_
                  have HO631 := m4_
                  have BK607 := m5_
                  have BK625 := m6_
                  have HB := m7_
                  clear m0_ m1_ m2_ m3_ m4_ m5_ m6_ m7_
                  obtain ⟨Ao58, co58, eo58⟩ := Kd.R_slice HO631.out
                  (first | subst eo58 | (injection eo58 with f1_ f2_ f3_; have f4_ := f1_.symm; have f5_ := f3_.symm; clear f1_ f2_ f3_; subst f4_; subst f5_))
                  refine hK.out _ _ (hHeld) (fun hHeld => ?_)
                  clear hK K
                  refine norm_ (a' := ?_) ?_ ?_
                  rotate_left
                  ·show Act.put _ (some 57) _ = _
                   simp only [Act.put, List.setIfInBounds_toArray, List.set_cons_zero, List.set_cons_succ, i64_w, i32_w]
                   rfl
                  refine pure_ (i := 6) (N := some 58) (v := ?_) (a' := ?_) #[true, true, true, true, true, true, true, false, false, false, true, false, false, false, false, false, false, false] rfl rfl (any_of HT_.out (by kernel_rfl)) (fun _ _ _ h => h) (Or.inl ⟨by rfl, ?_⟩) ?_ ?_
                  rotate_left
                  ·intro w'
                   go_simp
                   with_reducible rfl
                  rotate_left
                  ·simp only [Act.put, List.setIfInBounds_toArray, List.set_cons_zero, List.set_cons_succ, i64_w, i32_w]
                   rfl
                  refine pure_ (i := 7) (N := some 59) (v := ?_) (a' := ?_) #[true, true, true, true, true, true, true, true, false, false, true, false, false, false, false, false, false, false] rfl rfl (any_of HT_.out (by kernel_rfl)) (fun _ _ _ h => h) (Or.inl ⟨by rfl, ?_⟩) ?_ ?_
                  rotate_left
                  ·intro w'
                   go_simp
                   with_reducible rfl
                  rotate_left
                  ·simp only [Act.put, List.setIfInBounds_toArray, List.set_cons_zero, List.set_cons_succ, i64_w, i32_w]
                   rfl
                  refine pure_ (i := 8) (N := some 60) (v := ?_) (a' := ?_) #[true, true, true, true, true, true, true, true, true, false, true, false, false, false, false, false, false, false] rfl rfl (any_of HT_.out (by kernel_rfl)) (fun _ _ _ h => h) (Or.inl ⟨by rfl, ?_⟩) ?_ ?_
                  rotate_left
                  ·intro w'
                   go_simp
                   with_reducible rfl
                  rotate_left
                  ·simp only [Act.put, List.setIfInBounds_toArray, List.set_cons_zero, List.set_cons_succ, i64_w, i32_w]
                   rfl
                  refine take_ (i := 9) (N := some 61) (v := ?_) (a' := ?_) #[true, true, true, true, true, true, true, true, true, true, true, false, false, false, false, false, false, false] rfl rfl (take_ofW HT_.out HW_.out (by kernel_rfl)) (fun _ _ _ h => h) (Or.inl ⟨by rfl, ?_⟩) hHeld ?_ ?_
                  rotate_left
                  ·intro w' s0
                   go_simp
                   with_reducible rfl
                  rotate_left
                  ·simp only [Act.put, List.setIfInBounds_toArray, List.set_cons_zero, List.set_cons_succ, i64_w, i32_w]
                   rfl
                  refine one_ (i := 11) (N := some 63) #[true, true, true, true, true, true, true, true, true, true, true, true, false, false, false, false, false, false] rfl rfl (one_of HT_.out (by kernel_rfl)) (by decide) (fun K hK => ?_)
                  refine goes_ Try.func40 (by kernel_rfl) rfl #[.slice A0 l0.length c0, .int .i64 3] (by rfl) rfl rfl (by (try simp only [List.map_toArray, List.map_cons, List.map_nil]); first | done | rfl | (simp only [List.length_drop, List.length_take]; rfl)) ?_
                  with_reducible refine (laws_at.calls _ _ l0 3 t634 _ ?side1 ?side2 A27.out).mono ?_
                  (case side1 => repeat (first | exact (Kd.C_below HR0.out (by repeat (first | (with_reducible first | exact HB.out | apply below_alloc | apply pw_below_drewN | apply below_drew1 | refine below_set ?_ GE607.out | refine below_set ?_ GE625.out) | exact HB.out))) | (with_reducible refine Kd.C_alloc ?_ _) | (with_reducible refine Kd.C_drewN ?_ _) | (with_reducible refine Kd.C_drew ?_)))
                  (case side2 => exact HC0.out)
                  rintro e w' ⟨rfl, ⟨nd, rfl⟩⟩
                  refine ⟨_, rfl, ?_⟩
                  replace hHeld := (show (w57.drewN nd).cell? (ad633.add ((ji24)).toNat) = some (.int .u8 (rd y629 (ji24))) from hHeld)
                  have m0_ := Aside0.mk (Kd.R_drewN HO_4.out nd)
                  have m1_ := Aside0.mk (Kd.R_drewN HO_5.out nd)
                  have m2_ := Aside0.mk (Kd.R_drewN HO617.out nd)
                  have m3_ := Aside0.mk (Kd.R_drewN HO622.out nd)
                  have m4_ := Aside0.mk (Kd.R_drewN HO631.out nd)
                  have m5_ := Aside0.mk (blk_drewN BK607.out nd)
                  have m6_ := Aside0.mk (blk_drewN BK625.out nd)
                  have m7_ := Aside0.mk (pw_below_drewN HB.out nd)
                  clear HO_4 HO_5 HO617 HO622 HO631 BK607 BK625 HB hx633_0
                  have hx633_0 := hHeld
                  generalize w57.drewN nd = w57 at m0_ m1_ m2_ m3_ m4_ m5_ m6_ m7_ hx633_0 hHeld ⊢
                  have HO_4 := m0_
                  have HO_5 := m1_
                  have HO617 := m2_
                  have HO622 := m3_
                  have HO631 := m4_
                  have BK607 := m5_
                  have BK625 := m6_
                  have HB := m7_
                  clear m0_ m1_ m2_ m3_ m4_ m5_ m6_ m7_
                  have p31 : 0 ≤ ((ji24) : Int) := of_decide_eq_true (by first | (with_reducible assumption) | assumption)
                  have q31 : ((ji24) : Int) < ((y629.length : Int) : Int) := of_decide_eq_true (by first | (with_reducible assumption) | assumption)
                  obtain ⟨go31, co31, eo31, gb31, gl31, cl31, HG31⟩ := Kd.R_form HO631.out (by omega)
                  (first | cases eo31 | (injection eo31 with ea_ en_ ec_; (first | subst ea_ | (injection ea_ with ea_; subst ea_)); subst ec_; clear en_))
                  have GB31 := Aside0.mk gb31
                  have GG31 := Aside0.mk HG31
                  clear gb31 gl31 HG31
                  (first | simp only [add_plain] at hx633_0 | skip)
                  obtain ⟨hx31_0, hf31_0⟩ := Kd.R_celln 0 HO631.out ((ji24) : Int) p31 q31
                  replace p31 := eq_true p31
                  replace q31 := eq_true q31
                  have HP59 := Kd.R_putn HO631.out ((ji24) : Int) (Go.bits .xor .u8 (rd y629 (ji24)) (ji30))
                  rw [← Ny635.out] at HP59
                  have HQ59 := Aside0.mk HP59
                  clear HP59
                  refine hK.out _ _ (hHeld) (fun hHeld => ?_)
                  clear hK K
                  refine norm_ (a' := ?_) ?_ ?_
                  rotate_left
                  ·show Act.put _ (some 63) _ = _
                   simp only [Act.put, List.setIfInBounds_toArray, List.set_cons_zero, List.set_cons_succ, i64_w, i32_w]
                   rfl
                  refine pure_ (i := 12) (N := some 64) (v := ?_) (a' := ?_) #[true, true, true, true, true, true, true, true, true, true, true, true, true, false, false, false, false, false] rfl rfl (any_of HT_.out (by kernel_rfl)) (fun _ _ _ h => h) (Or.inl ⟨by rfl, ?_⟩) ?_ ?_
                  rotate_left
                  ·intro w'
                   go_simp
                   with_reducible rfl
                  rotate_left
                  ·simp only [Act.put, List.setIfInBounds_toArray, List.set_cons_zero, List.set_cons_succ, i64_w, i32_w]
                   rfl
                  refine pure_ (i := 13) (N := some 65) (v := ?_) (a' := ?_) #[true, true, true, true, true, true, true, true, true, true, true, true, true, true, false, false, false, false] rfl rfl (any_of HT_.out (by kernel_rfl)) (fun _ _ _ h => h) (Or.inl ⟨by rfl, ?_⟩) ?_ ?_
                  rotate_left
                  ·intro w'
                   go_simp
                   with_reducible rfl
                  rotate_left
                  ·simp only [Act.put, List.setIfInBounds_toArray, List.set_cons_zero, List.set_cons_succ, i64_w, i32_w]
                   rfl
                  refine pure_ (i := 14) (N := some 66) (v := ?_) (a' := ?_) #[true, true, true, true, true, true, true, true, true, true, true, true, true, true, true, false, false, false] rfl rfl (any_of HT_.out (by kernel_rfl)) (fun _ _ _ h => h) (Or.inl ⟨by rfl, ?_⟩) ?_ ?_
                  rotate_left
                  ·intro w'
                   go_simp
                   with_reducible rfl
                  rotate_left
                  ·simp only [Act.put, List.setIfInBounds_toArray, List.set_cons_zero, List.set_cons_succ, i64_w, i32_w]
                   rfl
                  refine pure_ (i := 15) (N := some 67) (v := ?_) (a' := ?_) #[true, true, true, true, true, true, true, true, true, true, true, true, true, true, true, true, false, false] rfl rfl (any_of HT_.out (by kernel_rfl)) (fun _ _ _ h => h) (Or.inl ⟨by rfl, ?_⟩) ?_ ?_
                  rotate_left
                  ·intro w'
                   go_simp
                   with_reducible rfl
                  rotate_left
                  ·simp only [Act.put, List.setIfInBounds_toArray, List.set_cons_zero, List.set_cons_succ, i64_w, i32_w]
                   rfl
                  refine pure_ (i := 16) (N := some 68) (v := ?_) (a' := ?_) #[true, true, true, true, true, true, true, true, true, true, true, true, true, true, true, true, true, false] rfl rfl (any_of HT_.out (by kernel_rfl)) (fun _ _ _ h => h) (Or.inl ⟨by rfl, ?_⟩) ?_ ?_
                  rotate_left
                  ·intro w'
                   go_simp
                   with_reducible rfl
                  rotate_left
                  ·simp only [Act.put, List.setIfInBounds_toArray, List.set_cons_zero, List.set_cons_succ, i64_w, i32_w]
                   rfl
                  refine last_ (i := 17) (N := none) #[true, true, true, true, true, true, true, true, true, true, true, true, true, true, true, true, true, true] rfl rfl (one_of HT_.out (by kernel_rfl)) (by decide) (fun K hK => ?_)
                  refine skip_ (w1 := ?_) (by rfl) rfl ?_ ?_
                  rotate_left
                  ·go_simp
                   rfl
                  refine hK.out _ _ ?_
                  clear hK K
                  refine done_ (done_of HT_.out (by kernel_rfl)) ?_
                  have n0_ : Aside0 (Kd.R Kd.string 9 (w57.setCell ⟨go31, ((ji24) : Int).toNat, none⟩ (.int .u8 (Go.bits .xor .u8 (rd y629 (ji24)) (ji30)))) w.heap.size (fun k_ => some k_ ≠ (v621 : Value).ownBlock) (.slice Ao10 t604.length co10) t604) := ⟨by (with_reducible repeat (first | apply Kd.R_alloc | apply Kd.R_drewN | apply Kd.R_drew)); exact Kd.R_mono (Kd.R_far (p := ⟨go31, ((ji24) : Int).toNat, none⟩) (Kd.R_types HO_4.out GG31.out (by decide)) (fun _ hk => hk.2) (.int .u8 (Go.bits .xor .u8 (rd y629 (ji24)) (ji30)))) (fun _ hk => hk.1.2)⟩
                  have n1_ : Aside0 (Kd.R (Kd.int .u8) 5 (w57.setCell ⟨go31, ((ji24) : Int).toNat, none⟩ (.int .u8 (Go.bits .xor .u8 (rd y629 (ji24)) (ji30)))) w.heap.size (fun k_ => some k_ ≠ (.slice Ao49 y615.length co49 : Value).ownBlock ∧ some k_ ≠ (.slice (some ⟨go31, 0, none⟩) y629.length co58 : Value).ownBlock) (.slice Ao48 t608.length co48) t608) := ⟨by (with_reducible repeat (first | apply Kd.R_alloc | apply Kd.R_drewN | apply Kd.R_drew)); exact Kd.R_mono (Kd.R_far (p := ⟨go31, ((ji24) : Int).toNat, none⟩) (Kd.R_mono HO_5.out (fun k_ hk => (⟨hk, fun e_ => hk.2 (by rw [e_]; rfl)⟩ : _ ∧ k_ ≠ go31))) (fun _ hk => hk.2) (.int .u8 (Go.bits .xor .u8 (rd y629 (ji24)) (ji30)))) (fun _ hk => ⟨hk.1.1, hk.1.2⟩)⟩
                  have n2_ : Aside0 (Kd.R (Kd.int .u8) 5 (w57.setCell ⟨go31, ((ji24) : Int).toNat, none⟩ (.int .u8 (Go.bits .xor .u8 (rd y629 (ji24)) (ji30)))) w.heap.size (fun k_ => some k_ ≠ (.slice Ao48 t608.length co48 : Value).ownBlock ∧ some k_ ≠ (.slice (some ⟨go31, 0, none⟩) y629.length co58 : Value).ownBlock) (.slice Ao49 y615.length co49) y615) := ⟨by (with_reducible repeat (first | apply Kd.R_alloc | apply Kd.R_drewN | apply Kd.R_drew)); exact Kd.R_mono (Kd.R_far (p := ⟨go31, ((ji24) : Int).toNat, none⟩) (Kd.R_mono HO617.out (fun k_ hk => (⟨hk, fun e_ => hk.2 (by rw [e_]; rfl)⟩ : _ ∧ k_ ≠ go31))) (fun _ hk => hk.2) (.int .u8 (Go.bits .xor .u8 (rd y629 (ji24)) (ji30)))) (fun _ hk => ⟨hk.1.1, hk.1.2⟩)⟩
                  have n3_ : Aside0 (Kd.R Kd.string 9 (w57.setCell ⟨go31, ((ji24) : Int).toNat, none⟩ (.int .u8 (Go.bits .xor .u8 (rd y629 (ji24)) (ji30)))) w.heap.size (fun k_ => some k_ ≠ (.slice Ao10 t604.length co10 : Value).ownBlock) v621 t620) := ⟨by (with_reducible repeat (first | apply Kd.R_alloc | apply Kd.R_drewN | apply Kd.R_drew)); exact Kd.R_mono (Kd.R_far (p := ⟨go31, ((ji24) : Int).toNat, none⟩) (Kd.R_types HO622.out GG31.out (by decide)) (fun _ hk => hk.2) (.int .u8 (Go.bits .xor .u8 (rd y629 (ji24)) (ji30)))) (fun _ hk => hk.1.2)⟩
                  have n4_ : Aside0 (Kd.R (Kd.int .u8) 5 (w57.setCell ⟨go31, ((ji24) : Int).toNat, none⟩ (.int .u8 (Go.bits .xor .u8 (rd y629 (ji24)) (ji30)))) w.heap.size (fun k_ => some k_ ≠ (.slice Ao48 t608.length co48 : Value).ownBlock ∧ some k_ ≠ (.slice Ao49 y615.length co49 : Value).ownBlock) (.slice (some ⟨go31, 0, none⟩) y629.length co58) y635) := ⟨by (with_reducible repeat (first | apply Kd.R_alloc | apply Kd.R_drewN | apply Kd.R_drew)); exact HQ59.out⟩
                  have n5_ : Aside0 ((w57.setCell ⟨go31, ((ji24) : Int).toNat, none⟩ (.int .u8 (Go.bits .xor .u8 (rd y629 (ji24)) (ji30)))).heap[gb607]? = some (.cells #[.int .i64 t602, .string t603] 31 (0, 0))) := ⟨by (with_reducible repeat (first | refine blk_drewN ?_ _ | refine blk_drew ?_ | refine blk_alloc ?_ _)); refine blk_far ?_ (by have h_ := Kd.R_ne HO631.out BK607.out (by decide); intro e_; exact h_ (by rw [e_]; rfl)) _; (with_reducible repeat (first | refine blk_drewN ?_ _ | refine blk_drew ?_ | refine blk_alloc ?_ _)); exact BK607.out⟩
                  have n6_ : Aside0 ((w57.setCell ⟨go31, ((ji24) : Int).toNat, none⟩ (.int .u8 (Go.bits .xor .u8 (rd y629 (ji24)) (ji30)))).heap[gb625]? = some (.cells #[.int .i64 t618, .string t619] 31 (0, 0))) := ⟨by (with_reducible repeat (first | refine blk_drewN ?_ _ | refine blk_drew ?_ | refine blk_alloc ?_ _)); refine blk_far ?_ (by have h_ := Kd.R_ne HO631.out BK625.out (by decide); intro e_; exact h_ (by rw [e_]; rfl)) _; (with_reducible repeat (first | refine blk_drewN ?_ _ | refine blk_drew ?_ | refine blk_alloc ?_ _)); exact BK625.out⟩
                  have n7_ : Aside0 (Below w.heap.size w (w57.setCell ⟨go31, ((ji24) : Int).toNat, none⟩ (.int .u8 (Go.bits .xor .u8 (rd y629 (ji24)) (ji30))))) := ⟨by repeat (first | (with_reducible first | exact HB.out | apply below_alloc | apply pw_below_drewN | apply below_drew1 | refine below_set ?_ GB31.out | refine below_set ?_ GE607.out | refine below_set ?_ GE625.out) | exact HB.out)⟩
                  (try clear HO_4)
                  (try clear HO_5)
                  (try clear HO617)
                  (try clear HO622)
                  (try clear HO631)
                  (try clear BK607)
                  (try clear BK625)
                  (try clear HB)
                  generalize (w57.setCell ⟨go31, ((ji24) : Int).toNat, none⟩ (.int .u8 (Go.bits .xor .u8 (rd y629 (ji24)) (ji30)))) = w60 at n0_ n1_ n2_ n3_ n4_ n5_ n6_ n7_ ⊢
                  have HO_4 := n0_
                  have HO_5 := n1_
                  have HO617 := n2_
                  have HO622 := n3_
                  have HO631 := n4_
                  have BK607 := n5_
                  have BK625 := n6_
                  have HB := n7_
                  clear n0_ n1_ n2_ n3_ n4_ n5_ n6_ n7_
                  try go_wp2_with (first | ((with_reducible refine gate_callee (f := 39) rfl ?_); refine goesL_ (some 71) rfl rfl Try.func39 (by kernel_rfl) rfl #[.slice (some ⟨go31, 0, none⟩) y635.length co58, .int .i64 0] rfl (by (try simp only [List.map_toArray, List.map_cons, List.map_nil]); first | done | (rw [show y635.length = y629.length from (Kd.R_reads' HO631.out).1.symm] <;> rfl) | rfl | (simp only [List.length_drop, List.length_take]; rfl)) ?_; (with_reducible refine (impl_GetCommit.calls kj5 _ _ y635 0 t636 t637 t638 t641 false _ ?side1 ?side2 A32.out).mono ?_); (case side1 => repeat (first | exact (Kd.R_reads' HO631.out).2.2 | (with_reducible refine Kd.C_alloc ?_ _) | (with_reducible refine Kd.C_drewN ?_ _) | (with_reducible refine Kd.C_drew ?_))); (case side2 => rw [show y635.length = y629.length from (Kd.R_reads' HO631.out).1.symm]; exact (Kd.R_reads' HO631.out).2.1); rintro e w61 ⟨v639, rfl, ho0, hb⟩; refine ⟨_, rfl, ?_⟩; have n0_ := Aside0.mk (Kd.R_elder' (by (with_reducible repeat (first | apply Kd.R_alloc | apply Kd.R_drewN | apply Kd.R_drew)); exact HO_4.out) (Kd.R_base ho0) hb); have n1_ := Aside0.mk (Kd.R_below (by (with_reducible repeat (first | apply Kd.R_alloc | apply Kd.R_drewN | apply Kd.R_drew)); exact HO_5.out) hb); have n2_ := Aside0.mk (Kd.R_below (by (with_reducible repeat (first | apply Kd.R_alloc | apply Kd.R_drewN | apply Kd.R_drew)); exact HO617.out) hb); have n3_ := Aside0.mk (Kd.R_elder' (by (with_reducible repeat (first | apply Kd.R_alloc | apply Kd.R_drewN | apply Kd.R_drew)); exact HO622.out) (Kd.R_base ho0) hb); have n4_ := Aside0.mk (Kd.R_below (by (with_reducible repeat (first | apply Kd.R_alloc | apply Kd.R_drewN | apply Kd.R_drew)); exact HO631.out) hb); have n5_ := Aside0.mk (Kd.R_lower (Kd.R_new' (Kd.R_new' ho0 (Kd.R_lt (by (with_reducible repeat (first | apply Kd.R_alloc | apply Kd.R_drewN | apply Kd.R_drew)); exact HO_4.out))) (Kd.R_lt (by (with_reducible repeat (first | apply Kd.R_alloc | apply Kd.R_drewN | apply Kd.R_drew)); exact HO622.out))) (below_size (by repeat (first | (with_reducible first | exact HB.out | apply below_alloc | apply pw_below_drewN | apply below_drew1 | refine below_set ?_ GE607.out | refine below_set ?_ GE625.out) | exact HB.out)))); have n6_ := Aside0.mk (blk_below (g := gb607) (o := .cells #[.int .i64 t602, .string t603] 31 (0, 0)) (by (with_reducible repeat (first | refine blk_drewN ?_ _ | refine blk_drew ?_ | refine blk_alloc ?_ _)); exact BK607.out) hb); have n7_ := Aside0.mk (blk_below (g := gb625) (o := .cells #[.int .i64 t618, .string t619] 31 (0, 0)) (by (with_reducible repeat (first | refine blk_drewN ?_ _ | refine blk_drew ?_ | refine blk_alloc ?_ _)); exact BK625.out) hb); have n8_ := Aside0.mk (below_step (by repeat (first | (with_reducible first | exact HB.out | apply below_alloc | apply pw_below_drewN | apply below_drew1 | refine below_set ?_ GE607.out | refine below_set ?_ GE625.out) | exact HB.out)) hb); clear HO_4; clear HO_5; clear HO617; clear HO622; clear HO631; clear BK607; clear BK625; clear HB; have HO_4 := n0_; have HO_5 := n1_; have HO617 := n2_; have HO622 := n3_; have HO631 := n4_; have HO640 := n5_; have BK607 := n6_; have BK625 := n7_; have HB := n8_; clear n0_ n1_ n2_ n3_ n4_ n5_ n6_ n7_ n8_; (try clear hb); (try clear hb2); (try clear hk); (try clear hi); (try clear ho0)) | ((with_reducible refine gate_dst (N := 11) rfl ?_); (try (refine gate_guard (by rfl) ?_; dsimp only)); refine box_event ?hg (N := 11) ?hd (cs := #[.int .i64 0, .string (⟨#[]⟩ : ByteArray)]) (t := 31) ?hr ?_; (case hd => rfl); (case hg => rfl); (case hr => first | (go_simp; done) | (go_simp; rfl)); intro gb643 hg w62 hbox hb; have n0_ := Aside0.mk (Kd.R_below (by (with_reducible repeat (first | apply Kd.R_alloc | apply Kd.R_drewN | apply Kd.R_drew)); exact HO_4.out) hb); have n1_ := Aside0.mk (Kd.R_below (by (with_reducible repeat (first | apply Kd.R_alloc | apply Kd.R_drewN | apply Kd.R_drew)); exact HO_5.out) hb); have n2_ := Aside0.mk (Kd.R_below (by (with_reducible repeat (first | apply Kd.R_alloc | apply Kd.R_drewN | apply Kd.R_drew)); exact HO617.out) hb); have n3_ := Aside0.mk (Kd.R_below (by (with_reducible repeat (first | apply Kd.R_alloc | apply Kd.R_drewN | apply Kd.R_drew)); exact HO622.out) hb); have n4_ := Aside0.mk (Kd.R_below (by (with_reducible repeat (first | apply Kd.R_alloc | apply Kd.R_drewN | apply Kd.R_drew)); exact HO631.out) hb); have n5_ := Aside0.mk (Kd.R_below (by (with_reducible repeat (first | apply Kd.R_alloc | apply Kd.R_drewN | apply Kd.R_drew)); exact HO640.out) hb); have n6_ := Aside0.mk (blk_below (g := gb607) (o := .cells #[.int .i64 t602, .string t603] 31 (0, 0)) (by (with_reducible repeat (first | refine blk_drewN ?_ _ | refine blk_drew ?_ | refine blk_alloc ?_ _)); exact BK607.out) hb); have n7_ := Aside0.mk (blk_below (g := gb625) (o := .cells #[.int .i64 t618, .string t619] 31 (0, 0)) (by (with_reducible repeat (first | refine blk_drewN ?_ _ | refine blk_drew ?_ | refine blk_alloc ?_ _)); exact BK625.out) hb); have n8_ := Aside0.mk (below_step (by repeat (first | (with_reducible first | exact HB.out | apply below_alloc | apply pw_below_drewN | apply below_drew1 | refine below_set ?_ GE607.out | refine below_set ?_ GE625.out) | exact HB.out)) hb); have n9_ := Aside0.mk (hbox); have n10_ := Aside0.mk ((by rw [hg]; exact (below_size (by repeat (first | (with_reducible first | exact HB.out | apply below_alloc | apply pw_below_drewN | apply below_drew1 | refine below_set ?_ GE607.out | refine below_set ?_ GE625.out) | exact HB.out))) : w.heap.size ≤ gb643)); have n11_ := Aside0.mk ((by rw [hg]; exact (below_size (by repeat (first | (with_reducible first | exact HB.out | apply below_alloc | apply pw_below_drewN | apply below_drew1 | refine below_set ?_ GE607.out | refine below_set ?_ GE625.out) | exact HB.out))) : w.heap.size ≤ gb643)); have n12_ := Aside0.mk ((by rw [hg]; exact Nat.ne_of_lt (blk_lt (g := gb607) (o := .cells #[.int .i64 t602, .string t603] 31 (0, 0)) (by (with_reducible repeat (first | refine blk_drewN ?_ _ | refine blk_drew ?_ | refine blk_alloc ?_ _)); exact BK607.out)) : gb607 ≠ gb643)); have n13_ := Aside0.mk ((by rw [hg]; exact Nat.ne_of_gt (blk_lt (g := gb607) (o := .cells #[.int .i64 t602, .string t603] 31 (0, 0)) (by (with_reducible repeat (first | refine blk_drewN ?_ _ | refine blk_drew ?_ | refine blk_alloc ?_ _)); exact BK607.out)) : gb643 ≠ gb607)); have n14_ := Aside0.mk ((by rw [hg]; exact Nat.ne_of_lt (blk_lt (g := gb625) (o := .cells #[.int .i64 t618, .string t619] 31 (0, 0)) (by (with_reducible repeat (first | refine blk_drewN ?_ _ | refine blk_drew ?_ | refine blk_alloc ?_ _)); exact BK625.out)) : gb625 ≠ gb643)); have n15_ := Aside0.mk ((by rw [hg]; exact Nat.ne_of_gt (blk_lt (g := gb625) (o := .cells #[.int .i64 t618, .string t619] 31 (0, 0)) (by (with_reducible repeat (first | refine blk_drewN ?_ _ | refine blk_drew ?_ | refine blk_alloc ?_ _)); exact BK625.out)) : gb643 ≠ gb625)); clear HO_4; clear HO_5; clear HO617; clear HO622; clear HO631; clear HO640; clear BK607; clear BK625; clear HB; have HO_4 := n0_; have HO_5 := n1_; have HO617 := n2_; have HO622 := n3_; have HO631 := n4_; have HO640 := n5_; have BK607 := n6_; have BK625 := n7_; have HB := n8_; have BK643 := n9_; have GW643 := n10_; have GE643 := n11_; have NB607_643 := n12_; have NB643_607 := n13_; have NB625_643 := n14_; have NB643_625 := n15_; clear n0_ n1_ n2_ n3_ n4_ n5_ n6_ n7_ n8_ n9_ n10_ n11_ n12_ n13_ n14_ n15_; clear hb hbox hg; have hnb63 := NB643_607.out; have hnc63 := NB607_643.out; have hnb64 := NB643_625.out; have hnc64 := NB625_643.out; have hcz65_0 : w62.cell? ⟨gb643, 0, none⟩ = some (.int .i64 0) := (blk_cell BK643.out 0).trans rfl; have hcz65_1 : w62.cell? ⟨gb643, 1, none⟩ = some (.string (⟨#[]⟩ : ByteArray)) := (blk_cell BK643.out 1).trans rfl; have hfz65_0 := blk_frozen BK643.out 0; have hfz65_1 := blk_frozen BK643.out 1) | ((with_reducible refine gate_store (t := 31) (p := 11) rfl ?_); refine store_event (t := 31) (p := 11) (v := ?vo_w66) (w1 := ((w62.setCell ⟨gb643, 0, none⟩ (.int .i64 t636)).setCell ⟨gb643, 1, none⟩ (.string t637))) ?hg ?ho ?hn ?hr ?_; (case ho => rfl); (case hg => rfl); (case hn => rfl); (case hr => first | (go_simp; done) | (go_simp; rfl)); intro w66 hw; have n0_ : Aside0 (Kd.R Kd.string 9 w66 w.heap.size (fun k_ => some k_ ≠ (v621 : Value).ownBlock ∧ some k_ ≠ (v639 : Value).ownBlock) (.slice Ao10 t604.length co10) t604) := ⟨(by rw [hw]; exact (by (with_reducible repeat (first | apply Kd.R_alloc | apply Kd.R_drewN | apply Kd.R_drew)); exact Kd.R_mono (Kd.R_far (p := ⟨gb643, 1, none⟩) (Kd.R_far (p := ⟨gb643, 0, none⟩) (Kd.R_types HO_4.out BK643.out (by decide)) (fun _ hk => hk.2) (.int .i64 t636)) (fun _ hk => hk.2) (.string t637)) (fun _ hk => ⟨hk.1.1, hk.1.2⟩)))⟩; have n1_ : Aside0 (Kd.R (Kd.int .u8) 5 w66 w.heap.size (fun k_ => some k_ ≠ (.slice Ao49 y615.length co49 : Value).ownBlock ∧ some k_ ≠ (.slice (some ⟨go31, 0, none⟩) y629.length co58 : Value).ownBlock) (.slice Ao48 t608.length co48) t608) := ⟨(by rw [hw]; exact (by (with_reducible repeat (first | apply Kd.R_alloc | apply Kd.R_drewN | apply Kd.R_drew)); exact Kd.R_mono (Kd.R_far (p := ⟨gb643, 1, none⟩) (Kd.R_far (p := ⟨gb643, 0, none⟩) (Kd.R_types HO_5.out BK643.out (by decide)) (fun _ hk => hk.2) (.int .i64 t636)) (fun _ hk => hk.2) (.string t637)) (fun _ hk => ⟨hk.1.1, hk.1.2⟩)))⟩; have n2_ : Aside0 (Kd.R (Kd.int .u8) 5 w66 w.heap.size (fun k_ => some k_ ≠ (.slice Ao48 t608.length co48 : Value).ownBlock ∧ some k_ ≠ (.slice (some ⟨go31, 0, none⟩) y629.length co58 : Value).ownBlock) (.slice Ao49 y615.length co49) y615) := ⟨(by rw [hw]; exact (by (with_reducible repeat (first | apply Kd.R_alloc | apply Kd.R_drewN | apply Kd.R_drew)); exact Kd.R_mono (Kd.R_far (p := ⟨gb643, 1, none⟩) (Kd.R_far (p := ⟨gb643, 0, none⟩) (Kd.R_types HO617.out BK643.out (by decide)) (fun _ hk => hk.2) (.int .i64 t636)) (fun _ hk => hk.2) (.string t637)) (fun _ hk => ⟨hk.1.1, hk.1.2⟩)))⟩; have n3_ : Aside0 (Kd.R Kd.string 9 w66 w.heap.size (fun k_ => some k_ ≠ (.slice Ao10 t604.length co10 : Value).ownBlock ∧ some k_ ≠ (v639 : Value).ownBlock) v621 t620) := ⟨(by rw [hw]; exact (by (with_reducible repeat (first | apply Kd.R_alloc | apply Kd.R_drewN | apply Kd.R_drew)); exact Kd.R_mono (Kd.R_far (p := ⟨gb643, 1, none⟩) (Kd.R_far (p := ⟨gb643, 0, none⟩) (Kd.R_types HO622.out BK643.out (by decide)) (fun _ hk => hk.2) (.int .i64 t636)) (fun _ hk => hk.2) (.string t637)) (fun _ hk => ⟨hk.1.1, hk.1.2⟩)))⟩; have n4_ : Aside0 (Kd.R (Kd.int .u8) 5 w66 w.heap.size (fun k_ => some k_ ≠ (.slice Ao48 t608.length co48 : Value).ownBlock ∧ some k_ ≠ (.slice Ao49 y615.length co49 : Value).ownBlock) (.slice (some ⟨go31, 0, none⟩) y629.length co58) y635) := ⟨(by rw [hw]; exact (by (with_reducible repeat (first | apply Kd.R_alloc | apply Kd.R_drewN | apply Kd.R_drew)); exact Kd.R_mono (Kd.R_far (p := ⟨gb643, 1, none⟩) (Kd.R_far (p := ⟨gb643, 0, none⟩) (Kd.R_types HO631.out BK643.out (by decide)) (fun _ hk => hk.2) (.int .i64 t636)) (fun _ hk => hk.2) (.string t637)) (fun _ hk => ⟨hk.1.1, hk.1.2⟩)))⟩; have n5_ : Aside0 (Kd.R Kd.string 9 w66 w.heap.size (fun k_ => some k_ ≠ (.slice Ao10 t604.length co10 : Value).ownBlock ∧ some k_ ≠ (v621 : Value).ownBlock) v639 t638) := ⟨(by rw [hw]; exact (by (with_reducible repeat (first | apply Kd.R_alloc | apply Kd.R_drewN | apply Kd.R_drew)); exact Kd.R_mono (Kd.R_far (p := ⟨gb643, 1, none⟩) (Kd.R_far (p := ⟨gb643, 0, none⟩) (Kd.R_types HO640.out BK643.out (by decide)) (fun _ hk => hk.2) (.int .i64 t636)) (fun _ hk => hk.2) (.string t637)) (fun _ hk => ⟨hk.1.1.2, hk.1.2⟩)))⟩; have n6_ : Aside0 (w66.heap[gb607]? = some (.cells #[.int .i64 t602, .string t603] 31 (0, 0))) := ⟨(by rw [hw]; exact (by (with_reducible repeat (first | refine blk_drewN ?_ _ | refine blk_drew ?_ | refine blk_alloc ?_ _)); refine blk_far ?_ NB607_643.out _; (with_reducible repeat (first | refine blk_drewN ?_ _ | refine blk_drew ?_ | refine blk_alloc ?_ _)); refine blk_far ?_ NB607_643.out _; (with_reducible repeat (first | refine blk_drewN ?_ _ | refine blk_drew ?_ | refine blk_alloc ?_ _)); exact BK607.out))⟩; have n7_ : Aside0 (w66.heap[gb625]? = some (.cells #[.int .i64 t618, .string t619] 31 (0, 0))) := ⟨(by rw [hw]; exact (by (with_reducible repeat (first | refine blk_drewN ?_ _ | refine blk_drew ?_ | refine blk_alloc ?_ _)); refine blk_far ?_ NB625_643.out _; (with_reducible repeat (first | refine blk_drewN ?_ _ | refine blk_drew ?_ | refine blk_alloc ?_ _)); refine blk_far ?_ NB625_643.out _; (with_reducible repeat (first | refine blk_drewN ?_ _ | refine blk_drew ?_ | refine blk_alloc ?_ _)); exact BK625.out))⟩; have n8_ : Aside0 (w66.heap[gb643]? = some (.cells #[.int .i64 t636, .string t637] 31 (0, 0))) := ⟨(by rw [hw]; exact (by (with_reducible repeat (first | refine blk_drewN ?_ _ | refine blk_drew ?_ | refine blk_alloc ?_ _)); refine blk_put (cs := #[.int .i64 t636, .string (⟨#[]⟩ : ByteArray)]) ?_ 1 _ rfl; (with_reducible repeat (first | refine blk_drewN ?_ _ | refine blk_drew ?_ | refine blk_alloc ?_ _)); refine blk_put (cs := #[.int .i64 0, .string (⟨#[]⟩ : ByteArray)]) ?_ 0 _ rfl; (with_reducible repeat (first | refine blk_drewN ?_ _ | refine blk_drew ?_ | refine blk_alloc ?_ _)); exact BK643.out))⟩; have n9_ : Aside0 (Below w.heap.size w w66) := ⟨(by rw [hw]; exact (by repeat (first | (with_reducible first | exact HB.out | apply below_alloc | apply pw_below_drewN | apply below_drew1 | refine below_set ?_ GE607.out | refine below_set ?_ GE625.out | refine below_set ?_ GE643.out) | exact HB.out)))⟩; clear hw; clear HO_4; clear HO_5; clear HO617; clear HO622; clear HO631; clear HO640; clear BK607; clear BK625; clear BK643; clear HB; have HO_4 := n0_; have HO_5 := n1_; have HO617 := n2_; have HO622 := n3_; have HO631 := n4_; have HO640 := n5_; have BK607 := n6_; have BK625 := n7_; have BK643 := n8_; have HB := n9_; clear n0_ n1_ n2_ n3_ n4_ n5_ n6_ n7_ n8_ n9_) | ((with_reducible refine gate_callee (f := 40) rfl ?_); refine goesL_ (some 79) rfl rfl Try.func40 (by kernel_rfl) rfl #[.slice A0 l0.length c0, .int .i64 4] rfl (by (try simp only [List.map_toArray, List.map_cons, List.map_nil]); first | done | rfl | (simp only [List.length_drop, List.length_take]; rfl)) ?_; (with_reducible refine (laws_at.calls _ _ l0 4 t644 _ ?side1 ?side2 A33.out).mono ?_); (case side1 => repeat (first | exact (Kd.C_below HR0.out HB.out) | (with_reducible refine Kd.C_alloc ?_ _) | (with_reducible refine Kd.C_drewN ?_ _) | (with_reducible refine Kd.C_drew ?_))); (case side2 => exact HC0.out); rintro e w' ⟨rfl, ⟨nd, rfl⟩⟩; refine ⟨_, rfl, ?_⟩; (try (rw [drewN_self w66]; generalize hq_ : World.drewN w66 _ = w66; have n0_ : Aside0 (Kd.R (Kd.int .u8) 5 w66 w.heap.size (fun k_ => some k_ ≠ (.slice (some ⟨go31, 0, none⟩) y629.length co58 : Value).ownBlock ∧ some k_ ≠ (.slice Ao48 t608.length co48 : Value).ownBlock) (.slice Ao49 y615.length co49) y615) := ⟨by rw [← hq_]; exact (by (with_reducible repeat (first | apply Kd.R_alloc | apply Kd.R_drewN | apply Kd.R_drew)); exact Kd.R_mono HO617.out (fun _ hk => ⟨hk.2, hk.1⟩))⟩; have n1_ : Aside0 (Kd.R Kd.string 9 w66 w.heap.size (fun k_ => some k_ ≠ (v639 : Value).ownBlock ∧ some k_ ≠ (.slice Ao10 t604.length co10 : Value).ownBlock) v621 t620) := ⟨by rw [← hq_]; exact (by (with_reducible repeat (first | apply Kd.R_alloc | apply Kd.R_drewN | apply Kd.R_drew)); exact Kd.R_mono HO622.out (fun _ hk => ⟨hk.2, hk.1⟩))⟩; have n2_ : Aside0 (Kd.R (Kd.int .u8) 5 w66 w.heap.size (fun k_ => some k_ ≠ (.slice Ao49 y615.length co49 : Value).ownBlock ∧ some k_ ≠ (.slice Ao48 t608.length co48 : Value).ownBlock) (.slice (some ⟨go31, 0, none⟩) y629.length co58) y635) := ⟨by rw [← hq_]; exact (by (with_reducible repeat (first | apply Kd.R_alloc | apply Kd.R_drewN | apply Kd.R_drew)); exact Kd.R_mono HO631.out (fun _ hk => ⟨hk.2, hk.1⟩))⟩; have n3_ : Aside0 (Kd.R Kd.string 9 w66 w.heap.size (fun k_ => some k_ ≠ (v621 : Value).ownBlock ∧ some k_ ≠ (.slice Ao10 t604.length co10 : Value).ownBlock) v639 t638) := ⟨by rw [← hq_]; exact (by (with_reducible repeat (first | apply Kd.R_alloc | apply Kd.R_drewN | apply Kd.R_drew)); exact Kd.R_mono HO640.out (fun _ hk => ⟨hk.2, hk.1⟩))⟩; have n4_ : Aside0 (Kd.R Kd.string 9 w66 w.heap.size (fun k_ => some k_ ≠ (v621 : Value).ownBlock ∧ some k_ ≠ (v639 : Value).ownBlock) (.slice Ao10 t604.length co10) t604) := ⟨by rw [← hq_]; exact (by (with_reducible repeat (first | apply Kd.R_alloc | apply Kd.R_drewN | apply Kd.R_drew)); exact HO_4.out)⟩; have n5_ : Aside0 (Kd.R (Kd.int .u8) 5 w66 w.heap.size (fun k_ => some k_ ≠ (.slice Ao49 y615.length co49 : Value).ownBlock ∧ some k_ ≠ (.slice (some ⟨go31, 0, none⟩) y629.length co58 : Value).ownBlock) (.slice Ao48 t608.length co48) t608) := ⟨by rw [← hq_]; exact (by (with_reducible repeat (first | apply Kd.R_alloc | apply Kd.R_drewN | apply Kd.R_drew)); exact HO_5.out)⟩; have n6_ : Aside0 (w66.heap[gb607]? = some (.cells #[.int .i64 t602, .string t603] 31 (0, 0))) := ⟨by rw [← hq_]; exact (by (with_reducible repeat (first | refine blk_drewN ?_ _ | refine blk_drew ?_ | refine blk_alloc ?_ _)); exact BK607.out)⟩; have n7_ : Aside0 (w66.heap[gb625]? = some (.cells #[.int .i64 t618, .string t619] 31 (0, 0))) := ⟨by rw [← hq_]; exact (by (with_reducible repeat (first | refine blk_drewN ?_ _ | refine blk_drew ?_ | refine blk_alloc ?_ _)); exact BK625.out)⟩; have n8_ : Aside0 (w66.heap[gb643]? = some (.cells #[.int .i64 t636, .string t637] 31 (0, 0))) := ⟨by rw [← hq_]; exact (by (with_reducible repeat (first | refine blk_drewN ?_ _ | refine blk_drew ?_ | refine blk_alloc ?_ _)); exact BK643.out)⟩; have n9_ : Aside0 (Below w.heap.size w w66) := ⟨by rw [← hq_]; exact (by repeat (first | (with_reducible first | exact HB.out | apply below_alloc | apply pw_below_drewN | apply below_drew1 | refine below_set ?_ GE607.out | refine below_set ?_ GE625.out | refine below_set ?_ GE643.out) | exact HB.out))⟩; clear HO617 HO622 HO631 HO640 HO_4 HO_5 BK607 BK625 BK643 HB hq_; have HO617 := n0_; have HO622 := n1_; have HO631 := n2_; have HO640 := n3_; have HO_4 := n4_; have HO_5 := n5_; have BK607 := n6_; have BK625 := n7_; have BK643 := n8_; have HB := n9_; clear n0_ n1_ n2_ n3_ n4_ n5_ n6_ n7_ n8_ n9_)); have q67 : ((ji35) : Int) ≤ ((t608.length : Int) : Int) := of_decide_eq_true (by first | (with_reducible assumption) | assumption); obtain ⟨i067, hi067, _, hsz67, _⟩ := info_parts info5; have hroom67 : t608.length ≤ co48 := (Kd.R_reads' HO_5.out).2.1; have hC67 : Kd.C (Kd.int .u8) _ Ao48 t608.length t608 := (Kd.R_reads' HO_5.out).2.2; have hcut67 := cut_to (P := Try.prog) 29 5 .i64 Try.underlying29 hi067 Ao48 t608.length co48 (ji35) (of_decide_eq_true (by first | (with_reducible assumption) | assumption)) q67 hroom67; have hr67 := Kd.C_take (m := ((ji35) : Int).toNat) hC67 (by omega); have hy67 : y645.length = ((ji35) : Int).toNat := (by rw [Ny645.out, List.length_take]; omega); rw [← Ny645.out] at hr67; rw [← hy67] at hcut67; have HR648 := Aside0.mk hr67; have HC648 := Aside0.mk (show y645.length ≤ co48 from by omega); clear hr67 hC67 hroom67 hi067 hsz67; have KY67 := Aside0.mk hy67; clear hy67; have KL67 := Aside0.mk (show ((ji35) : Int).toNat ≤ t608.length from by omega); replace q67 := eq_true q67) | ((with_reducible refine gate_callee (f := 39) rfl ?_); refine goesL_ (some 84) rfl rfl Try.func39 (by kernel_rfl) rfl #[.slice Ao48 y645.length co48, .int .i64 0] rfl (by (try simp only [List.map_toArray, List.map_cons, List.map_nil]); first | done | rfl | (simp only [List.length_drop, List.length_take]; rfl)) ?_; (with_reducible refine (impl_GetCommit.calls kj5 _ _ y645 0 t649 t650 t651 t654 t655 _ ?side1 ?side2 A38.out).mono ?_); (case side1 => repeat (first | exact (by repeat (first | (with_reducible exact HR648.out) | (with_reducible refine Kd.C_alloc ?_ _) | (with_reducible refine Kd.C_drewN ?_ _) | (with_reducible refine Kd.C_drew ?_) | exact HR648.out)) | (with_reducible refine Kd.C_alloc ?_ _) | (with_reducible refine Kd.C_drewN ?_ _) | (with_reducible refine Kd.C_drew ?_))); (case side2 => exact HC648.out); rintro e w68 ⟨v652, rfl, ho0, hb⟩; refine ⟨_, rfl, ?_⟩; have n0_ := Aside0.mk (Kd.R_elder' (by (with_reducible repeat (first | apply Kd.R_alloc | apply Kd.R_drewN | apply Kd.R_drew)); exact HO_4.out) (Kd.R_base ho0) hb); have n1_ := Aside0.mk (Kd.R_below (by (with_reducible repeat (first | apply Kd.R_alloc | apply Kd.R_drewN | apply Kd.R_drew)); exact HO_5.out) hb); have n2_ := Aside0.mk (Kd.R_below (by (with_reducible repeat (first | apply Kd.R_alloc | apply Kd.R_drewN | apply Kd.R_drew)); exact HO617.out) hb); have n3_ := Aside0.mk (Kd.R_elder' (by (with_reducible repeat (first | apply Kd.R_alloc | apply Kd.R_drewN | apply Kd.R_drew)); exact HO622.out) (Kd.R_base ho0) hb); have n4_ := Aside0.mk (Kd.R_below (by (with_reducible repeat (first | apply Kd.R_alloc | apply Kd.R_drewN | apply Kd.R_drew)); exact HO631.out) hb); have n5_ := Aside0.mk (Kd.R_elder' (by (with_reducible repeat (first | apply Kd.R_alloc | apply Kd.R_drewN | apply Kd.R_drew)); exact HO640.out) (Kd.R_base ho0) hb); have n6_ := Aside0.mk (Kd.R_lower (Kd.R_new' (Kd.R_new' (Kd.R_new' ho0 (Kd.R_lt (by (with_reducible repeat (first | apply Kd.R_alloc | apply Kd.R_drewN | apply Kd.R_drew)); exact HO_4.out))) (Kd.R_lt (by (with_reducible repeat (first | apply Kd.R_alloc | apply Kd.R_drewN | apply Kd.R_drew)); exact HO622.out))) (Kd.R_lt (by (with_reducible repeat (first | apply Kd.R_alloc | apply Kd.R_drewN | apply Kd.R_drew)); exact HO640.out))) (below_size (by repeat (first | (with_reducible first | exact HB.out | apply below_alloc | apply pw_below_drewN | apply below_drew1 | refine below_set ?_ GE607.out | refine below_set ?_ GE625.out | refine below_set ?_ GE643.out) | exact HB.out)))); have n7_ := Aside0.mk (blk_below (g := gb607) (o := .cells #[.int .i64 t602, .string t603] 31 (0, 0)) (by (with_reducible repeat (first | refine blk_drewN ?_ _ | refine blk_drew ?_ | refine blk_alloc ?_ _)); exact BK607.out) hb); have n8_ := Aside0.mk (blk_below (g := gb625) (o := .cells #[.int .i64 t618, .string t619] 31 (0, 0)) (by (with_reducible repeat (first | refine blk_drewN ?_ _ | refine blk_drew ?_ | refine blk_alloc ?_ _)); exact BK625.out) hb); have n9_ := Aside0.mk (blk_below (g := gb643) (o := .cells #[.int .i64 t636, .string t637] 31 (0, 0)) (by (with_reducible repeat (first | refine blk_drewN ?_ _ | refine blk_drew ?_ | refine blk_alloc ?_ _)); exact BK643.out) hb); have n10_ := Aside0.mk (Kd.C_below (by repeat (first | (with_reducible exact HR648.out) | (with_reducible refine Kd.C_alloc ?_ _) | (with_reducible refine Kd.C_drewN ?_ _) | (with_reducible refine Kd.C_drew ?_) | exact HR648.out)) hb); have n11_ := Aside0.mk (below_step (by repeat (first | (with_reducible first | exact HB.out | apply below_alloc | apply pw_below_drewN | apply below_drew1 | refine below_set ?_ GE607.out | refine below_set ?_ GE625.out | refine below_set ?_ GE643.out) | exact HB.out)) hb); clear HO_4; clear HO_5; clear HO617; clear HO622; clear HO631; clear HO640; clear BK607; clear BK625; clear BK643; clear HR648; clear HB; have HO_4 := n0_; have HO_5 := n1_; have HO617 := n2_; have HO622 := n3_; have HO631 := n4_; have HO640 := n5_; have HO653 := n6_; have BK607 := n7_; have BK625 := n8_; have BK643 := n9_; have HR648 := n10_; have HB := n11_; clear n0_ n1_ n2_ n3_ n4_ n5_ n6_ n7_ n8_ n9_ n10_ n11_; (try clear hb); (try clear hb2); (try clear hk); (try clear hi); (try clear ho0)) | ((with_reducible refine gate_dst (N := 15) rfl ?_); (try (refine gate_guard (by rfl) ?_; dsimp only)); refine box_event ?hg (N := 15) ?hd (cs := #[.int .i64 0, .string (⟨#[]⟩ : ByteArray)]) (t := 31) ?hr ?_; (case hd => rfl); (case hg => rfl); (case hr => first | (go_simp; done) | (go_simp; rfl)); intro gb656 hg w69 hbox hb; have n0_ := Aside0.mk (Kd.R_below (by (with_reducible repeat (first | apply Kd.R_alloc | apply Kd.R_drewN | apply Kd.R_drew)); exact HO_4.out) hb); have n1_ := Aside0.mk (Kd.R_below (by (with_reducible repeat (first | apply Kd.R_alloc | apply Kd.R_drewN | apply Kd.R_drew)); exact HO_5.out) hb); have n2_ := Aside0.mk (Kd.R_below (by (with_reducible repeat (first | apply Kd.R_alloc | apply Kd.R_drewN | apply Kd.R_drew)); exact HO617.out) hb); have n3_ := Aside0.mk (Kd.R_below (by (with_reducible repeat (first | apply Kd.R_alloc | apply Kd.R_drewN | apply Kd.R_drew)); exact HO622.out) hb); have n4_ := Aside0.mk (Kd.R_below (by (with_reducible repeat (first | apply Kd.R_alloc | apply Kd.R_drewN | apply Kd.R_drew)); exact HO631.out) hb); have n5_ := Aside0.mk (Kd.R_below (by (with_reducible repeat (first | apply Kd.R_alloc | apply Kd.R_drewN | apply Kd.R_drew)); exact HO640.out) hb); have n6_ := Aside0.mk (Kd.R_below (by (with_reducible repeat (first | apply Kd.R_alloc | apply Kd.R_drewN | apply Kd.R_drew)); exact HO653.out) hb); have n7_ := Aside0.mk (blk_below (g := gb607) (o := .cells #[.int .i64 t602, .string t603] 31 (0, 0)) (by (with_reducible repeat (first | refine blk_drewN ?_ _ | refine blk_drew ?_ | refine blk_alloc ?_ _)); exact BK607.out) hb); have n8_ := Aside0.mk (blk_below (g := gb625) (o := .cells #[.int .i64 t618, .string t619] 31 (0, 0)) (by (with_reducible repeat (first | refine blk_drewN ?_ _ | refine blk_drew ?_ | refine blk_alloc ?_ _)); exact BK625.out) hb); have n9_ := Aside0.mk (blk_below (g := gb643) (o := .cells #[.int .i64 t636, .string t637] 31 (0, 0)) (by (with_reducible repeat (first | refine blk_drewN ?_ _ | refine blk_drew ?_ | refine blk_alloc ?_ _)); exact BK643.out) hb); have n10_ := Aside0.mk (Kd.C_below (by repeat (first | (with_reducible exact HR648.out) | (with_reducible refine Kd.C_alloc ?_ _) | (with_reducible refine Kd.C_drewN ?_ _) | (with_reducible refine Kd.C_drew ?_) | exact HR648.out)) hb); have n11_ := Aside0.mk (below_step (by repeat (first | (with_reducible first | exact HB.out | apply below_alloc | apply pw_below_drewN | apply below_drew1 | refine below_set ?_ GE607.out | refine below_set ?_ GE625.out | refine below_set ?_ GE643.out) | exact HB.out)) hb); have n12_ := Aside0.mk (hbox); have n13_ := Aside0.mk ((by rw [hg]; exact (below_size (by repeat (first | (with_reducible first | exact HB.out | apply below_alloc | apply pw_below_drewN | apply below_drew1 | refine below_set ?_ GE607.out | refine below_set ?_ GE625.out | refine below_set ?_ GE643.out) | exact HB.out))) : w.heap.size ≤ gb656)); have n14_ := Aside0.mk ((by rw [hg]; exact (below_size (by repeat (first | (with_reducible first | exact HB.out | apply below_alloc | apply pw_below_drewN | apply below_drew1 | refine below_set ?_ GE607.out | refine below_set ?_ GE625.out | refine below_set ?_ GE643.out) | exact HB.out))) : w.heap.size ≤ gb656)); have n15_ := Aside0.mk ((by rw [hg]; exact Nat.ne_of_lt (blk_lt (g := gb607) (o := .cells #[.int .i64 t602, .string t603] 31 (0, 0)) (by (with_reducible repeat (first | refine blk_drewN ?_ _ | refine blk_drew ?_ | refine blk_alloc ?_ _)); exact BK607.out)) : gb607 ≠ gb656)); have n16_ := Aside0.mk ((by rw [hg]; exact Nat.ne_of_gt (blk_lt (g := gb607) (o := .cells #[.int .i64 t602, .string t603] 31 (0, 0)) (by (with_reducible repeat (first | refine blk_drewN ?_ _ | refine blk_drew ?_ | refine blk_alloc ?_ _)); exact BK607.out)) : gb656 ≠ gb607)); have n17_ := Aside0.mk ((by rw [hg]; exact Nat.ne_of_lt (blk_lt (g := gb625) (o := .cells #[.int .i64 t618, .string t619] 31 (0, 0)) (by (with_reducible repeat (first | refine blk_drewN ?_ _ | refine blk_drew ?_ | refine blk_alloc ?_ _)); exact BK625.out)) : gb625 ≠ gb656)); have n18_ := Aside0.mk ((by rw [hg]; exact Nat.ne_of_gt (blk_lt (g := gb625) (o := .cells #[.int .i64 t618, .string t619] 31 (0, 0)) (by (with_reducible repeat (first | refine blk_drewN ?_ _ | refine blk_drew ?_ | refine blk_alloc ?_ _)); exact BK625.out)) : gb656 ≠ gb625)); have n19_ := Aside0.mk ((by rw [hg]; exact Nat.ne_of_lt (blk_lt (g := gb643) (o := .cells #[.int .i64 t636, .string t637] 31 (0, 0)) (by (with_reducible repeat (first | refine blk_drewN ?_ _ | refine blk_drew ?_ | refine blk_alloc ?_ _)); exact BK643.out)) : gb643 ≠ gb656)); have n20_ := Aside0.mk ((by rw [hg]; exact Nat.ne_of_gt (blk_lt (g := gb643) (o := .cells #[.int .i64 t636, .string t637] 31 (0, 0)) (by (with_reducible repeat (first | refine blk_drewN ?_ _ | refine blk_drew ?_ | refine blk_alloc ?_ _)); exact BK643.out)) : gb656 ≠ gb643)); clear HO_4; clear HO_5; clear HO617; clear HO622; clear HO631; clear HO640; clear HO653; clear BK607; clear BK625; clear BK643; clear HR648; clear HB; have HO_4 := n0_; have HO_5 := n1_; have HO617 := n2_; have HO622 := n3_; have HO631 := n4_; have HO640 := n5_; have HO653 := n6_; have BK607 := n7_; have BK625 := n8_; have BK643 := n9_; have HR648 := n10_; have HB := n11_; have BK656 := n12_; have GW656 := n13_; have GE656 := n14_; have NB607_656 := n15_; have NB656_607 := n16_; have NB625_656 := n17_; have NB656_625 := n18_; have NB643_656 := n19_; have NB656_643 := n20_; clear n0_ n1_ n2_ n3_ n4_ n5_ n6_ n7_ n8_ n9_ n10_ n11_ n12_ n13_ n14_ n15_ n16_ n17_ n18_ n19_ n20_; clear hb hbox hg; have hnb70 := NB656_607.out; have hnc70 := NB607_656.out; have hnb71 := NB656_625.out; have hnc71 := NB625_656.out; have hnb72 := NB656_643.out; have hnc72 := NB643_656.out; have hcz73_0 : w69.cell? ⟨gb656, 0, none⟩ = some (.int .i64 0) := (blk_cell BK656.out 0).trans rfl; have hcz73_1 : w69.cell? ⟨gb656, 1, none⟩ = some (.string (⟨#[]⟩ : ByteArray)) := (blk_cell BK656.out 1).trans rfl; have hfz73_0 := blk_frozen BK656.out 0; have hfz73_1 := blk_frozen BK656.out 1; have hcz74_0 : w69.cell? ⟨gb625, 0, none⟩ = some (.int .i64 t618) := (blk_cell BK625.out 0).trans rfl; have hcz74_1 : w69.cell? ⟨gb625, 1, none⟩ = some (.string t619) := (blk_cell BK625.out 1).trans rfl; have hfz74_0 := blk_frozen BK625.out 0; have hfz74_1 := blk_frozen BK625.out 1; have hcz75_0 : w69.cell? ⟨gb607, 0, none⟩ = some (.int .i64 t602) := (blk_cell BK607.out 0).trans rfl; have hcz75_1 : w69.cell? ⟨gb607, 1, none⟩ = some (.string t603) := (blk_cell BK607.out 1).trans rfl; have hfz75_0 := blk_frozen BK607.out 0; have hfz75_1 := blk_frozen BK607.out 1; obtain ⟨Ao76, co76, eo76⟩ := Kd.R_slice HO622.out; subst eo76) | (go_at_call 33; (with_reducible refine (laws_sameTexts.calls kj5 _ _ t620 _ _ t604 true _ ?side1 ?side2 ?side3 ?side4 A41.out).mono ?_); (case side1 => refine (Kd.R_reads' (e := 9) (base := w.heap.size) (ok := fun k_ => ((some k_ ≠ (.slice Ao10 t604.length co10 : Value).ownBlock ∧ some k_ ≠ (v639 : Value).ownBlock) ∧ some k_ ≠ (v652 : Value).ownBlock)) (n := t620.length) (c := co76) ?_).2.2; exact (by (with_reducible repeat (first | apply Kd.R_alloc | apply Kd.R_drewN | apply Kd.R_drew)); exact (Kd.R_mono (Kd.R_far (p := ⟨gb656, 1, none⟩) (Kd.R_far (p := ⟨gb656, 0, none⟩) (Kd.R_types HO622.out BK656.out (by decide)) (fun _ hk => hk.2) (.int .i64 t649)) (fun _ hk => hk.2) (.string t650)) (fun _ h_ => by first | exact h_.1 | exact ⟨⟨by first | exact h_.1.1.1 | exact h_.1.1.2 | exact h_.1.2, by first | exact h_.1.1.1 | exact h_.1.1.2 | exact h_.1.2⟩, by first | exact h_.1.1.1 | exact h_.1.1.2 | exact h_.1.2⟩)))); (case side2 => exact (Kd.R_reads' HO622.out).2.1); (case side3 => refine (Kd.R_reads' (e := 9) (base := w.heap.size) (ok := fun k_ => ((some k_ ≠ (.slice Ao76 t620.length co76 : Value).ownBlock ∧ some k_ ≠ (v639 : Value).ownBlock) ∧ some k_ ≠ (v652 : Value).ownBlock)) (n := t604.length) (c := co10) ?_).2.2; exact (by (with_reducible repeat (first | apply Kd.R_alloc | apply Kd.R_drewN | apply Kd.R_drew)); exact (Kd.R_mono (Kd.R_far (p := ⟨gb656, 1, none⟩) (Kd.R_far (p := ⟨gb656, 0, none⟩) (Kd.R_types HO_4.out BK656.out (by decide)) (fun _ hk => hk.2) (.int .i64 t649)) (fun _ hk => hk.2) (.string t650)) (fun _ h_ => by first | exact h_.1 | exact ⟨⟨by first | exact h_.1.1.1 | exact h_.1.1.2 | exact h_.1.2, by first | exact h_.1.1.1 | exact h_.1.1.2 | exact h_.1.2⟩, by first | exact h_.1.1.1 | exact h_.1.1.2 | exact h_.1.2⟩)))); (case side4 => exact (Kd.R_reads' HO_4.out).2.1); rintro e w' ⟨rfl, ⟨nd, rfl⟩⟩))
                  go_ret
                  exact ⟨by first | rfl | (simp [errW_none, errW_some] <;> rfl) | (simp only [← hji24, ← hji28, ← hji30, ← hji35]; first | rfl | (simp [errW_none, errW_some] <;> rfl)) | (simp [*, errW_none, errW_some] <;> rfl), by repeat (first | (with_reducible first | exact HB.out | apply below_alloc | apply pw_below_drewN | apply below_drew1 | refine below_set ?_ GE607.out | refine below_set ?_ GE625.out | refine below_set ?_ GE643.out | refine below_set ?_ GE656.out) | exact HB.out)⟩
                ·rw [if_neg c43] at H
                 exact absurd H (by simp)
               ·replace c42 := Bool.eq_false_iff.mpr c42
                subst c42
                have H1 : (none) = some r := by rw [if_neg (show ¬ (false = true) by decide)] at H; exact H
                clear H
                have H := H1
                clear H1
                exact absurd H (by simp)
              ·rw [if_neg c40] at H
               exact absurd H (by simp)
             ·replace c39 := Bool.eq_false_iff.mpr c39
              subst c39
              have H1 : (none) = some r := by rw [if_neg (show ¬ (false = true) by decide)] at H; exact H
              clear H
              have H := H1
              clear H1
              exact absurd H (by simp)
            ·rw [if_neg c37] at H
             exact absurd H (by simp)
           ·rw [if_neg c36] at H
            exact absurd H (by simp)
         ·rw [if_neg c29] at H
          exact absurd H (by simp)
        ·rw [if_neg c26] at H
         exact absurd H (by simp)
       ·rw [if_neg c25] at H
        exact absurd H (by simp)
      ·rw [if_neg c22] at H
       exact absurd H (by simp)
     ·rw [if_neg c20] at H
      exact absurd H (by simp)

end Go.Proofs.Ytcogimnpffnanaa.Q
end

section
/- The row of the law FnCommits out of its pure statement and the printed walk. -/
namespace Go.Proofs.Ytcogimnpffnanaa.Q
open Go.RowKit Go.Proofs.Ytcogimnpffnanaa.XO Go.Proofs.YtcogimnpffnanaaW.PrintWords Go.ChangeShapes Go.WideShapes Go.ChangeAt
set_option linter.unusedVariables false
set_option linter.unusedSimpArgs false
def laws_FnCommits.Pure : Prop := ∀ (x0 : List Int), (x0.length ≤ 9223372036854775807 ∧ ∀ y0 ∈ x0, (Lit.int .u8 y0).wf = true) → ∃ k, laws_FnCommits.f k x0 = some true
namespace RFnCommits
theorem own : ownKnob Try.prog.godebug = none := by kernel_rfl
theorem laidOut : laidOutB Try.prog = true := by kernel_rfl
set_option maxRecDepth 100000 in
theorem lifted (PU : laws_FnCommits.Pure) (os : Os) (started : os.Started) (H : Type) (enc : TypeId × Value → H) :
  ReturnsInHanded {} Try.checked os 7 .any (Rows.fnCommitsSpec.pre6 enc Try.prog Try.f7 Rows.fnCommitsRow.domain false) (Rows.fnCommitsSpec.post enc Try.prog Try.f7 false true false false) := by
 refine returnsInHanded_of_change_sized (C := Try.checked) own started (by kernel_rfl) Try.func7
  (ChangeSpec.witness6 (enc := enc) (C := Try.checked) false ⟨#[], #[.slice none 0 0], []⟩ 8 (by kernel_rfl) (by kernel_rfl) (by kernel_rfl) (by kernel_rfl)) ?_
 intro W base args ds gs before hval0 hW hcnd hsz0 _
 have hval : ∀ (j : Nat) t v, Try.f7.params[j]? = some t → args[j]? = some v → Value.okWide Try.prog W .any base t v := hval0
 have hW' := hW
 obtain ⟨p, q, hA0, hV, rfl, hfz, hnd⟩ := hW
 have hA : DataW.TrodAll enc Try.prog W 0 (fun _ => true) true Try.f7.params.toList args.toList ds p := hA0
 rw [Try.params7] at hA hval
 obtain ⟨v0, vs0, d0, ds0, p0, q0, hargs, rfl, rfl, h0, r0⟩ := trodAll_cons hA
 obtain ⟨rfl, rfl, rfl⟩ := trodAll_nil r0
 obtain rfl : args = #[v0] := by cases args; simp_all
 obtain ⟨rfl, rfl⟩ := trodVars_none hV
 have kk0 := h0
 have lt0 : ∀ x ∈ p0, x.block < W.heap.size := by obtain ⟨m, hm⟩ := kk0; exact DataW.trod_lt m _ _ _ hm
 obtain ⟨A0, len0, c0, rfl⟩ := okWide_slice Try.underlying29 (hval 0 29 v0 rfl rfl)
 obtain ⟨fu0, hf0⟩ := h0
 obtain ⟨x0, ⟨A0', c0', he0, hc0, hr0⟩, g0⟩ := (opens_slice Try.underlying29 (by kernel_rfl) (opens_int Try.underlying5)) hf0
 obtain ⟨rfl, rfl, rfl⟩ : A0 = A0' ∧ len0 = x0.length ∧ c0 = c0' := by simpa [Value.cells] using he0
 clear hA0 hval0 hsz0
 obtain ⟨k, hp⟩ := PU x0 g0
 refine (laws_FnCommits.calls k _ _ x0 true W hr0 hc0 hp).mono fun e W' ⟨he, bel0⟩ => ?_
 have bel : Below W.heap.size W W' := bel0
 subst he
 exact ⟨_, rfl, _, _, _, [], _, [], hW', trodAll_mk1 (shut_bool Try.underlying4 _), (trodAll_cons_mk (Below.trod laidOut (by kernel_rfl) (of_decide_eq_true (by kernel_rfl)) kk0 bel lt0) trodAll_mk0), rfl, bel.frame _, fun h => by cases h⟩
theorem over (PU : laws_FnCommits.Pure) : Rows.fnCommitsRow.holds Try.pinned (OpenSpec.ofChange Rows.fnCommitsSpec) :=
 OpenClaim.holds_of_wide 7 Try.f7 rfl rfl rfl rfl rfl rfl rfl ⟨rfl, rfl, rfl, rfl, rfl⟩ rfl rfl rfl rfl rfl (by kernel_rfl) Try.func7 (by kernel_rfl)
  (of_decide_eq_true (by kernel_rfl)) (by unfold Func.isWrapper; first | (rw [if_pos (by decide +kernel)]; kernel_rfl) | (rw [if_neg (by decide +kernel)]; exact ⟨rfl, rfl⟩))
  (fun os started H enc _ => lifted PU os started H enc)
end RFnCommits
theorem FnCommits_row (PU : laws_FnCommits.Pure) : Rows.FnCommitsSaid := RFnCommits.over PU
end Go.Proofs.Ytcogimnpffnanaa.Q
end

section
/- A drawn commit comes back of its bytes, wherever they stand; with its sum turned, or a byte less, it does not; no condition. -/
namespace Go.Proofs.Ytcogimnpffnanaa.Q
open Go.RowKit Go.Proofs.Ytcogimnpffnanaa.B Go.Proofs.YtcogimnpffnanaaW.PrintWords Go.Proofs.YtcogimnpffnanaaW.PrintMore
set_option linter.unusedVariables false
set_option linter.unusedSimpArgs false

set_option maxRecDepth 100000 in
theorem turn_all : ∀ x : Fin 256, ∀ e : Fin 8, Go.bits .xor .u8 (x.val : Int) (shl .u8 1 (e.val : Int)) ≠ (x.val : Int) ∧ 0 ≤ Go.bits .xor .u8 (x.val : Int) (shl .u8 1 (e.val : Int)) ∧ Go.bits .xor .u8 (x.val : Int) (shl .u8 1 (e.val : Int)) ≤ 255 := by decide +kernel
theorem turn_ne (x e : Int) (hx : 0 ≤ x ∧ x ≤ 255) (he : 0 ≤ e ∧ e ≤ 7) : Go.bits .xor .u8 x (shl .u8 1 e) ≠ x ∧ 0 ≤ Go.bits .xor .u8 x (shl .u8 1 e) ∧ Go.bits .xor .u8 x (shl .u8 1 e) ≤ 255 := by
 obtain ⟨a, rfl⟩ := Int.eq_ofNat_of_zero_le hx.1
 obtain ⟨b, rfl⟩ := Int.eq_ofNat_of_zero_le he.1
 exact turn_all ⟨a, by omega⟩ ⟨b, by omega⟩
theorem at_some (l : List Int) (hb : InB l) (hl : l.length ≤ 1048576) (i : Nat) (hi : i ≤ 100) : ∃ v, laws_at.f l (i : Int) = some v ∧ 0 ≤ v ∧ v ≤ 255 := by
 unfold laws_at.f
 by_cases h : (i : Int) < (l.length : Int)
 ·obtain ⟨c, hc⟩ := get_some (l := l) (i := i) (by omega)
  have hr := hb c (List.mem_of_getElem? hc)
  rw [if_pos h, if_pos (by omega), rd_at hc, w64 (by omega) (by omega)]
  exact ⟨c, rfl, hr⟩
 ·rw [if_neg h, w64 (x := (i : Int) * 31) (by omega) (by omega), w64 (x := (l.length : Int) * 7) (by omega) (by omega), w64 (by omega) (by omega)]
  refine ⟨_, rfl, ?_⟩
  rw [Int.tmod_eq_emod_of_nonneg (by omega)]
  omega
theorem drawPutCommit_ev (l0 : List Int) (hl : l0.length ≤ 1048576) : ∃ n s t, Ev (fun k => spec_DrawPutCommit.f k l0) (n, s, t) ∧ t.length ≤ 8 ∧ ∀ x ∈ t, x.size ≤ 3 := by
 obtain ⟨h, hN⟩ := l1New_ev l0 hl
 obtain ⟨t, i1, h1, e1, d1, hl1, hx1⟩ := l6List_ev h (Drawer.new hl)
 have hb : ∀ x ∈ t, x.size ≤ bigB := fun x hm => by
  have := hx1 x hm
  unfold bigB
  omega
 obtain ⟨o, i2, h2, e2, d2⟩ := l1Once_ok h1 8 d1 (by decide) (by decide)
 unfold spec_DrawPutCommit.f
 by_cases ho : o = true
 ·exact ⟨_, _, t, Ev.bind hN (Ev.bind e1 (Ev.bind (spec_HeadOf_ev t hb) (Ev.bind (Ev.const e2) (Ev.pos ho (Ev.now _))))), hl1, hx1⟩
 ·exact ⟨_, _, t, Ev.bind hN (Ev.bind e1 (Ev.bind (spec_HeadOf_ev t hb) (Ev.bind (Ev.const e2) (Ev.neg ho (Ev.now _))))), hl1, hx1⟩
theorem set_app {l m : List Int} {i : Nat} (v : Int) (h : l.length ≤ i) : (l ++ m).set i v = l ++ m.set (i - l.length) v := by
 rw [List.set_append_right _ _ h]
theorem total_le (t : List ByteArray) (h : ∀ x ∈ t, x.size ≤ 3) : total t ≤ 3 * t.length := by
 induction t with
 | nil => simp [total]
 | cons s t ih =>
  have := ih (fun x hx => h x (List.mem_cons_of_mem _ hx))
  have := h s (List.mem_cons_self ..)
  rw [total_cons, List.length_cons]
  omega
theorem pure_FnCommits : laws_FnCommits.Pure := by
 intro l0 gl
 refine Ev.rounds (g := fun k => laws_FnCommits.f k l0) ?_
 unfold laws_FnCommits.f laws_big.f
 simp only [Option.bind_some]
 by_cases h : (l0.length : Int) > 1048576
 ·rw [decide_eq_true h]
  exact Ev.pos rfl (Ev.now _)
 ·rw [decide_eq_false h]
  have hb0 : InB l0 := int_bytes gl.2
  obtain ⟨n, s, t, eD, ht, hx⟩ := drawPutCommit_ev l0 (by omega)
  have htt := total_le t hx
  have hx9 : ∀ x ∈ t, x.size ≤ 1000000000 := fun x hm => by
   have := hx x hm
   omega
  have hP := PutCommit_val n s t (by omega) (by omega) hx9
  have jn : ∀ b : List Int, b = [] → Ev (fun k => laws_FnCommits.j0 k l0 t b true n s) true := fun b hb => by
   subst hb
   refine Ev.step (fun k => by simp only [laws_FnCommits.j0]; rfl) ?_
   exact Ev.pos trivial (Ev.now _)
  refine Ev.neg (by simp) (Ev.bind eD (Ev.bind hP (Ev.bind (Ev.const (spec_HeadOk_eq n s)) ?_)))
  by_cases hk : headOk n s = true
  ·refine Ev.pos hk ?_
   by_cases hz : t.length = 0
   ·rw [show ((t.length : Int) == 0) = true by rw [hz]; rfl]
    exact jn _ (if_neg (fun q => by omega))
   ·rw [show ((t.length : Int) == 0) = false by rw [beq_eq_false_iff_ne]; omega]
    rw [if_pos ⟨hk, by omega, by omega⟩]
    obtain ⟨n1, n2, n3⟩ := headOk_parts hk
    obtain ⟨N, rfl⟩ := Int.eq_ofNat_of_zero_le n1
    rw [Int.toNat_natCast]
    obtain ⟨C, hC⟩ : ∃ C, commitB N s t = C := ⟨_, rfl⟩
    have hCb : InB C := by
     rw [← hC]
     exact commitB_inB _ _ _
    have hCl := commitB_length N s t
    rw [hC] at hCl
    have hBp : 1 ≤ (num (bodyB N s t).length).length := num_pos _
    have hBl : (bodyB N s t).length ≤ 2000 := by
     have h5 := num_five (show N ≤ 1000000000 by omega)
     have h6 := num_five (show s.size ≤ 1000000000 by omega)
     have h7 := num_five (show t.length ≤ 1000000000 by omega)
     have hm := manyB_length t hx9
     unfold bodyB textsB
     rw [List.length_append, List.length_append, List.length_append, textB_length]
     omega
    have hB5 := num_five (show (bodyB N s t).length ≤ 1000000000 by omega)
    rw [hC]
    -- what comes back
    have h7 : InB ([7] ++ C) := inB_app (fun x hx => by rw [List.mem_singleton.1 hx]; decide) hCb
    obtain ⟨m1, s1, t1, x1, o1, e1, _, c1, c1n⟩ := getCommitI ([7] ++ C) h7 (by rw [List.length_append]; simp; omega) 1 (by decide) (by decide)
    have hd1 : ([7] ++ C).drop 1 = commitB N s t ++ [] := by
     rw [hC, List.append_nil]
     rfl
    have ho1 : o1 = true := by
     cases o1 with
     | true => rfl
     | false => exact absurd ((c1n rfl).2.2.2.2 1 N s t [] rfl hd1 hk (by omega) (by omega) hx9) id
    subst ho1
    obtain ⟨a1, N1, ha1, rfl, _, _, hd2, rfl, _⟩ := c1 rfl
    obtain rfl : a1 = 1 := by omega
    obtain ⟨rfl, rfl, rfl, _⟩ := commitB_inj (hd2.symm.trans hd1)
    rw [hC] at e1
    -- turned
    obtain ⟨v2, q2, r2, r2'⟩ := at_some l0 hb0 (by omega) 2 (by decide)
    obtain ⟨v3, q3, r3, r3'⟩ := at_some l0 hb0 (by omega) 3 (by decide)
    obtain ⟨v4, q4, r4, r4'⟩ := at_some l0 hb0 (by omega) 4 (by decide)
    obtain ⟨I, hI⟩ : ∃ I : Nat, C.length - 1 - v2.toNat % 4 = I := ⟨_, rfl⟩
    have wI : wrap64 ((wrap64 ((C.length : Int) - 1)) - (Int.tmod v2 4)) = (I : Int) := by
     rw [Int.tmod_eq_emod_of_nonneg r2, w64 (x := (C.length : Int) - 1) (by omega) (by omega), w64 (by omega) (by omega)]
     omega
    obtain ⟨e, he⟩ : ∃ e, IntKind.u64.wrap (Int.tmod v3 8) = e := ⟨_, rfl⟩
    have her : 0 ≤ e ∧ e ≤ 7 := by
     rw [← he, u64_w, Int.tmod_eq_emod_of_nonneg r3]
     omega
    obtain ⟨y, hy⟩ := get_some (l := C) (i := I) (by omega)
    have hyr := hCb y (List.mem_of_getElem? hy)
    have hrd : rd C (I : Int) = y := rd_at hy
    obtain ⟨hne, hz0, hz1⟩ := turn_ne y e hyr her
    obtain ⟨z, hzz⟩ : ∃ z, Go.bits .xor .u8 y (shl .u8 1 e) = z := ⟨_, rfl⟩
    rw [hzz] at hne hz0 hz1
    have hTb : InB (C.set I z) := fun x hm => by
     rcases List.mem_or_eq_of_mem_set hm with hm | hm
     ·exact hCb x hm
     ·omega
    obtain ⟨m2, s2, t2, x2, o2, e2, _, c2, c2n⟩ := getCommitI (C.set I z) hTb (by rw [List.length_set]; omega) 0 (by decide) (by decide)
    have ho2 : o2 = false := by
     cases o2 with
     | false => rfl
     | true =>
      obtain ⟨a2, N2, ha2, rfl, _, _, hd3, _, _⟩ := c2 rfl
      obtain rfl : a2 = 0 := by omega
      have hset : C.set I z = num (bodyB N1 s1 t1).length ++ (bodyB N1 s1 t1 ++ (sumB (bodyB N1 s1 t1)).set (I - (num (bodyB N1 s1 t1).length).length - (bodyB N1 s1 t1).length) z) := by
       rw [← hC]
       unfold commitB
       rw [set_app z (by omega), set_app z (by omega)]
      have hd4 : C.set I z = num (bodyB N2 s2 t2).length ++ (bodyB N2 s2 t2 ++ (sumB (bodyB N2 s2 t2) ++ (C.set I z).drop (0 + (commitB N2 s2 t2).length))) := by
       have e5 : C.set I z = commitB N2 s2 t2 ++ (C.set I z).drop (0 + (commitB N2 s2 t2).length) := hd3
       unfold commitB at e5 ⊢
       simp only [List.append_assoc] at e5 ⊢
       exact e5
      obtain ⟨k1, k2⟩ := num_inj _ _ _ _ (hset.symm.trans hd4)
      obtain ⟨k3, k4⟩ := List.append_inj k2 k1
      rw [← k3] at k4
      have k5 := congrArg List.length k4
      rw [List.length_set, List.length_append] at k5
      have k6 := List.eq_nil_of_length_eq_zero (show ((C.set I z).drop (0 + (commitB N2 s2 t2).length)).length = 0 by omega)
      rw [k6, List.append_nil] at k4
      -- the element that was turned
      have g1 : C[I]? = (sumB (bodyB N1 s1 t1))[I - (num (bodyB N1 s1 t1).length).length - (bodyB N1 s1 t1).length]? := by
       rw [← hC]
       unfold commitB
       rw [List.getElem?_append_right (by omega), List.getElem?_append_right (by omega)]
      have hSl := sumB_length (bodyB N1 s1 t1)
      have g2 : (sumB (bodyB N1 s1 t1))[I - (num (bodyB N1 s1 t1).length).length - (bodyB N1 s1 t1).length]? = some z := by
       rw [← k4]
       exact List.getElem?_set_self (by omega)
      rw [hy, g2] at g1
      exact absurd (Option.some.inj g1).symm hne
    subst ho2
    -- a byte less
    obtain ⟨c, hc⟩ : ∃ c : Nat, v4.toNat % C.length = c := ⟨_, rfl⟩
    have hcl : c < C.length := by
     rw [← hc]
     exact Nat.mod_lt _ (by omega)
    have wc : Int.tmod v4 (C.length : Int) = (c : Int) := by
     rw [Int.tmod_eq_emod_of_nonneg r4, ← hc, Int.natCast_emod]
     congr 1
     omega
    obtain ⟨m3, s3, t3, x3, o3, e3, _, c3, c3n⟩ := getCommitI (C.take c) (inB_take hCb c) (by rw [List.length_take]; omega) 0 (by decide) (by decide)
    have ho3 : o3 = false := by
     cases o3 with
     | false => rfl
     | true =>
      obtain ⟨a3, N3, ha3, rfl, _, _, hd3, _, _⟩ := c3 rfl
      obtain rfl : a3 = 0 := by omega
      have e6 : C.take c = commitB N3 s3 t3 ++ (C.take c).drop (0 + (commitB N3 s3 t3).length) := hd3
      have e7 : C = commitB N3 s3 t3 ++ ((C.take c).drop (0 + (commitB N3 s3 t3).length) ++ C.drop c) := by
       rw [← List.append_assoc, ← e6, List.take_append_drop]
      obtain ⟨_, _, _, e8⟩ := commitB_inj (show commitB N3 s3 t3 ++ ((C.take c).drop (0 + (commitB N3 s3 t3).length) ++ C.drop c) = commitB N1 s1 t1 ++ [] by rw [← e7, List.append_nil, hC])
      have e9 := congrArg List.length e8
      have e10 : (C.drop c).length = C.length - c := List.length_drop
      simp only [List.length_append, List.length_nil, e10] at e9
      omega
    subst ho3
    have hS := laws_same_ev t1 t1 (by omega)
    rw [decide_eq_true rfl] at hS
    refine Ev.step (fun k => by simp only [laws_FnCommits.j0]; rfl) ?_
    refine Ev.neg (by simp) (Ev.bind (Ev.now _) (Ev.pos (by simp; omega) (Ev.bind e1 (Ev.bind (Ev.now _) (Ev.pos (by simp; omega) (Ev.bind (Ev.now _) (Ev.bind (Ev.const q2) ?_)))))))
    simp only [wI, he, hrd, hzz, List.nil_append]
    refine Ev.pos (by omega) (Ev.pos (by omega) (Ev.bind (Ev.const q3) ?_))
    simp only [he, hrd, hzz]
    refine Ev.pos her.1 (Ev.bind (f := fun k bt636 => _) (by rw [Int.toNat_natCast]; exact e2) (Ev.bind (Ev.const q4) ?_))
    simp only [wc]
    refine Ev.neg (by omega) (Ev.pos (by omega) (Ev.pos (by omega) (Ev.bind (by rw [Int.toNat_natCast]; exact e3) ?_)))
    refine Ev.pos (by simp) (Ev.pos (by simp) (Ev.bind hS (Ev.pos (by simp) (Ev.pos ?_ (Ev.neg (by simp) (Ev.now _))))))
    rw [w64 (by omega) (by omega)]
    omega
  ·refine Ev.neg hk ?_
   exact jn _ (if_neg (fun q => hk q.1))
end Go.Proofs.Ytcogimnpffnanaa.Q
namespace Go.Proofs.Ytcogimnpffnanaa
theorem fnCommits_holds : Rows.FnCommitsSaid := Q.FnCommits_row Q.pure_FnCommits
end Go.Proofs.Ytcogimnpffnanaa
end
