-- Joined by a program of this session (wip/tools/merge.py): texts of mine and of pp.sh.
import Derived.Test.YtoipfpjcpngpfaaJFnEdgesRight4
import Derived.Test.YtoipfpjcpngpfaaJB3
import Derived.Test.YtoipfpjcpngpfaaWWords
import Derived.Deep.Slices
import Derived.ChangeArms
import Derived.Test.YtoipfpjcpngpfaaRows
import Derived.WalkKit
import Derived.ProofKit
import Derived.OpenShut
import Derived.ShutString
import Derived.ChangeOld
import Derived.Below
import Derived.SizedLaws
import Derived.Carry
section
-- Written by a program of this session (wip/tools/pp.sh) over the print of the kit.
namespace Go.Proofs.Ytoipfpjcpngpfaa.Q
open Go.RowKit Go.Proofs.YtoipfpjcpngpfaaW.PrintWords Go.Proofs.YtoipfpjcpngpfaaW.PrintLast Go.Proofs.YtoipfpjcpngpfaaW.PrintMore
attribute [local go_sem] max2_int min2_int max_two min_two max_three min_three max_four min_four   -- for this text's walks alone
set_option linter.unusedVariables false
set_option linter.unusedSimpArgs false

/-! ### spec_DrawEdgeAdd: function 55 -/
def spec_DrawEdgeAdd.f (k : Nat) (l0 : List Int) : Option (Int × List ByteArray × ByteArray) := (spec_l1New.f k l0).bind fun bt602 => ((spec_l1Once.f bt602.1 bt602.2.1 bt602.2.2 60).bind fun bt606 => (if bt606.1 = true then ((spec_l1Below.f bt602.1 bt606.2.1 bt606.2.2 2).bind fun bt609 => (if 0 ≤ (wrap64 (200 - bt609.1)) then (if (wrap64 (200 - bt609.1) : Int).toNat ≤ 17592186044416 then ((spec_EdgeOf.f k (List.replicate (wrap64 (200 - bt609.1) : Int).toNat (⟨#[]⟩ : ByteArray))).bind fun bt615 => (some (bt615.1, bt615.2, (⟨#[97]⟩ : ByteArray)))) else (none)) else (none))) else ((spec_l7Any.f k bt602.1 bt606.2.1 bt606.2.2).bind fun bt619 => ((spec_l1Some.f k bt602.1 bt619.2.2.1 bt619.2.2.2).bind fun bt625 => (some (bt619.1, bt619.2.1, strOfNums bt625.1))))))
theorem spec_DrawEdgeAdd.mono : ∀ a0 k, LeO (spec_DrawEdgeAdd.f k a0) (spec_DrawEdgeAdd.f (k + 1) a0) := by
  intro a0 k
  unfold spec_DrawEdgeAdd.f
  repeat' first
      | (with_reducible exact spec_EdgeOf.mono _ _)
      | (with_reducible exact spec_l1New.mono _ _)
      | (with_reducible exact spec_l1Some.mono _ _ _ _)
      | (with_reducible exact spec_l7Any.mono _ _ _ _)
      | (with_reducible exact LeO.refl _)
      | (with_reducible exact LeO.none _)
      | (with_reducible refine LeO.ite ?_ ?_)
      | (with_reducible refine LeO.bind ?_ (fun _ => ?_))
      | exact spec_EdgeOf.mono _ _
      | exact spec_l1New.mono _ _
      | exact spec_l1Some.mono _ _ _ _
      | exact spec_l7Any.mono _ _ _ _
      | exact LeO.none _
      | refine LeO.ite ?_ ?_
      | refine LeO.bind ?_ (fun _ => ?_)
set_option maxHeartbeats 8000000 in
set_option maxRecDepth 100000 in
theorem spec_DrawEdgeAdd.calls (k : Nat) (A0 : Option Addr) (c0 : Nat) (l0 : List Int) (r1 : Int) (r2 : List ByteArray) (r3 : ByteArray) (w : World) (hr0 : Kd.C (Kd.int .u8) w A0 l0.length l0) (hc0 : l0.length ≤ c0) (h : spec_DrawEdgeAdd.f k l0 = some (r1, r2, r3)) :
    Calls Try.prog 55 #[.slice A0 l0.length c0] w fun e w' => ∃ v1_ : Value, e = .returned (.tuple #[.agg #[.int .i64 r1, v1_], .string r3]) ∧ Kd.R Kd.string 9 w' w.heap.size (fun _ => True) v1_ r2 ∧ Below w.heap.size w w' := by
  have hu61 := Try.underlying61
  have HR0 := Aside0.mk hr0
  have HC0 := Aside0.mk hc0
  clear hr0 hc0
  have HB := Aside0.mk (Below.refl w.heap.size w)
  have H : ((spec_l1New.f k l0).bind fun bt602 => ((spec_l1Once.f bt602.1 bt602.2.1 bt602.2.2 60).bind fun bt606 => (if bt606.1 = true then ((spec_l1Below.f bt602.1 bt606.2.1 bt606.2.2 2).bind fun bt609 => (if 0 ≤ (wrap64 (200 - bt609.1)) then (if (wrap64 (200 - bt609.1) : Int).toNat ≤ 17592186044416 then ((spec_EdgeOf.f k (List.replicate (wrap64 (200 - bt609.1) : Int).toNat (⟨#[]⟩ : ByteArray))).bind fun bt615 => (some (bt615.1, bt615.2, (⟨#[97]⟩ : ByteArray)))) else (none)) else (none))) else ((spec_l7Any.f k bt602.1 bt606.2.1 bt606.2.2).bind fun bt619 => ((spec_l1Some.f k bt602.1 bt619.2.2.1 bt619.2.2.2).bind fun bt625 => (some (bt619.1, bt619.2.1, strOfNums bt625.1))))))) = some (r1, r2, r3) := h
  clear h
  replace H := Option.bind_eq_some_iff.mp H
  obtain ⟨⟨t602, t603, t604⟩, A20, H⟩ := H
  replace H : ((spec_l1Once.f t602 t603 t604 60).bind fun bt606 => (if bt606.1 = true then ((spec_l1Below.f t602 bt606.2.1 bt606.2.2 2).bind fun bt609 => (if 0 ≤ (wrap64 (200 - bt609.1)) then (if (wrap64 (200 - bt609.1) : Int).toNat ≤ 17592186044416 then ((spec_EdgeOf.f k (List.replicate (wrap64 (200 - bt609.1) : Int).toNat (⟨#[]⟩ : ByteArray))).bind fun bt615 => (some (bt615.1, bt615.2, (⟨#[97]⟩ : ByteArray)))) else (none)) else (none))) else ((spec_l7Any.f k t602 bt606.2.1 bt606.2.2).bind fun bt619 => ((spec_l1Some.f k t602 bt619.2.2.1 bt619.2.2.2).bind fun bt625 => (some (bt619.1, bt619.2.1, strOfNums bt625.1)))))) = some (r1, r2, r3) := H
  have A2 := Aside0.mk A20
  clear A20
  replace H := Option.bind_eq_some_iff.mp H
  obtain ⟨⟨t606, t607, t608⟩, A30, H⟩ := H
  replace H : (if t606 = true then ((spec_l1Below.f t602 t607 t608 2).bind fun bt609 => (if 0 ≤ (wrap64 (200 - bt609.1)) then (if (wrap64 (200 - bt609.1) : Int).toNat ≤ 17592186044416 then ((spec_EdgeOf.f k (List.replicate (wrap64 (200 - bt609.1) : Int).toNat (⟨#[]⟩ : ByteArray))).bind fun bt615 => (some (bt615.1, bt615.2, (⟨#[97]⟩ : ByteArray)))) else (none)) else (none))) else ((spec_l7Any.f k t602 t607 t608).bind fun bt619 => ((spec_l1Some.f k t602 bt619.2.2.1 bt619.2.2.2).bind fun bt625 => (some (bt619.1, bt619.2.1, strOfNums bt625.1))))) = some (r1, r2, r3) := H
  have A3 := Aside0.mk A30
  clear A30
  by_cases c4 : t606 = true
  · subst c4
    have H1 : ((spec_l1Below.f t602 t607 t608 2).bind fun bt609 => (if 0 ≤ (wrap64 (200 - bt609.1)) then (if (wrap64 (200 - bt609.1) : Int).toNat ≤ 17592186044416 then ((spec_EdgeOf.f k (List.replicate (wrap64 (200 - bt609.1) : Int).toNat (⟨#[]⟩ : ByteArray))).bind fun bt615 => (some (bt615.1, bt615.2, (⟨#[97]⟩ : ByteArray)))) else (none)) else (none))) = some (r1, r2, r3) := by rw [if_pos rfl] at H; exact H
    clear H
    have H := H1
    clear H1
    replace H := Option.bind_eq_some_iff.mp H
    obtain ⟨⟨t609, t610, t611⟩, A50, H⟩ := H
    replace H : (if 0 ≤ (wrap64 (200 - t609)) then (if (wrap64 (200 - t609) : Int).toNat ≤ 17592186044416 then ((spec_EdgeOf.f k (List.replicate (wrap64 (200 - t609) : Int).toNat (⟨#[]⟩ : ByteArray))).bind fun bt615 => (some (bt615.1, bt615.2, (⟨#[97]⟩ : ByteArray)))) else (none)) else (none)) = some (r1, r2, r3) := H
    have A5 := Aside0.mk A50
    clear A50
    obtain ⟨ji6, hji6⟩ : ∃ j_ : Int, (wrap64 (200 - t609)) = j_ := ⟨_, rfl⟩
    replace H : (if 0 ≤ (ji6) then (if (ji6 : Int).toNat ≤ 17592186044416 then ((spec_EdgeOf.f k (List.replicate (ji6 : Int).toNat (⟨#[]⟩ : ByteArray))).bind fun bt615 => (some (bt615.1, bt615.2, (⟨#[97]⟩ : ByteArray)))) else (none)) else (none)) = some (r1, r2, r3) := by first | (rw [hji6] at H; exact H) | (simp only [hji6] at H ⊢; exact H)
    (try rw [hji6] at A2)
    (try rw [hji6] at A3)
    (try rw [hji6] at A5)
    have hji6w : (IntKind.i64.wrap (200 - t609)) = ji6 := (i64_w _).trans hji6
    by_cases c7 : 0 ≤ (ji6)
    · rw [if_pos c7] at H
      have c7b0 := eq_true c7
      have c7b1 : decide (0 ≤ (ji6)) = true := decide_eq_true c7
      clear c7
      by_cases c8 : (ji6 : Int).toNat ≤ 17592186044416
      · rw [if_pos c8] at H
        have c8b0 := eq_true c8
        have c8b1 : decide ((ji6 : Int).toNat ≤ 17592186044416) = true := decide_eq_true c8
        clear c8
        obtain ⟨y612, hy612⟩ : ∃ y_ : List ByteArray, y_ = (List.replicate (ji6 : Int).toNat (⟨#[]⟩ : ByteArray)) := ⟨_, rfl⟩
        replace H : ((spec_EdgeOf.f k y612).bind fun bt615 => (some (bt615.1, bt615.2, (⟨#[97]⟩ : ByteArray)))) = some (r1, r2, r3) := by first | (rw [hy612]; with_reducible exact H) | (have H2_ := (Option.bind_some _ _).symm.trans H; rw [hy612]; with_reducible exact H2_) | (have H2_ := (Option.bind_some _ _).symm.trans H; with_reducible exact H2_) | with_reducible exact H | (rw [hy612]; exact H) | exact H
        have Ny612 := Aside0.mk hy612
        clear hy612
        replace H := Option.bind_eq_some_iff.mp H
        obtain ⟨⟨t615, t616⟩, A90, H⟩ := H
        replace H : (some (t615, t616, (⟨#[97]⟩ : ByteArray))) = some (r1, r2, r3) := H
        have A9 := Aside0.mk A90
        clear A90
        simp only [Option.some.injEq, Prod.mk.injEq] at H
        obtain ⟨rfl, rfl, rfl⟩ := H
        go_enter Try.func55, Try.ntmps55
        go_wp2_with (first | ((with_reducible refine gate_dst (N := 2) rfl ?_); refine box_event ?hg (N := 2) ?hd (cs := #[.int .i64 0, .slice none 0 0]) (t := 61) ?hr ?_; (case hd => rfl); (case hg => rfl); (case hr => first | (go_simp; done) | (go_simp; rfl)); intro gb601 hg w10 hbox hb; have n0_ := Aside0.mk (below_step (by repeat (first | (with_reducible first | exact HB.out | apply below_alloc | apply pw_below_drewN | apply below_drew1) | exact HB.out)) hb); have n1_ := Aside0.mk (hbox); have n2_ := Aside0.mk ((by rw [hg]; exact (below_size (by repeat (first | (with_reducible first | exact HB.out | apply below_alloc | apply pw_below_drewN | apply below_drew1) | exact HB.out))) : w.heap.size ≤ gb601)); have n3_ := Aside0.mk ((by rw [hg]; exact (below_size (by repeat (first | (with_reducible first | exact HB.out | apply below_alloc | apply pw_below_drewN | apply below_drew1) | exact HB.out))) : w.heap.size ≤ gb601)); clear HB; have HB := n0_; have BK601 := n1_; have GW601 := n2_; have GE601 := n3_; clear n0_ n1_ n2_ n3_; clear hb hbox hg) | ((with_reducible refine gate_callee (f := 107) rfl ?_); refine goesL_ (some 6) rfl rfl Try.func107 (by kernel_rfl) rfl #[.slice A0 l0.length c0] rfl (by (try simp only [List.map_toArray, List.map_cons, List.map_nil]); first | done | rfl | (simp only [List.length_drop, List.length_take]; rfl)) ?_; (with_reducible refine (spec_l1New.calls k _ _ l0 t602 t603 t604 w _ ?side1 ?side2 ?side3 A2.out).mono ?_); (case side1 => repeat (first | (with_reducible first | exact HB.out | apply below_alloc | apply pw_below_drewN | apply below_drew1 | refine below_set ?_ GE601.out) | exact HB.out)); (case side2 => exact HR0.out); (case side3 => exact HC0.out); rintro e w11 ⟨g605, rfl, hi, hb, hb2⟩; refine ⟨_, rfl, ?_⟩; have n0_ := Aside0.mk (blk_below (g := gb601) (o := .cells #[.int .i64 0, .slice none 0 0] 61 (0, 0)) (by (with_reducible repeat (first | refine blk_drewN ?_ _ | refine blk_drew ?_ | refine blk_alloc ?_ _)); exact BK601.out) hb2); have n1_ := Aside0.mk (hb); have n2_ := Aside0.mk (hi); have n3_ := Aside0.mk (IsS158.ne_blk hi (blk_below (g := gb601) (o := .cells #[.int .i64 0, .slice none 0 0] 61 (0, 0)) (by (with_reducible repeat (first | refine blk_drewN ?_ _ | refine blk_drew ?_ | refine blk_alloc ?_ _)); exact BK601.out) hb2) (by decide)); have n4_ := Aside0.mk (Ne.symm (IsS158.ne_blk hi (blk_below (g := gb601) (o := .cells #[.int .i64 0, .slice none 0 0] 61 (0, 0)) (by (with_reducible repeat (first | refine blk_drewN ?_ _ | refine blk_drew ?_ | refine blk_alloc ?_ _)); exact BK601.out) hb2) (by decide))); clear BK601; clear HB; have BK601 := n0_; have HB := n1_; have HI605 := n2_; have NB605_601 := n3_; have NB601_605 := n4_; clear n0_ n1_ n2_ n3_ n4_; (try clear hb); (try clear hb2); (try clear hk); (try clear hi)) | ((with_reducible refine gate_callee (f := 109) rfl ?_); refine goesL_ (some 8) rfl rfl Try.func109 (by kernel_rfl) rfl #[.pointer (some ⟨g605, 0, none⟩), .int .i64 60] rfl (by (try simp only [List.map_toArray, List.map_cons, List.map_nil]); first | done | rfl | (simp only [List.length_drop, List.length_take]; rfl)) ?_; (with_reducible refine (spec_l1Once.calls g605 t602 t603 t604 60 true t607 t608 w _ ?side1 ?side2 A3.out).mono ?_); (case side1 => repeat (first | (with_reducible first | exact HI605.out | apply IsS158.alloc | apply IsS158.drewN | apply IsS158.drew | apply IsS158.set_1 | apply IsS158.set_2 | refine IsS158.far ?_ NB605_601.out _) | exact HI605.out)); (case side2 => repeat (first | (with_reducible first | exact HB.out | apply below_alloc | apply pw_below_drewN | apply below_drew1 | refine below_set ?_ (IsS158.ge HI605.out) | refine below_set ?_ GE601.out) | exact HB.out)); rintro e w12 ⟨rfl, hi, hb, hk⟩; refine ⟨_, rfl, ?_⟩; have n0_ := Aside0.mk (KeepBut.blk hk (g' := gb601) (o := .cells #[.int .i64 0, .slice none 0 0] 61 (0, 0)) (by (with_reducible repeat (first | refine blk_drewN ?_ _ | refine blk_drew ?_ | refine blk_alloc ?_ _)); exact BK601.out) NB601_605.out (by simp)); have n1_ := Aside0.mk (hb); have n2_ := Aside0.mk (hi); clear BK601; clear HB; clear HI605; have BK601 := n0_; have HB := n1_; have HI605 := n2_; clear n0_ n1_ n2_; (try clear hb); (try clear hb2); (try clear hk); (try clear hi)) | ((with_reducible refine gate_callee (f := 110) rfl ?_); refine goesL_ (some 10) rfl rfl Try.func110 (by kernel_rfl) rfl #[.pointer (some ⟨g605, 0, none⟩), .int .i64 2] rfl (by (try simp only [List.map_toArray, List.map_cons, List.map_nil]); first | done | rfl | (simp only [List.length_drop, List.length_take]; rfl)) ?_; (with_reducible refine (spec_l1Below.calls g605 t602 t607 t608 2 t609 t610 t611 w _ ?side1 ?side2 A5.out).mono ?_); (case side1 => repeat (first | (with_reducible first | exact HI605.out | apply IsS158.alloc | apply IsS158.drewN | apply IsS158.drew | apply IsS158.set_1 | apply IsS158.set_2 | refine IsS158.far ?_ NB605_601.out _) | exact HI605.out)); (case side2 => repeat (first | (with_reducible first | exact HB.out | apply below_alloc | apply pw_below_drewN | apply below_drew1 | refine below_set ?_ (IsS158.ge HI605.out) | refine below_set ?_ GE601.out) | exact HB.out)); rintro e w13 ⟨rfl, hi, hb, hk⟩; refine ⟨_, rfl, ?_⟩; have n0_ := Aside0.mk (KeepBut.blk hk (g' := gb601) (o := .cells #[.int .i64 0, .slice none 0 0] 61 (0, 0)) (by (with_reducible repeat (first | refine blk_drewN ?_ _ | refine blk_drew ?_ | refine blk_alloc ?_ _)); exact BK601.out) NB601_605.out (by simp)); have n1_ := Aside0.mk (hb); have n2_ := Aside0.mk (hi); clear BK601; clear HB; clear HI605; have BK601 := n0_; have HB := n1_; have HI605 := n2_; clear n0_ n1_ n2_; (try clear hb); (try clear hb2); (try clear hk); (try clear hi)) | ((with_reducible refine gate_dst (N := 12) rfl ?_); refine Kd.R_make Kd.string _ 9 rfl (N := 12) rfl 24 _ _ rfl ji6 rfl rfl Try.underlying24 (.string ⟨#[]⟩) 16 info9 rfl (by decide) (by omega) (⟨#[]⟩ : ByteArray) (ok := fun _ => True) (okp := fun _ => True) rfl (fun _ hk => hk) trivial (of_decide_eq_true (by first | (with_reducible assumption) | assumption)) (Nat.le_trans (Nat.mul_le_mul_right _ (of_decide_eq_true (by first | (with_reducible assumption) | assumption) : ji6.toNat ≤ 17592186044416)) (by omega)) (Below.refl _ _) (Nat.le_refl _) ?_; intro v613 w14 ho15 hb hg_ hnew_; clear hg_ hnew_; (first | rw [← Ny612.out] at ho15 | (simp only [Int.reduceToNat] at ho15; rw [← Ny612.out] at ho15)); have n0_ := Aside0.mk (Kd.R_lower ho15 (below_size (by repeat (first | (with_reducible first | exact HB.out | apply below_alloc | apply pw_below_drewN | apply below_drew1 | refine below_set ?_ (IsS158.ge HI605.out) | refine below_set ?_ GE601.out) | exact HB.out)))); have n1_ := Aside0.mk (blk_below (g := gb601) (o := .cells #[.int .i64 0, .slice none 0 0] 61 (0, 0)) (by (with_reducible repeat (first | refine blk_drewN ?_ _ | refine blk_drew ?_ | refine blk_alloc ?_ _)); exact BK601.out) hb); have n2_ := Aside0.mk (IsS158.below (by repeat (first | (with_reducible first | exact HI605.out | apply IsS158.alloc | apply IsS158.drewN | apply IsS158.drew | apply IsS158.set_1 | apply IsS158.set_2 | refine IsS158.far ?_ NB605_601.out _) | exact HI605.out)) hb); have n3_ := Aside0.mk (below_step (by repeat (first | (with_reducible first | exact HB.out | apply below_alloc | apply pw_below_drewN | apply below_drew1 | refine below_set ?_ (IsS158.ge HI605.out) | refine below_set ?_ GE601.out) | exact HB.out)) hb); clear BK601; clear HI605; clear HB; have HO614 := n0_; have BK601 := n1_; have HI605 := n2_; have HB := n3_; clear n0_ n1_ n2_ n3_; clear hb ho15; obtain ⟨Ao16, co16, eo16⟩ := Kd.R_slice HO614.out; subst eo16) | ((with_reducible refine gate_callee (f := 126) rfl ?_); refine goesL_ (some 13) rfl rfl Try.func126 (by kernel_rfl) rfl #[.slice Ao16 y612.length co16] rfl (by (try simp only [List.map_toArray, List.map_cons, List.map_nil]); first | done | rfl | (simp only [List.length_drop, List.length_take]; rfl)) ?_; (with_reducible refine (spec_EdgeOf.calls k _ _ y612 t615 t616 _ ?side1 ?side2 A9.out).mono ?_); (case side1 => repeat (first | exact (Kd.R_reads' HO614.out).2.2 | (with_reducible refine Kd.C_alloc ?_ _) | (with_reducible refine Kd.C_drewN ?_ _) | (with_reducible refine Kd.C_drew ?_))); (case side2 => exact (Kd.R_reads' HO614.out).2.1); rintro e w17 ⟨v617, rfl, ho0, hb⟩; refine ⟨_, rfl, ?_⟩; have n0_ := Aside0.mk (Kd.R_elder' (by (with_reducible repeat (first | apply Kd.R_alloc | apply Kd.R_drewN | apply Kd.R_drew)); exact HO614.out) (Kd.R_base ho0) hb); have n1_ := Aside0.mk (Kd.R_lower (Kd.R_new' ho0 (Kd.R_lt (by (with_reducible repeat (first | apply Kd.R_alloc | apply Kd.R_drewN | apply Kd.R_drew)); exact HO614.out))) (below_size (by repeat (first | (with_reducible first | exact HB.out | apply below_alloc | apply pw_below_drewN | apply below_drew1 | refine below_set ?_ (IsS158.ge HI605.out) | refine below_set ?_ GE601.out) | exact HB.out)))); have n2_ := Aside0.mk (blk_below (g := gb601) (o := .cells #[.int .i64 0, .slice none 0 0] 61 (0, 0)) (by (with_reducible repeat (first | refine blk_drewN ?_ _ | refine blk_drew ?_ | refine blk_alloc ?_ _)); exact BK601.out) hb); have n3_ := Aside0.mk (IsS158.below (by repeat (first | (with_reducible first | exact HI605.out | apply IsS158.alloc | apply IsS158.drewN | apply IsS158.drew | apply IsS158.set_1 | apply IsS158.set_2 | refine IsS158.far ?_ NB605_601.out _) | exact HI605.out)) hb); have n4_ := Aside0.mk (below_step (by repeat (first | (with_reducible first | exact HB.out | apply below_alloc | apply pw_below_drewN | apply below_drew1 | refine below_set ?_ (IsS158.ge HI605.out) | refine below_set ?_ GE601.out) | exact HB.out)) hb); clear HO614; clear BK601; clear HI605; clear HB; have HO614 := n0_; have HO618 := n1_; have BK601 := n2_; have HI605 := n3_; have HB := n4_; clear n0_ n1_ n2_ n3_ n4_; (try clear hb); (try clear hb2); (try clear hk); (try clear hi); (try clear ho0); have hnb18 := NB601_605.out; have hnc18 := NB605_601.out; have hcz19_0 : w17.cell? ⟨gb601, 0, none⟩ = some (.int .i64 0) := (blk_cell BK601.out 0).trans rfl; have hcz19_1 : w17.cell? ⟨gb601, 1, none⟩ = some (.slice none 0 0) := (blk_cell BK601.out 1).trans rfl; have hfz19_0 := blk_frozen BK601.out 0; have hfz19_1 := blk_frozen BK601.out 1; obtain ⟨Ao20, co20, eo20⟩ := Kd.R_slice HO618.out; subst eo20))
        refine bodyPost_ret (results_ct rfl _ _ gb601 61 #[.int .i64 t615, .slice Ao20 t616.length co20] (0, 0) _ rfl (by (with_reducible repeat (first | refine blk_drewN ?_ _ | refine blk_drew ?_ | refine blk_alloc ?_ _)); refine blk_put (cs := #[.int .i64 t615, .slice none 0 0]) ?_ 1 _ rfl; (with_reducible repeat (first | refine blk_drewN ?_ _ | refine blk_drew ?_ | refine blk_alloc ?_ _)); refine blk_put (cs := #[.int .i64 0, .slice none 0 0]) ?_ 0 _ rfl; (with_reducible repeat (first | refine blk_drewN ?_ _ | refine blk_drew ?_ | refine blk_alloc ?_ _)); exact BK601.out) Try.underlying61 rfl (by kernel_rfl)) rfl ?_
        exact ⟨_, by first | rfl | (simp [errW_none, errW_some] <;> rfl) | (simp only [← hji6]; first | rfl | (simp [errW_none, errW_some] <;> rfl)) | (simp [*, errW_none, errW_some] <;> rfl), by (with_reducible repeat (first | apply Kd.R_alloc | apply Kd.R_drewN | apply Kd.R_drew)); exact Kd.R_mono (Kd.R_far (p := ⟨gb601, 1, none⟩) (Kd.R_far (p := ⟨gb601, 0, none⟩) (Kd.R_types HO618.out BK601.out (by decide)) (fun _ hk => hk.2) (.int .i64 t615)) (fun _ hk => hk.2) (.slice Ao20 t616.length co20)) (fun _ hk => trivial), by repeat (first | (with_reducible first | exact HB.out | apply below_alloc | apply pw_below_drewN | apply below_drew1 | refine below_set ?_ (IsS158.ge HI605.out) | refine below_set ?_ GE601.out) | exact HB.out)⟩
      · rw [if_neg c8] at H
        exact absurd H (by simp)
    · rw [if_neg c7] at H
      exact absurd H (by simp)
  · replace c4 := Bool.eq_false_iff.mpr c4
    subst c4
    have H1 : ((spec_l7Any.f k t602 t607 t608).bind fun bt619 => ((spec_l1Some.f k t602 bt619.2.2.1 bt619.2.2.2).bind fun bt625 => (some (bt619.1, bt619.2.1, strOfNums bt625.1)))) = some (r1, r2, r3) := by rw [if_neg (show ¬ (false = true) by decide)] at H; exact H
    clear H
    have H := H1
    clear H1
    replace H := Option.bind_eq_some_iff.mp H
    obtain ⟨⟨t619, t620, t623, t624⟩, A210, H⟩ := H
    replace H : ((spec_l1Some.f k t602 t623 t624).bind fun bt625 => (some (t619, t620, strOfNums bt625.1))) = some (r1, r2, r3) := H
    have A21 := Aside0.mk A210
    clear A210
    replace H := Option.bind_eq_some_iff.mp H
    obtain ⟨⟨t625, t628, t629⟩, A220, H⟩ := H
    replace H : (some (t619, t620, strOfNums t625)) = some (r1, r2, r3) := H
    have A22 := Aside0.mk A220
    clear A220
    simp only [Option.some.injEq, Prod.mk.injEq] at H
    obtain ⟨rfl, rfl, rfl⟩ := H
    go_enter Try.func55, Try.ntmps55
    try go_wp2_with (first | ((with_reducible refine gate_dst (N := 2) rfl ?_); refine box_event ?hg (N := 2) ?hd (cs := #[.int .i64 0, .slice none 0 0]) (t := 61) ?hr ?_; (case hd => rfl); (case hg => rfl); (case hr => first | (go_simp; done) | (go_simp; rfl)); intro gb601 hg w23 hbox hb; have n0_ := Aside0.mk (below_step (by repeat (first | (with_reducible first | exact HB.out | apply below_alloc | apply pw_below_drewN | apply below_drew1) | exact HB.out)) hb); have n1_ := Aside0.mk (hbox); have n2_ := Aside0.mk ((by rw [hg]; exact (below_size (by repeat (first | (with_reducible first | exact HB.out | apply below_alloc | apply pw_below_drewN | apply below_drew1) | exact HB.out))) : w.heap.size ≤ gb601)); have n3_ := Aside0.mk ((by rw [hg]; exact (below_size (by repeat (first | (with_reducible first | exact HB.out | apply below_alloc | apply pw_below_drewN | apply below_drew1) | exact HB.out))) : w.heap.size ≤ gb601)); clear HB; have HB := n0_; have BK601 := n1_; have GW601 := n2_; have GE601 := n3_; clear n0_ n1_ n2_ n3_; clear hb hbox hg) | ((with_reducible refine gate_callee (f := 107) rfl ?_); refine goesL_ (some 6) rfl rfl Try.func107 (by kernel_rfl) rfl #[.slice A0 l0.length c0] rfl (by (try simp only [List.map_toArray, List.map_cons, List.map_nil]); first | done | rfl | (simp only [List.length_drop, List.length_take]; rfl)) ?_; (with_reducible refine (spec_l1New.calls k _ _ l0 t602 t603 t604 w _ ?side1 ?side2 ?side3 A2.out).mono ?_); (case side1 => repeat (first | (with_reducible first | exact HB.out | apply below_alloc | apply pw_below_drewN | apply below_drew1 | refine below_set ?_ GE601.out) | exact HB.out)); (case side2 => exact HR0.out); (case side3 => exact HC0.out); rintro e w24 ⟨g605, rfl, hi, hb, hb2⟩; refine ⟨_, rfl, ?_⟩; have n0_ := Aside0.mk (blk_below (g := gb601) (o := .cells #[.int .i64 0, .slice none 0 0] 61 (0, 0)) (by (with_reducible repeat (first | refine blk_drewN ?_ _ | refine blk_drew ?_ | refine blk_alloc ?_ _)); exact BK601.out) hb2); have n1_ := Aside0.mk (hb); have n2_ := Aside0.mk (hi); have n3_ := Aside0.mk (IsS158.ne_blk hi (blk_below (g := gb601) (o := .cells #[.int .i64 0, .slice none 0 0] 61 (0, 0)) (by (with_reducible repeat (first | refine blk_drewN ?_ _ | refine blk_drew ?_ | refine blk_alloc ?_ _)); exact BK601.out) hb2) (by decide)); have n4_ := Aside0.mk (Ne.symm (IsS158.ne_blk hi (blk_below (g := gb601) (o := .cells #[.int .i64 0, .slice none 0 0] 61 (0, 0)) (by (with_reducible repeat (first | refine blk_drewN ?_ _ | refine blk_drew ?_ | refine blk_alloc ?_ _)); exact BK601.out) hb2) (by decide))); clear BK601; clear HB; have BK601 := n0_; have HB := n1_; have HI605 := n2_; have NB605_601 := n3_; have NB601_605 := n4_; clear n0_ n1_ n2_ n3_ n4_; (try clear hb); (try clear hb2); (try clear hk); (try clear hi)) | ((with_reducible refine gate_callee (f := 109) rfl ?_); refine goesL_ (some 8) rfl rfl Try.func109 (by kernel_rfl) rfl #[.pointer (some ⟨g605, 0, none⟩), .int .i64 60] rfl (by (try simp only [List.map_toArray, List.map_cons, List.map_nil]); first | done | rfl | (simp only [List.length_drop, List.length_take]; rfl)) ?_; (with_reducible refine (spec_l1Once.calls g605 t602 t603 t604 60 false t607 t608 w _ ?side1 ?side2 A3.out).mono ?_); (case side1 => repeat (first | (with_reducible first | exact HI605.out | apply IsS158.alloc | apply IsS158.drewN | apply IsS158.drew | apply IsS158.set_1 | apply IsS158.set_2 | refine IsS158.far ?_ NB605_601.out _) | exact HI605.out)); (case side2 => repeat (first | (with_reducible first | exact HB.out | apply below_alloc | apply pw_below_drewN | apply below_drew1 | refine below_set ?_ (IsS158.ge HI605.out) | refine below_set ?_ GE601.out) | exact HB.out)); rintro e w25 ⟨rfl, hi, hb, hk⟩; refine ⟨_, rfl, ?_⟩; have n0_ := Aside0.mk (KeepBut.blk hk (g' := gb601) (o := .cells #[.int .i64 0, .slice none 0 0] 61 (0, 0)) (by (with_reducible repeat (first | refine blk_drewN ?_ _ | refine blk_drew ?_ | refine blk_alloc ?_ _)); exact BK601.out) NB601_605.out (by simp)); have n1_ := Aside0.mk (hb); have n2_ := Aside0.mk (hi); clear BK601; clear HB; clear HI605; have BK601 := n0_; have HB := n1_; have HI605 := n2_; clear n0_ n1_ n2_; (try clear hb); (try clear hb2); (try clear hk); (try clear hi)))
    have n0_ := Aside0.mk (blk_drew BK601.out)
    have n1_ := Aside0.mk (IsS158.drew HI605.out)
    have n2_ := Aside0.mk (below_drew1 HB.out)
    clear BK601
    clear HI605
    clear HB
    have BK601 := n0_
    have HI605 := n1_
    have HB := n2_
    clear n0_ n1_ n2_
    refine start_ (n := 7) (S := fun w' => True) (ds := []) #[false, false, false, false, false, false, false] (by kernel_rfl) rfl rfl trivial (fun hHeld => ?_)
    generalize w25.drew = w26 at BK601 HI605 HB hHeld ⊢
    refine pure_ (i := 0) (N := some 14) (v := ?_) (a' := ?_) #[true, false, false, false, false, false, false] rfl rfl (by kernel_rfl) (fun _ _ _ h => h) (Or.inl ⟨by rfl, ?_⟩) ?_ ?_
    rotate_left
    · intro w'
      go_simp
      with_reducible rfl
    rotate_left
    · simp only [Act.put, List.setIfInBounds_toArray, List.set_cons_zero, List.set_cons_succ, i64_w, i32_w]
      rfl
    refine pure_ (i := 2) (N := some 16) (v := ?_) (a' := ?_) #[true, false, true, false, false, false, false] rfl rfl (by kernel_rfl) (fun _ _ _ h => h) (Or.inl ⟨by rfl, ?_⟩) ?_ ?_
    rotate_left
    · intro w'
      go_simp
      with_reducible rfl
    rotate_left
    · simp only [Act.put, List.setIfInBounds_toArray, List.set_cons_zero, List.set_cons_succ, i64_w, i32_w]
      rfl
    refine one_ (i := 1) (N := some 15) #[true, true, true, false, false, false, false] rfl rfl (by kernel_rfl) (by decide) (fun K hK => ?_)
    refine goes_ Try.func127 (by kernel_rfl) rfl #[.pointer (some ⟨g605, 0, none⟩)] (by rfl) rfl rfl (by (try simp only [List.map_toArray, List.map_cons, List.map_nil]); first | done | rfl | (simp only [List.length_drop, List.length_take]; rfl)) ?_
    with_reducible refine (spec_l7Any.calls k g605 t602 t607 t608 t619 t620 t623 t624 w _ ?side1 ?side2 A21.out).mono ?_
    (case side1 => repeat (first | (with_reducible first | exact HI605.out | apply IsS158.alloc | apply IsS158.drewN | apply IsS158.drew | apply IsS158.set_1 | apply IsS158.set_2 | refine IsS158.far ?_ NB605_601.out _) | exact HI605.out))
    (case side2 => repeat (first | (with_reducible first | exact HB.out | apply below_alloc | apply pw_below_drewN | apply below_drew1 | refine below_set ?_ (IsS158.ge HI605.out) | refine below_set ?_ GE601.out) | exact HB.out))
    rintro e w27 ⟨v621, rfl, ho0, hi, hb, hk⟩
    refine ⟨_, rfl, ?_⟩
    have n0_ := Aside0.mk (KeepBut.blk hk (g' := gb601) (o := .cells #[.int .i64 0, .slice none 0 0] 61 (0, 0)) (by (with_reducible repeat (first | refine blk_drewN ?_ _ | refine blk_drew ?_ | refine blk_alloc ?_ _)); exact BK601.out) NB601_605.out (by simp))
    have n1_ := Aside0.mk (Kd.R_lower ho0 (below_size (by repeat (first | (with_reducible first | exact HB.out | apply below_alloc | apply pw_below_drewN | apply below_drew1 | refine below_set ?_ (IsS158.ge HI605.out) | refine below_set ?_ GE601.out) | exact HB.out))))
    have n2_ := Aside0.mk (hb)
    have n3_ := Aside0.mk (hi)
    clear BK601
    clear HB
    clear HI605
    have BK601 := n0_
    have HO622 := n1_
    have HB := n2_
    have HI605 := n3_
    clear n0_ n1_ n2_ n3_
    (try clear hb)
    (try clear hb2)
    (try clear hk)
    (try clear hi)
    (try clear ho0)
    refine hK.out _ _ trivial (fun hHeld => ?_)
    clear hK K
    refine norm_ (a' := ?_) ?_ ?_
    rotate_left
    · show Act.put _ (some 15) _ = _
      simp only [Act.put, List.setIfInBounds_toArray, List.set_cons_zero, List.set_cons_succ, i64_w, i32_w]
      rfl
    refine one_ (i := 3) (N := some 17) #[true, true, true, true, false, false, false] rfl rfl (by kernel_rfl) (by decide) (fun K hK => ?_)
    refine goes_ Try.func114 (by kernel_rfl) rfl #[.pointer (some ⟨g605, 0, none⟩)] (by rfl) rfl rfl (by (try simp only [List.map_toArray, List.map_cons, List.map_nil]); first | done | rfl | (simp only [List.length_drop, List.length_take]; rfl)) ?_
    with_reducible refine (spec_l1Some.calls k g605 t602 t623 t624 t625 t628 t629 w _ ?side1 ?side2 A22.out).mono ?_
    (case side1 => repeat (first | (with_reducible first | exact HI605.out | apply IsS158.alloc | apply IsS158.drewN | apply IsS158.drew | apply IsS158.set_1 | apply IsS158.set_2 | refine IsS158.far ?_ NB605_601.out _) | exact HI605.out))
    (case side2 => repeat (first | (with_reducible first | exact HB.out | apply below_alloc | apply pw_below_drewN | apply below_drew1 | refine below_set ?_ (IsS158.ge HI605.out) | refine below_set ?_ GE601.out) | exact HB.out))
    rintro e w28 ⟨v626, rfl, ho0, hi, hb, hk⟩
    refine ⟨_, rfl, ?_⟩
    have n0_ := Aside0.mk (KeepBut.blk hk (g' := gb601) (o := .cells #[.int .i64 0, .slice none 0 0] 61 (0, 0)) (by (with_reducible repeat (first | refine blk_drewN ?_ _ | refine blk_drew ?_ | refine blk_alloc ?_ _)); exact BK601.out) NB601_605.out (by simp))
    have n1_ := Aside0.mk (Kd.R_mono (Kd.R_keep (IsS158.apart (show IsS158 w _ g605 t602 t623 t624 from by repeat (first | (with_reducible first | exact HI605.out | apply IsS158.alloc | apply IsS158.drewN | apply IsS158.drew | apply IsS158.set_1 | apply IsS158.set_2 | refine IsS158.far ?_ NB605_601.out _) | exact HI605.out)) (by (with_reducible repeat (first | apply Kd.R_alloc | apply Kd.R_drewN | apply Kd.R_drew)); exact HO622.out) (by decide)) hk (fun _ h => h.2)) (fun _ h => h.1))
    have n2_ := Aside0.mk (Kd.R_lower ho0 (below_size (by repeat (first | (with_reducible first | exact HB.out | apply below_alloc | apply pw_below_drewN | apply below_drew1 | refine below_set ?_ (IsS158.ge HI605.out) | refine below_set ?_ GE601.out) | exact HB.out))))
    have n3_ := Aside0.mk (hb)
    have n4_ := Aside0.mk (hi)
    clear BK601
    clear HO622
    clear HB
    clear HI605
    have BK601 := n0_
    have HO622 := n1_
    have HO627 := n2_
    have HB := n3_
    have HI605 := n4_
    clear n0_ n1_ n2_ n3_ n4_
    (try clear hb)
    (try clear hb2)
    (try clear hk)
    (try clear hi)
    (try clear ho0)
    obtain ⟨Ao31, co31, eo31⟩ := Kd.R_slice HO622.out
    (first | subst eo31 | (injection eo31 with f1_ f2_ f3_; have f4_ := f1_.symm; have f5_ := f3_.symm; clear f1_ f2_ f3_; subst f4_; subst f5_))
    refine hK.out _ _ trivial (fun hHeld => ?_)
    clear hK K
    refine norm_ (a' := ?_) ?_ ?_
    rotate_left
    · show Act.put _ (some 17) _ = _
      simp only [Act.put, List.setIfInBounds_toArray, List.set_cons_zero, List.set_cons_succ, i64_w, i32_w]
      rfl
    refine join_ (σ := Unit) 1 #[true, true, true, true, true, true, false] (fun s_ => [(18, .string (strOfNums t625))]) (fun s_ w' => (Kd.R Kd.string 9 w' w.heap.size (fun _ => True) (.slice Ao31 t620.length co31) t620) ∧ (Kd.R (Kd.int .u8) 5 w' w.heap.size (fun _ => True) v626 t625) ∧ (w'.heap[gb601]? = some (.cells #[.int .i64 t619, .slice Ao31 t620.length co31] 61 (0, 0))) ∧ (IsS158 w w' g605 t602 t628 t629) ∧ (Below w.heap.size w w')) ?_ ?_
    rotate_left
    · intro hCont
      refine two_ (i := 4) (j := 5) (Ni := some 18) (Nj := none) #[true, true, true, true, true, false, false] #[true, true, true, true, false, true, false] rfl rfl rfl rfl (by kernel_rfl) (by decide) (by decide) (fun K hK => ?_) (fun K hK => ?_)
      · skip
        have hcv29 := own_string (P := Try.prog) Try.underlying28 Try.underlying5 Try.underlying9 (Kd.own_of_R HO627.out)
        refine value_ (w1 := ?_) (v := ?_) (by rfl) rfl ?_ ?_
        rotate_left 2
        · go_simp
          constructor
          · rfl
          · rfl
        clear hcv29
        refine hK.out _ _ trivial (fun hHeld => ?_)
        clear hK K
        refine norm_ (a' := ?_) ?_ ?_
        rotate_left
        · show Act.put _ (some 18) _ = _
          simp only [Act.put, List.setIfInBounds_toArray, List.set_cons_zero, List.set_cons_succ, i64_w, i32_w]
          rfl
        refine one_ (i := 5) (N := none) #[true, true, true, true, true, true, false] rfl rfl (by kernel_rfl) (by decide) (fun K hK => ?_)
        have hs30 : w28.cell? ⟨gb601, 0, none⟩ = some (.int .i64 0) := (blk_cell BK601.out 0).trans rfl
        have hfs30 := blk_frozen BK601.out 0
        have hs32 : w28.cell? ⟨gb601, 1, none⟩ = some (.slice none 0 0) := (blk_cell BK601.out 1).trans rfl
        have hfs32 := blk_frozen BK601.out 1
        refine skip_ (w1 := ?_) (by rfl) rfl ?_ ?_
        rotate_left
        · go_simp
          rfl
        refine hK.out _ _ trivial (fun hHeld => ?_)
        clear hK K
        exact norm_ (by simp only [putAll, Act.put, List.setIfInBounds_toArray, List.set_cons_zero, List.set_cons_succ]) (hCont () _ ⟨(by (with_reducible repeat (first | apply Kd.R_alloc | apply Kd.R_drewN | apply Kd.R_drew)); exact Kd.R_mono (Kd.R_far (p := ⟨gb601, 1, none⟩) (Kd.R_far (p := ⟨gb601, 0, none⟩) (Kd.R_types HO622.out BK601.out (by decide)) (fun _ hk => hk.2) (.int .i64 t619)) (fun _ hk => hk.2) (.slice Ao31 t620.length co31)) (fun _ hk => trivial)), (by (with_reducible repeat (first | apply Kd.R_alloc | apply Kd.R_drewN | apply Kd.R_drew)); exact Kd.R_mono (Kd.R_far (p := ⟨gb601, 1, none⟩) (Kd.R_far (p := ⟨gb601, 0, none⟩) (Kd.R_types HO627.out BK601.out (by decide)) (fun _ hk => hk.2) (.int .i64 t619)) (fun _ hk => hk.2) (.slice Ao31 t620.length co31)) (fun _ hk => trivial)), (by (with_reducible repeat (first | refine blk_drewN ?_ _ | refine blk_drew ?_ | refine blk_alloc ?_ _)); refine blk_put (cs := #[.int .i64 t619, .slice none 0 0]) ?_ 1 _ rfl; (with_reducible repeat (first | refine blk_drewN ?_ _ | refine blk_drew ?_ | refine blk_alloc ?_ _)); refine blk_put (cs := #[.int .i64 0, .slice none 0 0]) ?_ 0 _ rfl; (with_reducible repeat (first | refine blk_drewN ?_ _ | refine blk_drew ?_ | refine blk_alloc ?_ _)); exact BK601.out), (by repeat (first | (with_reducible first | exact HI605.out | apply IsS158.alloc | apply IsS158.drewN | apply IsS158.drew | apply IsS158.set_1 | apply IsS158.set_2 | refine IsS158.far ?_ NB605_601.out _) | exact HI605.out)), (by repeat (first | (with_reducible first | exact HB.out | apply below_alloc | apply pw_below_drewN | apply below_drew1 | refine below_set ?_ (IsS158.ge HI605.out) | refine below_set ?_ GE601.out) | exact HB.out))⟩)
      · skip
        have hs29 : w28.cell? ⟨gb601, 0, none⟩ = some (.int .i64 0) := (blk_cell BK601.out 0).trans rfl
        have hfs29 := blk_frozen BK601.out 0
        have hs31 : w28.cell? ⟨gb601, 1, none⟩ = some (.slice none 0 0) := (blk_cell BK601.out 1).trans rfl
        have hfs31 := blk_frozen BK601.out 1
        refine skip_ (w1 := ?_) (by rfl) rfl ?_ ?_
        rotate_left
        · go_simp
          rfl
        refine hK.out _ _ trivial (fun hHeld => ?_)
        clear hK K
        refine one_ (i := 4) (N := some 18) #[true, true, true, true, true, true, false] rfl rfl (by kernel_rfl) (by decide) (fun K hK => ?_)
        have hcv32 := own_string (P := Try.prog) Try.underlying28 Try.underlying5 Try.underlying9 (Kd.own_of_R (Kd.R_far (p := ⟨gb601, 1, none⟩) (Kd.R_far (p := ⟨gb601, 0, none⟩) (Kd.R_types HO627.out BK601.out (by decide)) (fun _ hk => hk.2) (.int .i64 t619)) (fun _ hk => hk.2) (.slice Ao31 t620.length co31)))
        refine value_ (w1 := ?_) (v := ?_) (by rfl) rfl ?_ ?_
        rotate_left 2
        · go_simp
          constructor
          · rfl
          · rfl
        clear hcv32
        refine hK.out _ _ trivial (fun hHeld => ?_)
        clear hK K
        refine norm_ (a' := ?_) ?_ ?_
        rotate_left
        · show Act.put _ (some 18) _ = _
          simp only [Act.put, List.setIfInBounds_toArray, List.set_cons_zero, List.set_cons_succ, i64_w, i32_w]
          rfl
        exact norm_ (by simp only [putAll, Act.put, List.setIfInBounds_toArray, List.set_cons_zero, List.set_cons_succ]) (hCont () _ ⟨(by (with_reducible repeat (first | apply Kd.R_alloc | apply Kd.R_drewN | apply Kd.R_drew)); exact Kd.R_mono (Kd.R_far (p := ⟨gb601, 1, none⟩) (Kd.R_far (p := ⟨gb601, 0, none⟩) (Kd.R_types HO622.out BK601.out (by decide)) (fun _ hk => hk.2) (.int .i64 t619)) (fun _ hk => hk.2) (.slice Ao31 t620.length co31)) (fun _ hk => trivial)), (by (with_reducible repeat (first | apply Kd.R_alloc | apply Kd.R_drewN | apply Kd.R_drew)); exact Kd.R_mono (Kd.R_far (p := ⟨gb601, 1, none⟩) (Kd.R_far (p := ⟨gb601, 0, none⟩) (Kd.R_types HO627.out BK601.out (by decide)) (fun _ hk => hk.2) (.int .i64 t619)) (fun _ hk => hk.2) (.slice Ao31 t620.length co31)) (fun _ hk => trivial)), (by (with_reducible repeat (first | refine blk_drewN ?_ _ | refine blk_drew ?_ | refine blk_alloc ?_ _)); refine blk_put (cs := #[.int .i64 t619, .slice none 0 0]) ?_ 1 _ rfl; (with_reducible repeat (first | refine blk_drewN ?_ _ | refine blk_drew ?_ | refine blk_alloc ?_ _)); refine blk_put (cs := #[.int .i64 0, .slice none 0 0]) ?_ 0 _ rfl; (with_reducible repeat (first | refine blk_drewN ?_ _ | refine blk_drew ?_ | refine blk_alloc ?_ _)); exact BK601.out), (by repeat (first | (with_reducible first | exact HI605.out | apply IsS158.alloc | apply IsS158.drewN | apply IsS158.drew | apply IsS158.set_1 | apply IsS158.set_2 | refine IsS158.far ?_ NB605_601.out _) | exact HI605.out)), (by repeat (first | (with_reducible first | exact HB.out | apply below_alloc | apply pw_below_drewN | apply below_drew1 | refine below_set ?_ (IsS158.ge HI605.out) | refine below_set ?_ GE601.out) | exact HB.out))⟩)
    rintro _ w33 ⟨h0_, h1_, h2_, h3_, h4_⟩
    have n0_ : Aside0 (Kd.R Kd.string 9 w33 w.heap.size (fun _ => True) (.slice Ao31 t620.length co31) t620) := ⟨h0_⟩
    have n1_ : Aside0 (Kd.R (Kd.int .u8) 5 w33 w.heap.size (fun _ => True) v626 t625) := ⟨h1_⟩
    have n2_ : Aside0 (w33.heap[gb601]? = some (.cells #[.int .i64 t619, .slice Ao31 t620.length co31] 61 (0, 0))) := ⟨h2_⟩
    have n3_ : Aside0 (IsS158 w w33 g605 t602 t628 t629) := ⟨h3_⟩
    have n4_ : Aside0 (Below w.heap.size w w33) := ⟨h4_⟩
    clear BK601
    clear HI605
    clear HB
    clear h0_ h1_ h2_ h3_ h4_
    have HO622 := n0_
    have HO627 := n1_
    have BK601 := n2_
    have HI605 := n3_
    have HB := n4_
    clear n0_ n1_ n2_ n3_ n4_
    have hHeld := trivial
    refine norm_ (a' := ?_) ?_ ?_
    rotate_left
    · simp only [putAll, Act.put, List.setIfInBounds_toArray, List.set_cons_zero, List.set_cons_succ]
      rfl
    refine pure_ (i := 6) (N := some 3) (v := ?_) (a' := ?_) #[true, true, true, true, true, true, true] rfl rfl (by kernel_rfl) (fun _ _ _ h => h) (Or.inl ⟨by rfl, ?_⟩) ?_ ?_
    rotate_left
    · intro w'
      go_simp
      with_reducible rfl
    rotate_left
    · simp only [Act.put, List.setIfInBounds_toArray, List.set_cons_zero, List.set_cons_succ, i64_w, i32_w]
      rfl
    refine done_ (by kernel_rfl) ?_
    try go_wp2
    refine bodyPost_ret (results_ct rfl _ _ gb601 61 #[.int .i64 t619, .slice Ao31 t620.length co31] (0, 0) _ rfl (by (with_reducible repeat (first | refine blk_drewN ?_ _ | refine blk_drew ?_ | refine blk_alloc ?_ _)); exact BK601.out) Try.underlying61 rfl (by kernel_rfl)) rfl ?_
    exact ⟨_, by first | rfl | (simp [errW_none, errW_some] <;> rfl) | (simp [*, errW_none, errW_some] <;> rfl), by (with_reducible repeat (first | apply Kd.R_alloc | apply Kd.R_drewN | apply Kd.R_drew)); exact HO622.out, by repeat (first | (with_reducible first | exact HB.out | apply below_alloc | apply pw_below_drewN | apply below_drew1 | refine below_set ?_ (IsS158.ge HI605.out) | refine below_set ?_ GE601.out) | exact HB.out)⟩

end Go.Proofs.Ytoipfpjcpngpfaa.Q
end

section
/- Arguments that were read as data, opened as Lean values: numbers, bools, strings, slices of whatever kind; structs by their fields. For the rows of this seat's laws. -/
namespace Go.Proofs.Ytoipfpjcpngpfaa.XO
open Go.RowKit Go.Proofs.YtoipfpjcpngpfaaW.PrintWords Go.ChangeShapes Go.WideShapes

/-- What reads as data of type t is a Lean value of kind d, and good. -/
def Opens {α : Type} (P : Program) (d : Kd α) (t : TypeId) (G : α → Prop) : Prop :=
  ∀ {H : Type} {enc : TypeId × Value → H} {w : World} {base : Nat} {spare : Nat → Bool} {held : Bool} {fuel : Nat} {cs : List Value} {x : DataW H × List MemPlace},
    DataW.trod enc P w base spare held fuel t cs = some x → ∃ a : α, d.K w a cs ∧ G a

variable {P : Program} {t : TypeId}

theorem add_add (a : Addr) (x i : Nat) : (a.add x).add i = a.add (x + i) := by
  unfold Addr.add
  by_cases hx : x = 0
  · subst hx
    simp
  · by_cases hi : i = 0
    · subst hi
      simp
    · simp [hx, hi, Nat.add_assoc]
theorem cells_read {w : World} {base : Nat} {a : Addr} {x n : Nat} {cs : List Value} (h : w.cells? base (a.add x) n = some cs) (i : Nat) (u : Value) (hu : cs[i]? = some u) : w.cell? (a.add (x + i)) = some u := by
  unfold World.cells? at h
  split at h
  · have hl : cs.length = n := by simpa using mapM_some_length h
    have hi : i < n := by
      rw [← hl]
      exact (List.getElem?_eq_some_iff.1 hu).1
    have hg := mapM_some_get h i i (by simp [hi])
    rw [hu, add_add] at hg
    exact hg
  · exact absurd h (by simp)

theorem family {α : Type} {p : Nat → α → Prop} (n : Nat) (h : ∀ i, i < n → ∃ x, p i x) : ∃ xs : List α, xs.length = n ∧ ∀ i x, xs[i]? = some x → p i x := by
  induction n with
  | zero => exact ⟨[], rfl, fun i x hx => by simp at hx⟩
  | succ n ih =>
    obtain ⟨xs, h1, h2⟩ := ih (fun i hi => h i (by omega))
    obtain ⟨y, hy⟩ := h n (by omega)
    refine ⟨xs ++ [y], by simp [h1], fun i x hx => ?_⟩
    by_cases hi : i < xs.length
    · rw [List.getElem?_append_left hi] at hx
      exact h2 i x hx
    · rw [List.getElem?_append_right (by omega)] at hx
      have hz : i - xs.length = 0 := by
        rcases Nat.eq_zero_or_pos (i - xs.length) with hz | hz
        · exact hz
        · rw [List.getElem?_eq_none (by simp; omega)] at hx
          exact absurd hx (by simp)
      rw [hz] at hx
      have hxy : y = x := by simpa using hx
      have hin : i = n := by omega
      rw [← hxy, hin]
      exact hy

theorem opens_int {k : IntKind} (ht : P.underlying t = some (.int k)) : Opens P (Kd.int k) t (fun n => (Lit.int k n).wf = true) := by
  intro H enc w base spare held fuel cs x h
  obtain ⟨n, rfl, _, hw⟩ := DataW.trod_int ht h
  exact ⟨n, rfl, hw⟩

theorem opens_string (ht : P.underlying t = some .string) : Opens P Kd.string t (fun s => s.size ≤ 9223372036854775807) := by
  intro H enc w base spare held fuel cs x h
  obtain ⟨s, rfl, _, hs⟩ := DataW.trod_string ht h
  exact ⟨s, rfl, by simpa [maxLen] using hs⟩

theorem opens_slice {α : Type} {d : Kd α} {G : α → Prop} {e : TypeId} (ht : P.underlying t = some (.slice e)) (hc : P.cellsOf e = d.sz) (h0 : Opens P d e G) :
    Opens P (Kd.slice e d) t (fun l => l.length ≤ 9223372036854775807 ∧ ∀ x ∈ l, G x) := by
  intro H enc w base spare held fuel cs x h
  rcases Go.Deep.open_slice ht h with ⟨rfl, _⟩ | ⟨a, len, cap, m, n, D, Pl, rfl, _, hl, hm, hmm, _, hel⟩
  · exact ⟨[], ⟨none, 0, rfl, Nat.le_refl _, rfl, by simp, fun hp => absurd hp (by simp)⟩, by simp, fun x hx => absurd hx (by simp)⟩
  · have hlm : len ≤ m := by
      rw [hmm]
      split
      · exact hl
      · exact Nat.le_refl _
    have hall : ∀ i, i < len → ∃ x : α, (∃ cs', w.cells? base (a.add (i * P.cellsOf e)) (P.cellsOf e) = some cs' ∧ d.K w x cs') ∧ G x := by
      intro i hi
      obtain ⟨cs', h1, h2⟩ := hel i (by omega)
      obtain ⟨x, hk, hg⟩ := h0 h2
      exact ⟨x, ⟨cs', h1, hk⟩, hg⟩
    have hlen : len ≤ 9223372036854775807 := by simp only [maxLen] at hm; omega
    obtain ⟨xs, h1, h2⟩ := family len hall
    refine ⟨xs, ⟨some a, cap, by rw [h1], by omega, rfl, by omega, fun _ => ⟨a, rfl, fun j p hj => ?_⟩⟩, by omega, fun x hx => ?_⟩
    · obtain ⟨⟨cs', hc1, hk⟩, _⟩ := h2 j p hj
      refine ⟨cs', d.K_len hk, hk, fun i u hu => ?_⟩
      rw [hc] at hc1
      exact cells_read hc1 i u hu
    · obtain ⟨i, hi⟩ := List.getElem?_of_mem hx
      exact (h2 i x hi).2

/-- A list of cells, cut behind its first n. -/
theorem cut_cells {cs : List Value} {o n total : Nat} (hl : cs.length = total) (ho : o + n = total) : (cs.drop o).take n = cs.drop o := by
  apply List.take_of_length_le
  simp
  omega
theorem part_cells (cs : List Value) (o n : Nat) : cs.drop o = (cs.drop o).take n ++ cs.drop (o + n) := by
  rw [← List.drop_drop, List.take_append_drop]
theorem get_cells {β : Type} {xs : List β} {n : Nat} (h : xs.length = n) (i : Nat) (hi : i < n) : ∃ y, xs[i]? = some y := ⟨xs[i], List.getElem?_eq_getElem (by omega)⟩
end Go.Proofs.Ytoipfpjcpngpfaa.XO
end

section
/- Which Lean values the laws' arguments are opened to: each struct type by its fields. -/
namespace Go.Proofs.Ytoipfpjcpngpfaa.Q
open Go.RowKit Go.Proofs.Ytoipfpjcpngpfaa.XO Go.Proofs.YtoipfpjcpngpfaaW.PrintWords Go.ChangeShapes Go.WideShapes
set_option linter.unusedVariables false
set_option linter.unusedSimpArgs false
def G59 (x : S59) : Prop := (Lit.int .i64 x.f0).wf = true ∧ (x.f1.length ≤ 9223372036854775807 ∧ ∀ y0 ∈ x.f1, y0.size ≤ 9223372036854775807)
theorem opens59 : Opens Try.prog k59 59 G59 := by
  intro H enc w base spare held fuel cs x h
  obtain ⟨xs, n, _, _, hl, hlen, hf⟩ := DataW.trod_struct Try.underlying59 h
  replace hl : cs.length = 2 := hl.trans (by kernel_rfl)
  replace hlen : xs.length = 2 := hlen
  obtain ⟨y0, e0⟩ := get_cells hlen 0 (by decide)
  have h0 : DataW.trod enc Try.prog w base spare held n 3 ((cs.drop 0).take (Try.prog.cellsOf 3)) = some y0 := (hf 0 _ rfl).trans e0
  rw [show Try.prog.cellsOf 3 = 1 from by kernel_rfl] at h0
  obtain ⟨a0, k0_, g0⟩ := (opens_int Try.underlying3) h0
  obtain ⟨y1, e1⟩ := get_cells hlen 1 (by decide)
  have h1 : DataW.trod enc Try.prog w base spare held n 24 ((cs.drop 1).take (Try.prog.cellsOf 24)) = some y1 := (hf 1 _ rfl).trans e1
  rw [show Try.prog.cellsOf 24 = 1 from by kernel_rfl] at h1
  obtain ⟨a1, k1_, g1⟩ := (opens_slice Try.underlying24 (by kernel_rfl) (opens_string Try.underlying9)) h1
  exact ⟨⟨a0, a1⟩, ⟨_, _, (List.drop_zero).symm.trans (part_cells cs 0 1), k0_, (by rw [← cut_cells hl (show 1 + 1 = 2 from rfl)]; exact k1_)⟩, g0, g1⟩
end Go.Proofs.Ytoipfpjcpngpfaa.Q
end

section
-- Written by a program of this session (wip/tools/pp.sh) over the print of the kit.
namespace Go.Proofs.Ytoipfpjcpngpfaa.Q
open Go.RowKit Go.Proofs.YtoipfpjcpngpfaaW.PrintWords Go.Proofs.YtoipfpjcpngpfaaW.PrintLast Go.Proofs.YtoipfpjcpngpfaaW.PrintMore
attribute [local go_sem] max2_int min2_int max_two min_two max_three min_three max_four min_four   -- for this text's walks alone
set_option linter.unusedVariables false
set_option linter.unusedSimpArgs false

/-! ### laws_big: function 36 -/
def laws_big.f (l0 : List Int) : Option (Bool) := some (decide ((l0.length : Int) > 1048576))
set_option maxHeartbeats 8000000 in
set_option maxRecDepth 100000 in
theorem laws_big.calls (A0 : Option Addr) (c0 : Nat) (l0 : List Int) (r : Bool) (w : World) (hr0 : Kd.C (Kd.int .u8) w A0 l0.length l0) (hc0 : l0.length ≤ c0) (h : laws_big.f l0 = some r) :
    Calls Try.prog 36 #[.slice A0 l0.length c0] w fun e w' => e = .returned (.bool r) ∧ Drawn0 w w' := by
  have HR0 := Aside0.mk hr0
  have HC0 := Aside0.mk hc0
  clear hr0 hc0
  have H : (some (decide ((l0.length : Int) > 1048576))) = some r := h
  clear h
  obtain rfl := Option.some.inj H
  go_enter Try.func36, Try.ntmps36
  go_wp2
  go_ret
  exact ⟨by first | rfl | (simp; done) | (simp [*]; done), by repeat (first | exact Drawn0.refl _ | apply Drawn0.step)⟩

end Go.Proofs.Ytoipfpjcpngpfaa.Q
end

section
-- Written by a program of this session (wip/tools/pp.sh) over the print of the kit.
namespace Go.Proofs.Ytoipfpjcpngpfaa.Q
open Go.RowKit Go.Proofs.YtoipfpjcpngpfaaW.PrintWords Go.Proofs.YtoipfpjcpngpfaaW.PrintLast Go.Proofs.YtoipfpjcpngpfaaW.PrintMore
attribute [local go_sem] max2_int min2_int max_two min_two max_three min_three max_four min_four   -- for this text's walks alone
set_option linter.unusedVariables false
set_option linter.unusedSimpArgs false

/-! ### laws_FnEdgesRight: function 9 -/
def laws_FnEdgesRight.j0 : Nat → Bool → Bool → Bool → Int → List ByteArray → Int → List ByteArray → Option (Bool)
  | 0, _, _, _, _, _, _, _ => none
  | k + 1, x6, x8, x34, x608000, x608001, x614000, x614001 => if x34 = true then (if (x6 == x8) = true then ((laws_sameTexts.f k x614001 x608001).bind fun t620 => (if t620 = true then (some (x614000 == x608000)) else (none))) else (none)) else ((impl_EdgeOk.f k x614000 x614001).bind fun t621 => (if t621 = true then (if x614000 = (wrap64 (x608000 + 1)) then ((impl_EdgeRoot.f k x614000 x614001).bind fun t622 => (if (t622.size : Int) = 32 then ((impl_EdgeRoot.f k x608000 x608001).bind fun t623 => (some ((t623.size : Int) == 32))) else (none))) else (none)) else (none)))
def laws_FnEdgesRight.f (k : Nat) (l0 : List Int) : Option (Bool) := (laws_big.f l0).bind fun t601 => (if t601 = true then (some true) else ((spec_DrawEdgeAdd.f k l0).bind fun bt602 => ((impl_EdgeAdd.f bt602.1 bt602.2.1 bt602.2.2).bind fun bt608 => ((spec_EdgeAdd.f k bt602.1 bt602.2.1 bt602.2.2).bind fun bt614 => (if (bt608.2.2 != bt614.2.2) = true then (laws_FnEdgesRight.j0 k bt608.2.2 bt614.2.2 true bt602.1 bt602.2.1 bt608.1 bt608.2.1) else (laws_FnEdgesRight.j0 k bt608.2.2 bt614.2.2 (!bt608.2.2) bt602.1 bt602.2.1 bt608.1 bt608.2.1))))))
theorem laws_FnEdgesRight.mono_l : ∀ k, (∀ y0 y1 y2 y3 y4 y5 y6, LeO (laws_FnEdgesRight.j0 k y0 y1 y2 y3 y4 y5 y6) (laws_FnEdgesRight.j0 (k + 1) y0 y1 y2 y3 y4 y5 y6))
  | 0 => fun _ _ _ _ _ _ _ r h => by simp [laws_FnEdgesRight.j0] at h
  | k + 1 => by
    have ih0 := laws_FnEdgesRight.mono_l k
    · intro y0 y1 y2 y3 y4 y5 y6
      unfold laws_FnEdgesRight.j0
      repeat' first
      | (with_reducible exact ih0 _ _ _ _ _ _ _)
      | (with_reducible exact impl_EdgeOk.mono _ _ _)
      | (with_reducible exact impl_EdgeRoot.mono _ _ _)
      | (with_reducible exact laws_sameTexts.mono _ _ _)
      | (with_reducible exact spec_DrawEdgeAdd.mono _ _)
      | (with_reducible exact spec_EdgeAdd.mono _ _ _ _)
      | (with_reducible exact LeO.refl _)
      | (with_reducible exact LeO.none _)
      | (with_reducible refine LeO.ite ?_ ?_)
      | (with_reducible refine LeO.bind ?_ (fun _ => ?_))
      | exact ih0 _ _ _ _ _ _ _
      | exact impl_EdgeOk.mono _ _ _
      | exact impl_EdgeRoot.mono _ _ _
      | exact laws_sameTexts.mono _ _ _
      | exact spec_DrawEdgeAdd.mono _ _
      | exact spec_EdgeAdd.mono _ _ _ _
      | exact LeO.none _
      | refine LeO.ite ?_ ?_
      | refine LeO.bind ?_ (fun _ => ?_)
theorem laws_FnEdgesRight.mono : ∀ a0 k, LeO (laws_FnEdgesRight.f k a0) (laws_FnEdgesRight.f (k + 1) a0) := by
  intro a0 k
  have ih0 := laws_FnEdgesRight.mono_l k
  unfold laws_FnEdgesRight.f
  repeat' first
      | (with_reducible exact ih0 _ _ _ _ _ _ _)
      | (with_reducible exact impl_EdgeOk.mono _ _ _)
      | (with_reducible exact impl_EdgeRoot.mono _ _ _)
      | (with_reducible exact laws_sameTexts.mono _ _ _)
      | (with_reducible exact spec_DrawEdgeAdd.mono _ _)
      | (with_reducible exact spec_EdgeAdd.mono _ _ _ _)
      | (with_reducible exact LeO.refl _)
      | (with_reducible exact LeO.none _)
      | (with_reducible refine LeO.ite ?_ ?_)
      | (with_reducible refine LeO.bind ?_ (fun _ => ?_))
      | exact ih0 _ _ _ _ _ _ _
      | exact impl_EdgeOk.mono _ _ _
      | exact impl_EdgeRoot.mono _ _ _
      | exact laws_sameTexts.mono _ _ _
      | exact spec_DrawEdgeAdd.mono _ _
      | exact spec_EdgeAdd.mono _ _ _ _
      | exact LeO.none _
      | refine LeO.ite ?_ ?_
      | refine LeO.bind ?_ (fun _ => ?_)
set_option maxHeartbeats 8000000 in
set_option maxRecDepth 100000 in
theorem laws_FnEdgesRight.calls (k : Nat) (A0 : Option Addr) (c0 : Nat) (l0 : List Int) (r : Bool) (w : World) (hr0 : Kd.C (Kd.int .u8) w A0 l0.length l0) (hc0 : l0.length ≤ c0) (h : laws_FnEdgesRight.f k l0 = some r) :
    Calls Try.prog 9 #[.slice A0 l0.length c0] w fun e w' => e = .returned (.bool r) ∧ Below w.heap.size w w' := by
  have hu61 := Try.underlying61
  have HR0 := Aside0.mk hr0
  have HC0 := Aside0.mk hc0
  clear hr0 hc0
  have HB := Aside0.mk (Below.refl w.heap.size w)
  have H : ((laws_big.f l0).bind fun t601 => (if t601 = true then (some true) else ((spec_DrawEdgeAdd.f k l0).bind fun bt602 => ((impl_EdgeAdd.f bt602.1 bt602.2.1 bt602.2.2).bind fun bt608 => ((spec_EdgeAdd.f k bt602.1 bt602.2.1 bt602.2.2).bind fun bt614 => (if (bt608.2.2 != bt614.2.2) = true then (laws_FnEdgesRight.j0 k bt608.2.2 bt614.2.2 true bt602.1 bt602.2.1 bt608.1 bt608.2.1) else (laws_FnEdgesRight.j0 k bt608.2.2 bt614.2.2 (!bt608.2.2) bt602.1 bt602.2.1 bt608.1 bt608.2.1))))))) = some r := h
  clear h
  replace H := Option.bind_eq_some_iff.mp H
  obtain ⟨t601, A20, H⟩ := H
  replace H : (if t601 = true then (some true) else ((spec_DrawEdgeAdd.f k l0).bind fun bt602 => ((impl_EdgeAdd.f bt602.1 bt602.2.1 bt602.2.2).bind fun bt608 => ((spec_EdgeAdd.f k bt602.1 bt602.2.1 bt602.2.2).bind fun bt614 => (if (bt608.2.2 != bt614.2.2) = true then (laws_FnEdgesRight.j0 k bt608.2.2 bt614.2.2 true bt602.1 bt602.2.1 bt608.1 bt608.2.1) else (laws_FnEdgesRight.j0 k bt608.2.2 bt614.2.2 (!bt608.2.2) bt602.1 bt602.2.1 bt608.1 bt608.2.1)))))) = some r := H
  have A2 := Aside0.mk A20
  clear A20
  by_cases c3 : t601 = true
  · subst c3
    have H1 : (some true) = some r := by rw [if_pos rfl] at H; exact H
    clear H
    have H := H1
    clear H1
    obtain rfl := Option.some.inj H
    go_enter Try.func9, Try.ntmps9
    go_wp2_with (first | ((with_reducible refine gate_callee (f := 36) rfl ?_); refine goesL_ (some 10) rfl rfl Try.func36 (by kernel_rfl) rfl #[.slice A0 l0.length c0] rfl (by (try simp only [List.map_toArray, List.map_cons, List.map_nil]); first | done | rfl | (simp only [List.length_drop, List.length_take]; rfl)) ?_; (with_reducible refine (laws_big.calls _ _ l0 true _ ?side1 ?side2 A2.out).mono ?_); (case side1 => repeat (first | exact HR0.out | (with_reducible refine Kd.C_alloc ?_ _) | (with_reducible refine Kd.C_drewN ?_ _) | (with_reducible refine Kd.C_drew ?_))); (case side2 => exact HC0.out); rintro e w' ⟨rfl, ⟨nd, rfl⟩⟩; refine ⟨_, rfl, ?_⟩))
    go_ret
    exact ⟨by first | rfl | (simp [errW_none, errW_some] <;> rfl) | (simp [*, errW_none, errW_some] <;> rfl), by repeat (first | (with_reducible first | exact HB.out | apply below_alloc | apply pw_below_drewN | apply below_drew1) | exact HB.out)⟩
  · replace c3 := Bool.eq_false_iff.mpr c3
    subst c3
    have H1 : ((spec_DrawEdgeAdd.f k l0).bind fun bt602 => ((impl_EdgeAdd.f bt602.1 bt602.2.1 bt602.2.2).bind fun bt608 => ((spec_EdgeAdd.f k bt602.1 bt602.2.1 bt602.2.2).bind fun bt614 => (if (bt608.2.2 != bt614.2.2) = true then (laws_FnEdgesRight.j0 k bt608.2.2 bt614.2.2 true bt602.1 bt602.2.1 bt608.1 bt608.2.1) else (laws_FnEdgesRight.j0 k bt608.2.2 bt614.2.2 (!bt608.2.2) bt602.1 bt602.2.1 bt608.1 bt608.2.1))))) = some r := by rw [if_neg (show ¬ (false = true) by decide)] at H; exact H
    clear H
    have H := H1
    clear H1
    replace H := Option.bind_eq_some_iff.mp H
    obtain ⟨⟨t602, t603, t606⟩, A40, H⟩ := H
    replace H : ((impl_EdgeAdd.f t602 t603 t606).bind fun bt608 => ((spec_EdgeAdd.f k t602 t603 t606).bind fun bt614 => (if (bt608.2.2 != bt614.2.2) = true then (laws_FnEdgesRight.j0 k bt608.2.2 bt614.2.2 true t602 t603 bt608.1 bt608.2.1) else (laws_FnEdgesRight.j0 k bt608.2.2 bt614.2.2 (!bt608.2.2) t602 t603 bt608.1 bt608.2.1)))) = some r := H
    have A4 := Aside0.mk A40
    clear A40
    replace H := Option.bind_eq_some_iff.mp H
    obtain ⟨⟨t608, t609, t612⟩, A50, H⟩ := H
    replace H : ((spec_EdgeAdd.f k t602 t603 t606).bind fun bt614 => (if (t612 != bt614.2.2) = true then (laws_FnEdgesRight.j0 k t612 bt614.2.2 true t602 t603 t608 t609) else (laws_FnEdgesRight.j0 k t612 bt614.2.2 (!t612) t602 t603 t608 t609))) = some r := H
    have A5 := Aside0.mk A50
    clear A50
    replace H := Option.bind_eq_some_iff.mp H
    obtain ⟨⟨t614, t615, t618⟩, A60, H⟩ := H
    replace H : (if (t612 != t618) = true then (laws_FnEdgesRight.j0 k t612 t618 true t602 t603 t608 t609) else (laws_FnEdgesRight.j0 k t612 t618 (!t612) t602 t603 t608 t609)) = some r := H
    have A6 := Aside0.mk A60
    clear A60
    have HC7 := Aside0.mk H
    clear H
    go_enter Try.func9, Try.ntmps9
    go_upto_region 6 with (first | ((with_reducible refine gate_callee (f := 36) rfl ?_); refine goesL_ (some 10) rfl rfl Try.func36 (by kernel_rfl) rfl #[.slice A0 l0.length c0] rfl (by (try simp only [List.map_toArray, List.map_cons, List.map_nil]); first | done | rfl | (simp only [List.length_drop, List.length_take]; rfl)) ?_; (with_reducible refine (laws_big.calls _ _ l0 false _ ?side1 ?side2 A2.out).mono ?_); (case side1 => repeat (first | exact HR0.out | (with_reducible refine Kd.C_alloc ?_ _) | (with_reducible refine Kd.C_drewN ?_ _) | (with_reducible refine Kd.C_drew ?_))); (case side2 => exact HC0.out); rintro e w' ⟨rfl, ⟨nd, rfl⟩⟩; refine ⟨_, rfl, ?_⟩) | ((with_reducible refine gate_callee (f := 55) rfl ?_); refine goesL_ (some 13) rfl rfl Try.func55 (by kernel_rfl) rfl #[.slice A0 l0.length c0] rfl (by (try simp only [List.map_toArray, List.map_cons, List.map_nil]); first | done | rfl | (simp only [List.length_drop, List.length_take]; rfl)) ?_; (with_reducible refine (spec_DrawEdgeAdd.calls k _ _ l0 t602 t603 t606 _ ?side1 ?side2 A4.out).mono ?_); (case side1 => repeat (first | exact HR0.out | (with_reducible refine Kd.C_alloc ?_ _) | (with_reducible refine Kd.C_drewN ?_ _) | (with_reducible refine Kd.C_drew ?_))); (case side2 => exact HC0.out); rintro e w8 ⟨v604, rfl, ho0, hb⟩; refine ⟨_, rfl, ?_⟩; have n0_ := Aside0.mk (Kd.R_lower ho0 (below_size (by repeat (first | (with_reducible first | exact HB.out | apply below_alloc | apply pw_below_drewN | apply below_drew1) | exact HB.out)))); have n1_ := Aside0.mk (below_step (by repeat (first | (with_reducible first | exact HB.out | apply below_alloc | apply pw_below_drewN | apply below_drew1) | exact HB.out)) hb); clear HB; have HO605 := n0_; have HB := n1_; clear n0_ n1_; (try clear hb); (try clear hb2); (try clear hk); (try clear hi); (try clear ho0)) | ((with_reducible refine gate_dst (N := 3) rfl ?_); (try (refine gate_guard (by rfl) ?_; dsimp only)); refine box_event ?hg (N := 3) ?hd (cs := #[.int .i64 0, .slice none 0 0]) (t := 61) ?hr ?_; (case hd => rfl); (case hg => rfl); (case hr => first | (go_simp; done) | (go_simp; rfl)); intro gb607 hg w9 hbox hb; have n0_ := Aside0.mk (Kd.R_below (by (with_reducible repeat (first | apply Kd.R_alloc | apply Kd.R_drewN | apply Kd.R_drew)); exact HO605.out) hb); have n1_ := Aside0.mk (below_step (by repeat (first | (with_reducible first | exact HB.out | apply below_alloc | apply pw_below_drewN | apply below_drew1) | exact HB.out)) hb); have n2_ := Aside0.mk (hbox); have n3_ := Aside0.mk ((by rw [hg]; exact (below_size (by repeat (first | (with_reducible first | exact HB.out | apply below_alloc | apply pw_below_drewN | apply below_drew1) | exact HB.out))) : w.heap.size ≤ gb607)); have n4_ := Aside0.mk ((by rw [hg]; exact (below_size (by repeat (first | (with_reducible first | exact HB.out | apply below_alloc | apply pw_below_drewN | apply below_drew1) | exact HB.out))) : w.heap.size ≤ gb607)); clear HO605; clear HB; have HO605 := n0_; have HB := n1_; have BK607 := n2_; have GW607 := n3_; have GE607 := n4_; clear n0_ n1_ n2_ n3_ n4_; clear hb hbox hg; have hcz10_0 : w9.cell? ⟨gb607, 0, none⟩ = some (.int .i64 0) := (blk_cell BK607.out 0).trans rfl; have hcz10_1 : w9.cell? ⟨gb607, 1, none⟩ = some (.slice none 0 0) := (blk_cell BK607.out 1).trans rfl; have hfz10_0 := blk_frozen BK607.out 0; have hfz10_1 := blk_frozen BK607.out 1; obtain ⟨Ao11, co11, eo11⟩ := Kd.R_slice HO605.out; subst eo11) | ((with_reducible refine gate_callee (f := 47) rfl ?_); refine goesL_ (some 19) rfl rfl Try.func47 (by kernel_rfl) rfl #[.agg #[.int .i64 t602, .slice Ao11 t603.length co11], .string t606] rfl (by (try simp only [List.map_toArray, List.map_cons, List.map_nil]); first | done | rfl | (simp only [List.length_drop, List.length_take]; rfl)) ?_; (with_reducible refine (impl_EdgeAdd.calls t602 _ _ t603 t606 t608 t609 t612 _ ?side1 ?side2 A5.out).mono ?_); (case side1 => refine (Kd.R_reads' (e := 9) (base := w.heap.size) (ok := fun k_ => True) (n := t603.length) (c := co11) ?_).2.2; exact (by (with_reducible repeat (first | apply Kd.R_alloc | apply Kd.R_drewN | apply Kd.R_drew)); exact (Kd.R_mono (Kd.R_far (p := ⟨gb607, 1, none⟩) (Kd.R_far (p := ⟨gb607, 0, none⟩) (Kd.R_types HO605.out BK607.out (by decide)) (fun _ hk => hk.2) (.int .i64 t602)) (fun _ hk => hk.2) (.slice Ao11 t603.length co11)) (fun _ h_ => h_.1)))); (case side2 => exact (Kd.R_reads' HO605.out).2.1); rintro e w12 ⟨v610, rfl, ho0, hb⟩; refine ⟨_, rfl, ?_⟩; have n0_ := Aside0.mk (Kd.R_elder' (by (with_reducible repeat (first | apply Kd.R_alloc | apply Kd.R_drewN | apply Kd.R_drew)); exact (Kd.R_mono (Kd.R_far (p := ⟨gb607, 1, none⟩) (Kd.R_far (p := ⟨gb607, 0, none⟩) (Kd.R_types HO605.out BK607.out (by decide)) (fun _ hk => hk.2) (.int .i64 t602)) (fun _ hk => hk.2) (.slice Ao11 t603.length co11)) (fun _ h_ => h_.1))) (Kd.R_base ho0) hb); have n1_ := Aside0.mk (Kd.R_lower (Kd.R_new' ho0 (Kd.R_lt (by (with_reducible repeat (first | apply Kd.R_alloc | apply Kd.R_drewN | apply Kd.R_drew)); exact (Kd.R_mono (Kd.R_far (p := ⟨gb607, 1, none⟩) (Kd.R_far (p := ⟨gb607, 0, none⟩) (Kd.R_types HO605.out BK607.out (by decide)) (fun _ hk => hk.2) (.int .i64 t602)) (fun _ hk => hk.2) (.slice Ao11 t603.length co11)) (fun _ h_ => h_.1))))) (below_size (by repeat (first | (with_reducible first | exact HB.out | apply below_alloc | apply pw_below_drewN | apply below_drew1 | refine below_set ?_ GE607.out) | exact HB.out)))); have n2_ := Aside0.mk (blk_below (g := gb607) (o := .cells #[.int .i64 t602, .slice Ao11 t603.length co11] 61 (0, 0)) (by (with_reducible repeat (first | refine blk_drewN ?_ _ | refine blk_drew ?_ | refine blk_alloc ?_ _)); refine blk_put (cs := #[.int .i64 t602, .slice none 0 0]) ?_ 1 _ rfl; (with_reducible repeat (first | refine blk_drewN ?_ _ | refine blk_drew ?_ | refine blk_alloc ?_ _)); refine blk_put (cs := #[.int .i64 0, .slice none 0 0]) ?_ 0 _ rfl; (with_reducible repeat (first | refine blk_drewN ?_ _ | refine blk_drew ?_ | refine blk_alloc ?_ _)); exact BK607.out) hb); have n3_ := Aside0.mk (below_step (by repeat (first | (with_reducible first | exact HB.out | apply below_alloc | apply pw_below_drewN | apply below_drew1 | refine below_set ?_ GE607.out) | exact HB.out)) hb); clear HO605; clear BK607; clear HB; have HO605 := n0_; have HO611 := n1_; have BK607 := n2_; have HB := n3_; clear n0_ n1_ n2_ n3_; (try clear hb); (try clear hb2); (try clear hk); (try clear hi); (try clear ho0)) | ((with_reducible refine gate_dst (N := 5) rfl ?_); (try (refine gate_guard (by rfl) ?_; dsimp only)); refine box_event ?hg (N := 5) ?hd (cs := #[.int .i64 0, .slice none 0 0]) (t := 61) ?hr ?_; (case hd => rfl); (case hg => rfl); (case hr => first | (go_simp; done) | (go_simp; rfl)); intro gb613 hg w13 hbox hb; have n0_ := Aside0.mk (Kd.R_below (by (with_reducible repeat (first | apply Kd.R_alloc | apply Kd.R_drewN | apply Kd.R_drew)); exact HO605.out) hb); have n1_ := Aside0.mk (Kd.R_below (by (with_reducible repeat (first | apply Kd.R_alloc | apply Kd.R_drewN | apply Kd.R_drew)); exact HO611.out) hb); have n2_ := Aside0.mk (blk_below (g := gb607) (o := .cells #[.int .i64 t602, .slice Ao11 t603.length co11] 61 (0, 0)) (by (with_reducible repeat (first | refine blk_drewN ?_ _ | refine blk_drew ?_ | refine blk_alloc ?_ _)); exact BK607.out) hb); have n3_ := Aside0.mk (below_step (by repeat (first | (with_reducible first | exact HB.out | apply below_alloc | apply pw_below_drewN | apply below_drew1 | refine below_set ?_ GE607.out) | exact HB.out)) hb); have n4_ := Aside0.mk (hbox); have n5_ := Aside0.mk ((by rw [hg]; exact (below_size (by repeat (first | (with_reducible first | exact HB.out | apply below_alloc | apply pw_below_drewN | apply below_drew1 | refine below_set ?_ GE607.out) | exact HB.out))) : w.heap.size ≤ gb613)); have n6_ := Aside0.mk ((by rw [hg]; exact (below_size (by repeat (first | (with_reducible first | exact HB.out | apply below_alloc | apply pw_below_drewN | apply below_drew1 | refine below_set ?_ GE607.out) | exact HB.out))) : w.heap.size ≤ gb613)); have n7_ := Aside0.mk ((by rw [hg]; exact Nat.ne_of_lt (blk_lt (g := gb607) (o := .cells #[.int .i64 t602, .slice Ao11 t603.length co11] 61 (0, 0)) (by (with_reducible repeat (first | refine blk_drewN ?_ _ | refine blk_drew ?_ | refine blk_alloc ?_ _)); exact BK607.out)) : gb607 ≠ gb613)); have n8_ := Aside0.mk ((by rw [hg]; exact Nat.ne_of_gt (blk_lt (g := gb607) (o := .cells #[.int .i64 t602, .slice Ao11 t603.length co11] 61 (0, 0)) (by (with_reducible repeat (first | refine blk_drewN ?_ _ | refine blk_drew ?_ | refine blk_alloc ?_ _)); exact BK607.out)) : gb613 ≠ gb607)); clear HO605; clear HO611; clear BK607; clear HB; have HO605 := n0_; have HO611 := n1_; have BK607 := n2_; have HB := n3_; have BK613 := n4_; have GW613 := n5_; have GE613 := n6_; have NB607_613 := n7_; have NB613_607 := n8_; clear n0_ n1_ n2_ n3_ n4_ n5_ n6_ n7_ n8_; clear hb hbox hg; have hnb14 := NB613_607.out; have hnc14 := NB607_613.out; have hcz15_0 : w13.cell? ⟨gb613, 0, none⟩ = some (.int .i64 0) := (blk_cell BK613.out 0).trans rfl; have hcz15_1 : w13.cell? ⟨gb613, 1, none⟩ = some (.slice none 0 0) := (blk_cell BK613.out 1).trans rfl; have hfz15_0 := blk_frozen BK613.out 0; have hfz15_1 := blk_frozen BK613.out 1; obtain ⟨Ao16, co16, eo16⟩ := Kd.R_slice HO611.out; subst eo16; have hcz17_0 : w13.cell? ⟨gb607, 0, none⟩ = some (.int .i64 t602) := (blk_cell BK607.out 0).trans rfl; have hcz17_1 : w13.cell? ⟨gb607, 1, none⟩ = some (.slice Ao11 t603.length co11) := (blk_cell BK607.out 1).trans rfl; have hfz17_0 := blk_frozen BK607.out 0; have hfz17_1 := blk_frozen BK607.out 1) | ((with_reducible refine gate_callee (f := 45) rfl ?_); refine goesL_ (some 25) rfl rfl Try.func45 (by kernel_rfl) rfl #[.agg #[.int .i64 t602, .slice Ao11 t603.length co11], .string t606] rfl (by (try simp only [List.map_toArray, List.map_cons, List.map_nil]); first | done | rfl | (simp only [List.length_drop, List.length_take]; rfl)) ?_; (with_reducible refine (spec_EdgeAdd.calls k t602 _ _ t603 t606 t614 t615 t618 _ ?side1 ?side2 A6.out).mono ?_); (case side1 => refine (Kd.R_reads' (e := 9) (base := w.heap.size) (ok := fun k_ => (True ∧ some k_ ≠ (.slice Ao16 t609.length co16 : Value).ownBlock)) (n := t603.length) (c := co11) ?_).2.2; exact (by (with_reducible repeat (first | apply Kd.R_alloc | apply Kd.R_drewN | apply Kd.R_drew)); exact (Kd.R_mono (Kd.R_far (p := ⟨gb613, 1, none⟩) (Kd.R_far (p := ⟨gb613, 0, none⟩) (Kd.R_types HO605.out BK613.out (by decide)) (fun _ hk => hk.2) (.int .i64 t608)) (fun _ hk => hk.2) (.slice Ao16 t609.length co16)) (fun _ h_ => h_.1)))); (case side2 => exact (Kd.R_reads' HO605.out).2.1); rintro e w18 ⟨v616, rfl, ho0, hb⟩; refine ⟨_, rfl, ?_⟩; have n0_ := Aside0.mk (Kd.R_elder' (by (with_reducible repeat (first | apply Kd.R_alloc | apply Kd.R_drewN | apply Kd.R_drew)); exact (Kd.R_mono (Kd.R_far (p := ⟨gb613, 1, none⟩) (Kd.R_far (p := ⟨gb613, 0, none⟩) (Kd.R_types HO605.out BK613.out (by decide)) (fun _ hk => hk.2) (.int .i64 t608)) (fun _ hk => hk.2) (.slice Ao16 t609.length co16)) (fun _ h_ => h_.1))) (Kd.R_base ho0) hb); have n1_ := Aside0.mk (Kd.R_elder' (by (with_reducible repeat (first | apply Kd.R_alloc | apply Kd.R_drewN | apply Kd.R_drew)); exact (Kd.R_mono (Kd.R_far (p := ⟨gb613, 1, none⟩) (Kd.R_far (p := ⟨gb613, 0, none⟩) (Kd.R_types HO611.out BK613.out (by decide)) (fun _ hk => hk.2) (.int .i64 t608)) (fun _ hk => hk.2) (.slice Ao16 t609.length co16)) (fun _ h_ => h_.1))) (Kd.R_base ho0) hb); have n2_ := Aside0.mk (Kd.R_lower (Kd.R_new' (Kd.R_new' ho0 (Kd.R_lt (by (with_reducible repeat (first | apply Kd.R_alloc | apply Kd.R_drewN | apply Kd.R_drew)); exact (Kd.R_mono (Kd.R_far (p := ⟨gb613, 1, none⟩) (Kd.R_far (p := ⟨gb613, 0, none⟩) (Kd.R_types HO605.out BK613.out (by decide)) (fun _ hk => hk.2) (.int .i64 t608)) (fun _ hk => hk.2) (.slice Ao16 t609.length co16)) (fun _ h_ => h_.1))))) (Kd.R_lt (by (with_reducible repeat (first | apply Kd.R_alloc | apply Kd.R_drewN | apply Kd.R_drew)); exact (Kd.R_mono (Kd.R_far (p := ⟨gb613, 1, none⟩) (Kd.R_far (p := ⟨gb613, 0, none⟩) (Kd.R_types HO611.out BK613.out (by decide)) (fun _ hk => hk.2) (.int .i64 t608)) (fun _ hk => hk.2) (.slice Ao16 t609.length co16)) (fun _ h_ => h_.1))))) (below_size (by repeat (first | (with_reducible first | exact HB.out | apply below_alloc | apply pw_below_drewN | apply below_drew1 | refine below_set ?_ GE607.out | refine below_set ?_ GE613.out) | exact HB.out)))); have n3_ := Aside0.mk (blk_below (g := gb607) (o := .cells #[.int .i64 t602, .slice Ao11 t603.length co11] 61 (0, 0)) (by (with_reducible repeat (first | refine blk_drewN ?_ _ | refine blk_drew ?_ | refine blk_alloc ?_ _)); refine blk_far ?_ NB607_613.out _; (with_reducible repeat (first | refine blk_drewN ?_ _ | refine blk_drew ?_ | refine blk_alloc ?_ _)); refine blk_far ?_ NB607_613.out _; (with_reducible repeat (first | refine blk_drewN ?_ _ | refine blk_drew ?_ | refine blk_alloc ?_ _)); exact BK607.out) hb); have n4_ := Aside0.mk (blk_below (g := gb613) (o := .cells #[.int .i64 t608, .slice Ao16 t609.length co16] 61 (0, 0)) (by (with_reducible repeat (first | refine blk_drewN ?_ _ | refine blk_drew ?_ | refine blk_alloc ?_ _)); refine blk_put (cs := #[.int .i64 t608, .slice none 0 0]) ?_ 1 _ rfl; (with_reducible repeat (first | refine blk_drewN ?_ _ | refine blk_drew ?_ | refine blk_alloc ?_ _)); refine blk_put (cs := #[.int .i64 0, .slice none 0 0]) ?_ 0 _ rfl; (with_reducible repeat (first | refine blk_drewN ?_ _ | refine blk_drew ?_ | refine blk_alloc ?_ _)); exact BK613.out) hb); have n5_ := Aside0.mk (below_step (by repeat (first | (with_reducible first | exact HB.out | apply below_alloc | apply pw_below_drewN | apply below_drew1 | refine below_set ?_ GE607.out | refine below_set ?_ GE613.out) | exact HB.out)) hb); clear HO605; clear HO611; clear BK607; clear BK613; clear HB; have HO605 := n0_; have HO611 := n1_; have HO617 := n2_; have BK607 := n3_; have BK613 := n4_; have HB := n5_; clear n0_ n1_ n2_ n3_ n4_ n5_; (try clear hb); (try clear hb2); (try clear hk); (try clear hi); (try clear ho0)) | ((with_reducible refine gate_dst (N := 7) rfl ?_); (try (refine gate_guard (by rfl) ?_; dsimp only)); refine box_event ?hg (N := 7) ?hd (cs := #[.int .i64 0, .slice none 0 0]) (t := 61) ?hr ?_; (case hd => rfl); (case hg => rfl); (case hr => first | (go_simp; done) | (go_simp; rfl)); intro gb619 hg w19 hbox hb; have n0_ := Aside0.mk (Kd.R_below (by (with_reducible repeat (first | apply Kd.R_alloc | apply Kd.R_drewN | apply Kd.R_drew)); exact HO605.out) hb); have n1_ := Aside0.mk (Kd.R_below (by (with_reducible repeat (first | apply Kd.R_alloc | apply Kd.R_drewN | apply Kd.R_drew)); exact HO611.out) hb); have n2_ := Aside0.mk (Kd.R_below (by (with_reducible repeat (first | apply Kd.R_alloc | apply Kd.R_drewN | apply Kd.R_drew)); exact HO617.out) hb); have n3_ := Aside0.mk (blk_below (g := gb607) (o := .cells #[.int .i64 t602, .slice Ao11 t603.length co11] 61 (0, 0)) (by (with_reducible repeat (first | refine blk_drewN ?_ _ | refine blk_drew ?_ | refine blk_alloc ?_ _)); exact BK607.out) hb); have n4_ := Aside0.mk (blk_below (g := gb613) (o := .cells #[.int .i64 t608, .slice Ao16 t609.length co16] 61 (0, 0)) (by (with_reducible repeat (first | refine blk_drewN ?_ _ | refine blk_drew ?_ | refine blk_alloc ?_ _)); exact BK613.out) hb); have n5_ := Aside0.mk (below_step (by repeat (first | (with_reducible first | exact HB.out | apply below_alloc | apply pw_below_drewN | apply below_drew1 | refine below_set ?_ GE607.out | refine below_set ?_ GE613.out) | exact HB.out)) hb); have n6_ := Aside0.mk (hbox); have n7_ := Aside0.mk ((by rw [hg]; exact (below_size (by repeat (first | (with_reducible first | exact HB.out | apply below_alloc | apply pw_below_drewN | apply below_drew1 | refine below_set ?_ GE607.out | refine below_set ?_ GE613.out) | exact HB.out))) : w.heap.size ≤ gb619)); have n8_ := Aside0.mk ((by rw [hg]; exact (below_size (by repeat (first | (with_reducible first | exact HB.out | apply below_alloc | apply pw_below_drewN | apply below_drew1 | refine below_set ?_ GE607.out | refine below_set ?_ GE613.out) | exact HB.out))) : w.heap.size ≤ gb619)); have n9_ := Aside0.mk ((by rw [hg]; exact Nat.ne_of_lt (blk_lt (g := gb607) (o := .cells #[.int .i64 t602, .slice Ao11 t603.length co11] 61 (0, 0)) (by (with_reducible repeat (first | refine blk_drewN ?_ _ | refine blk_drew ?_ | refine blk_alloc ?_ _)); exact BK607.out)) : gb607 ≠ gb619)); have n10_ := Aside0.mk ((by rw [hg]; exact Nat.ne_of_gt (blk_lt (g := gb607) (o := .cells #[.int .i64 t602, .slice Ao11 t603.length co11] 61 (0, 0)) (by (with_reducible repeat (first | refine blk_drewN ?_ _ | refine blk_drew ?_ | refine blk_alloc ?_ _)); exact BK607.out)) : gb619 ≠ gb607)); have n11_ := Aside0.mk ((by rw [hg]; exact Nat.ne_of_lt (blk_lt (g := gb613) (o := .cells #[.int .i64 t608, .slice Ao16 t609.length co16] 61 (0, 0)) (by (with_reducible repeat (first | refine blk_drewN ?_ _ | refine blk_drew ?_ | refine blk_alloc ?_ _)); exact BK613.out)) : gb613 ≠ gb619)); have n12_ := Aside0.mk ((by rw [hg]; exact Nat.ne_of_gt (blk_lt (g := gb613) (o := .cells #[.int .i64 t608, .slice Ao16 t609.length co16] 61 (0, 0)) (by (with_reducible repeat (first | refine blk_drewN ?_ _ | refine blk_drew ?_ | refine blk_alloc ?_ _)); exact BK613.out)) : gb619 ≠ gb613)); clear HO605; clear HO611; clear HO617; clear BK607; clear BK613; clear HB; have HO605 := n0_; have HO611 := n1_; have HO617 := n2_; have BK607 := n3_; have BK613 := n4_; have HB := n5_; have BK619 := n6_; have GW619 := n7_; have GE619 := n8_; have NB607_619 := n9_; have NB619_607 := n10_; have NB613_619 := n11_; have NB619_613 := n12_; clear n0_ n1_ n2_ n3_ n4_ n5_ n6_ n7_ n8_ n9_ n10_ n11_ n12_; clear hb hbox hg; have hnb20 := NB619_607.out; have hnc20 := NB607_619.out; have hnb21 := NB619_613.out; have hnc21 := NB613_619.out; have hcz22_0 : w19.cell? ⟨gb619, 0, none⟩ = some (.int .i64 0) := (blk_cell BK619.out 0).trans rfl; have hcz22_1 : w19.cell? ⟨gb619, 1, none⟩ = some (.slice none 0 0) := (blk_cell BK619.out 1).trans rfl; have hfz22_0 := blk_frozen BK619.out 0; have hfz22_1 := blk_frozen BK619.out 1; obtain ⟨Ao23, co23, eo23⟩ := Kd.R_slice HO617.out; subst eo23))
    (try simp only [Act.put, List.setIfInBounds_toArray, List.set_cons_zero, List.set_cons_succ])
    go_cut [34] (fun v34 wc => ∃ (kq : Nat) (x34_6 : Bool), v34 = .bool x34_6 ∧ Aside0 (laws_FnEdgesRight.j0 kq t612 t618 x34_6 t602 t603 t608 t609 = some r) ∧ Aside0 (kq ≤ k) ∧ Aside0 (Kd.R Kd.string 9 wc w.heap.size (fun k_ => some k_ ≠ ((.slice Ao16 t609.length co16) : Value).ownBlock ∧ some k_ ≠ ((.slice Ao23 t615.length co23) : Value).ownBlock) (.slice Ao11 t603.length co11) t603) ∧ Aside0 (Kd.R Kd.string 9 wc w.heap.size (fun k_ => some k_ ≠ ((.slice Ao11 t603.length co11) : Value).ownBlock ∧ some k_ ≠ ((.slice Ao23 t615.length co23) : Value).ownBlock) (.slice Ao16 t609.length co16) t609) ∧ Aside0 (Kd.R Kd.string 9 wc w.heap.size (fun k_ => some k_ ≠ ((.slice Ao11 t603.length co11) : Value).ownBlock ∧ some k_ ≠ ((.slice Ao16 t609.length co16) : Value).ownBlock) (.slice Ao23 t615.length co23) t615) ∧ Aside0 (wc.heap[gb607]? = some (.cells #[.int .i64 t602, (.slice Ao11 t603.length co11)] 61 (0, 0))) ∧ Aside0 (wc.heap[gb613]? = some (.cells #[.int .i64 t608, (.slice Ao16 t609.length co16)] 61 (0, 0))) ∧ Aside0 (wc.heap[gb619]? = some (.cells #[.int .i64 t614, (.slice Ao23 t615.length co23)] 61 (0, 0))) ∧ Aside0 (Below w.heap.size w wc))
    case first =>
      have H := HC7.out
      clear HC7
      by_cases c24 : (t612 != t618) = true
      · rw [if_pos c24] at H
        have c24b0 : (t612 != t618) = true := c24
        (try (have c24b1 : decide (t612 = t618) = false := by simpa using c24))
        (try (have c24b2 : (t612 == t618) = false := by simpa using c24))
        (try (have c24b3 : ¬ (t612 = t618) := by simpa using c24))
        clear c24
        (first | rw [c24b0] | (simp only [i64_w, i32_w]; rw [c24b0]) | skip)
        have H' := Aside0.mk H
        clear H
        go_wp2
        go_meet
        case rel => exact ⟨_, (true), (by first | rfl | (simp; done) | (simp [*]; done)), H', ⟨by first | omega | exact Nat.le_refl _⟩, ⟨by (with_reducible repeat (first | apply Kd.R_alloc | apply Kd.R_drewN | apply Kd.R_drew)); exact Kd.R_mono (Kd.R_far (p := ⟨gb619, 1, none⟩) (Kd.R_far (p := ⟨gb619, 0, none⟩) (Kd.R_types HO605.out BK619.out (by decide)) (fun _ hk => hk.2) (.int .i64 t614)) (fun _ hk => hk.2) (.slice Ao23 t615.length co23)) (fun _ hk => ⟨hk.1.1.2, hk.1.2⟩)⟩, ⟨by (with_reducible repeat (first | apply Kd.R_alloc | apply Kd.R_drewN | apply Kd.R_drew)); exact Kd.R_mono (Kd.R_far (p := ⟨gb619, 1, none⟩) (Kd.R_far (p := ⟨gb619, 0, none⟩) (Kd.R_types HO611.out BK619.out (by decide)) (fun _ hk => hk.2) (.int .i64 t614)) (fun _ hk => hk.2) (.slice Ao23 t615.length co23)) (fun _ hk => ⟨hk.1.1.2, hk.1.2⟩)⟩, ⟨by (with_reducible repeat (first | apply Kd.R_alloc | apply Kd.R_drewN | apply Kd.R_drew)); exact Kd.R_mono (Kd.R_far (p := ⟨gb619, 1, none⟩) (Kd.R_far (p := ⟨gb619, 0, none⟩) (Kd.R_types HO617.out BK619.out (by decide)) (fun _ hk => hk.2) (.int .i64 t614)) (fun _ hk => hk.2) (.slice Ao23 t615.length co23)) (fun _ hk => ⟨hk.1.1.2, hk.1.2⟩)⟩, ⟨by (with_reducible repeat (first | refine blk_drewN ?_ _ | refine blk_drew ?_ | refine blk_alloc ?_ _)); refine blk_far ?_ NB607_619.out _; (with_reducible repeat (first | refine blk_drewN ?_ _ | refine blk_drew ?_ | refine blk_alloc ?_ _)); refine blk_far ?_ NB607_619.out _; (with_reducible repeat (first | refine blk_drewN ?_ _ | refine blk_drew ?_ | refine blk_alloc ?_ _)); exact BK607.out⟩, ⟨by (with_reducible repeat (first | refine blk_drewN ?_ _ | refine blk_drew ?_ | refine blk_alloc ?_ _)); refine blk_far ?_ NB613_619.out _; (with_reducible repeat (first | refine blk_drewN ?_ _ | refine blk_drew ?_ | refine blk_alloc ?_ _)); refine blk_far ?_ NB613_619.out _; (with_reducible repeat (first | refine blk_drewN ?_ _ | refine blk_drew ?_ | refine blk_alloc ?_ _)); exact BK613.out⟩, ⟨by (with_reducible repeat (first | refine blk_drewN ?_ _ | refine blk_drew ?_ | refine blk_alloc ?_ _)); refine blk_put (cs := #[.int .i64 t614, .slice none 0 0]) ?_ 1 _ rfl; (with_reducible repeat (first | refine blk_drewN ?_ _ | refine blk_drew ?_ | refine blk_alloc ?_ _)); refine blk_put (cs := #[.int .i64 0, .slice none 0 0]) ?_ 0 _ rfl; (with_reducible repeat (first | refine blk_drewN ?_ _ | refine blk_drew ?_ | refine blk_alloc ?_ _)); exact BK619.out⟩, ⟨by repeat (first | (with_reducible first | exact HB.out | apply below_alloc | apply pw_below_drewN | apply below_drew1 | refine below_set ?_ GE607.out | refine below_set ?_ GE613.out | refine below_set ?_ GE619.out) | exact HB.out)⟩⟩
      · rw [if_neg c24] at H
        have c24b0 : (t612 != t618) = false := by simpa using c24
        (try (have c24b1 : decide (t612 = t618) = true := by simpa using c24))
        (try (have c24b2 : (t612 == t618) = true := by simpa using c24))
        clear c24
        (first | rw [c24b0] | (simp only [i64_w, i32_w]; rw [c24b0]) | skip)
        have H' := Aside0.mk H
        clear H
        go_wp2
        go_meet
        case rel => exact ⟨_, (!t612), (by first | rfl | (simp; done) | (simp [*]; done)), H', ⟨by first | omega | exact Nat.le_refl _⟩, ⟨by (with_reducible repeat (first | apply Kd.R_alloc | apply Kd.R_drewN | apply Kd.R_drew)); exact Kd.R_mono (Kd.R_far (p := ⟨gb619, 1, none⟩) (Kd.R_far (p := ⟨gb619, 0, none⟩) (Kd.R_types HO605.out BK619.out (by decide)) (fun _ hk => hk.2) (.int .i64 t614)) (fun _ hk => hk.2) (.slice Ao23 t615.length co23)) (fun _ hk => ⟨hk.1.1.2, hk.1.2⟩)⟩, ⟨by (with_reducible repeat (first | apply Kd.R_alloc | apply Kd.R_drewN | apply Kd.R_drew)); exact Kd.R_mono (Kd.R_far (p := ⟨gb619, 1, none⟩) (Kd.R_far (p := ⟨gb619, 0, none⟩) (Kd.R_types HO611.out BK619.out (by decide)) (fun _ hk => hk.2) (.int .i64 t614)) (fun _ hk => hk.2) (.slice Ao23 t615.length co23)) (fun _ hk => ⟨hk.1.1.2, hk.1.2⟩)⟩, ⟨by (with_reducible repeat (first | apply Kd.R_alloc | apply Kd.R_drewN | apply Kd.R_drew)); exact Kd.R_mono (Kd.R_far (p := ⟨gb619, 1, none⟩) (Kd.R_far (p := ⟨gb619, 0, none⟩) (Kd.R_types HO617.out BK619.out (by decide)) (fun _ hk => hk.2) (.int .i64 t614)) (fun _ hk => hk.2) (.slice Ao23 t615.length co23)) (fun _ hk => ⟨hk.1.1.2, hk.1.2⟩)⟩, ⟨by (with_reducible repeat (first | refine blk_drewN ?_ _ | refine blk_drew ?_ | refine blk_alloc ?_ _)); refine blk_far ?_ NB607_619.out _; (with_reducible repeat (first | refine blk_drewN ?_ _ | refine blk_drew ?_ | refine blk_alloc ?_ _)); refine blk_far ?_ NB607_619.out _; (with_reducible repeat (first | refine blk_drewN ?_ _ | refine blk_drew ?_ | refine blk_alloc ?_ _)); exact BK607.out⟩, ⟨by (with_reducible repeat (first | refine blk_drewN ?_ _ | refine blk_drew ?_ | refine blk_alloc ?_ _)); refine blk_far ?_ NB613_619.out _; (with_reducible repeat (first | refine blk_drewN ?_ _ | refine blk_drew ?_ | refine blk_alloc ?_ _)); refine blk_far ?_ NB613_619.out _; (with_reducible repeat (first | refine blk_drewN ?_ _ | refine blk_drew ?_ | refine blk_alloc ?_ _)); exact BK613.out⟩, ⟨by (with_reducible repeat (first | refine blk_drewN ?_ _ | refine blk_drew ?_ | refine blk_alloc ?_ _)); refine blk_put (cs := #[.int .i64 t614, .slice none 0 0]) ?_ 1 _ rfl; (with_reducible repeat (first | refine blk_drewN ?_ _ | refine blk_drew ?_ | refine blk_alloc ?_ _)); refine blk_put (cs := #[.int .i64 0, .slice none 0 0]) ?_ 0 _ rfl; (with_reducible repeat (first | refine blk_drewN ?_ _ | refine blk_drew ?_ | refine blk_alloc ?_ _)); exact BK619.out⟩, ⟨by repeat (first | (with_reducible first | exact HB.out | apply below_alloc | apply pw_below_drewN | apply below_drew1 | refine below_set ?_ GE607.out | refine below_set ?_ GE613.out | refine below_set ?_ GE619.out) | exact HB.out)⟩⟩
    case rest =>
      clear HC7
      try clear c1
      try clear c2
      try clear p2
      try clear c3
      try clear c4
      try clear c5
      try clear c9
      try clear c14
      try clear c20
      try clear c21
      try clear c24
      try clear c24b0
      try clear c24b1
      try clear c24b2
      try clear hcz10_0
      try clear hcz10_1
      try clear hcz15_0
      try clear hcz15_1
      try clear hcz17_0
      try clear hcz17_1
      try clear hcz22_0
      try clear hcz22_1
      try clear hfz10_0
      try clear hfz10_1
      try clear hfz15_0
      try clear hfz15_1
      try clear hfz17_0
      try clear hfz17_1
      try clear hfz22_0
      try clear hfz22_1
      obtain ⟨kq, x34_6, rfl, HA, HJ6, HO_608001, HO_614001, HO_620001, BK607, BK613, BK619, HB⟩ := hcut
      cases kq with
      | zero => exact absurd HA.out (by simp [laws_FnEdgesRight.j0])
      | succ kj6 =>
        have H := HA.out
        clear HA
        simp only [laws_FnEdgesRight.j0] at H
        by_cases c25 : x34_6 = true
        · subst c25
          have H1 : (if (t612 == t618) = true then ((laws_sameTexts.f kj6 t609 t603).bind fun t620 => (if t620 = true then (some (t608 == t602)) else (none))) else (none)) = some r := by rw [if_pos rfl] at H; exact H
          clear H
          have H := H1
          clear H1
          by_cases c26 : (t612 == t618) = true
          · rw [if_pos c26] at H
            have c26b0 : (t612 == t618) = true := c26
            (try (have c26b1 : decide (t612 = t618) = true := by simpa using c26))
            (try (have c26b2 : (t612 == t618) = true := by simpa using c26))
            clear c26
            replace H := Option.bind_eq_some_iff.mp H
            obtain ⟨t620, A270, H⟩ := H
            replace H : (if t620 = true then (some (t608 == t602)) else (none)) = some r := H
            have A27 := Aside0.mk A270
            clear A270
            by_cases c28 : t620 = true
            · subst c28
              have H1 : (some (t608 == t602)) = some r := by rw [if_pos rfl] at H; exact H
              clear H
              have H := H1
              clear H1
              obtain rfl := Option.some.inj H
              have hnb29 := NB613_607.out
              have hnc29 := NB607_613.out
              have hnb30 := NB613_619.out
              have hnc30 := NB619_613.out
              have hcz31_0 : wc.cell? ⟨gb613, 0, none⟩ = some (.int .i64 t608) := (blk_cell BK613.out 0).trans rfl
              have hcz31_1 : wc.cell? ⟨gb613, 1, none⟩ = some (.slice Ao16 t609.length co16) := (blk_cell BK613.out 1).trans rfl
              have hfz31_0 := blk_frozen BK613.out 0
              have hfz31_1 := blk_frozen BK613.out 1
              have hnb32 := NB607_619.out
              have hnc32 := NB619_607.out
              have hcz33_0 : wc.cell? ⟨gb607, 0, none⟩ = some (.int .i64 t602) := (blk_cell BK607.out 0).trans rfl
              have hcz33_1 : wc.cell? ⟨gb607, 1, none⟩ = some (.slice Ao11 t603.length co11) := (blk_cell BK607.out 1).trans rfl
              have hfz33_0 := blk_frozen BK607.out 0
              have hfz33_1 := blk_frozen BK607.out 1
              go_wp2_with (first | (go_at_call 39; (with_reducible refine (laws_sameTexts.calls kj6 _ _ t609 _ _ t603 true _ ?side1 ?side2 ?side3 ?side4 A27.out).mono ?_); (case side1 => repeat (first | exact (Kd.R_reads' HO_614001.out).2.2 | (with_reducible refine Kd.C_alloc ?_ _) | (with_reducible refine Kd.C_drewN ?_ _) | (with_reducible refine Kd.C_drew ?_))); (case side2 => exact (Kd.R_reads' HO_614001.out).2.1); (case side3 => repeat (first | exact (Kd.R_reads' HO_608001.out).2.2 | (with_reducible refine Kd.C_alloc ?_ _) | (with_reducible refine Kd.C_drewN ?_ _) | (with_reducible refine Kd.C_drew ?_))); (case side4 => exact (Kd.R_reads' HO_608001.out).2.1); rintro e w' ⟨rfl, ⟨nd, rfl⟩⟩))
              go_ret
              exact ⟨by first | rfl | (simp [errW_none, errW_some] <;> rfl) | (simp [*, errW_none, errW_some] <;> rfl), by repeat (first | (with_reducible first | exact HB.out | apply below_alloc | apply pw_below_drewN | apply below_drew1 | refine below_set ?_ GE607.out | refine below_set ?_ GE613.out | refine below_set ?_ GE619.out) | exact HB.out)⟩
            · replace c28 := Bool.eq_false_iff.mpr c28
              subst c28
              have H1 : (none) = some r := by rw [if_neg (show ¬ (false = true) by decide)] at H; exact H
              clear H
              have H := H1
              clear H1
              exact absurd H (by simp)
          · rw [if_neg c26] at H
            exact absurd H (by simp)
        · replace c25 := Bool.eq_false_iff.mpr c25
          subst c25
          have H1 : ((impl_EdgeOk.f kj6 t608 t609).bind fun t621 => (if t621 = true then (if t608 = (wrap64 (t602 + 1)) then ((impl_EdgeRoot.f kj6 t608 t609).bind fun t622 => (if (t622.size : Int) = 32 then ((impl_EdgeRoot.f kj6 t602 t603).bind fun t623 => (some ((t623.size : Int) == 32))) else (none))) else (none)) else (none))) = some r := by rw [if_neg (show ¬ (false = true) by decide)] at H; exact H
          clear H
          have H := H1
          clear H1
          replace H := Option.bind_eq_some_iff.mp H
          obtain ⟨t621, A340, H⟩ := H
          replace H : (if t621 = true then (if t608 = (wrap64 (t602 + 1)) then ((impl_EdgeRoot.f kj6 t608 t609).bind fun t622 => (if (t622.size : Int) = 32 then ((impl_EdgeRoot.f kj6 t602 t603).bind fun t623 => (some ((t623.size : Int) == 32))) else (none))) else (none)) else (none)) = some r := H
          have A34 := Aside0.mk A340
          clear A340
          by_cases c35 : t621 = true
          · subst c35
            have H1 : (if t608 = (wrap64 (t602 + 1)) then ((impl_EdgeRoot.f kj6 t608 t609).bind fun t622 => (if (t622.size : Int) = 32 then ((impl_EdgeRoot.f kj6 t602 t603).bind fun t623 => (some ((t623.size : Int) == 32))) else (none))) else (none)) = some r := by rw [if_pos rfl] at H; exact H
            clear H
            have H := H1
            clear H1
            by_cases c36 : t608 = (wrap64 (t602 + 1))
            · rw [if_pos c36] at H
              have c36b0 : (t608 == (wrap64 (t602 + 1))) = true := beq_iff_eq.mpr c36
              have c36b1 : (t608 != (wrap64 (t602 + 1))) = false := bne_eq_false_iff_eq.mpr c36
              clear c36
              replace H := Option.bind_eq_some_iff.mp H
              obtain ⟨t622, A370, H⟩ := H
              replace H : (if (t622.size : Int) = 32 then ((impl_EdgeRoot.f kj6 t602 t603).bind fun t623 => (some ((t623.size : Int) == 32))) else (none)) = some r := H
              have A37 := Aside0.mk A370
              clear A370
              by_cases c38 : (t622.size : Int) = 32
              · rw [if_pos c38] at H
                have c38b0 : ((t622.size : Int) == 32) = true := beq_iff_eq.mpr c38
                have c38b1 : ((t622.size : Int) != 32) = false := bne_eq_false_iff_eq.mpr c38
                clear c38
                replace H := Option.bind_eq_some_iff.mp H
                obtain ⟨t623, A390, H⟩ := H
                replace H : (some ((t623.size : Int) == 32)) = some r := H
                have A39 := Aside0.mk A390
                clear A390
                obtain rfl := Option.some.inj H
                have hnb40 := NB613_607.out
                have hnc40 := NB607_613.out
                have hnb41 := NB613_619.out
                have hnc41 := NB619_613.out
                have hcz42_0 : wc.cell? ⟨gb613, 0, none⟩ = some (.int .i64 t608) := (blk_cell BK613.out 0).trans rfl
                have hcz42_1 : wc.cell? ⟨gb613, 1, none⟩ = some (.slice Ao16 t609.length co16) := (blk_cell BK613.out 1).trans rfl
                have hfz42_0 := blk_frozen BK613.out 0
                have hfz42_1 := blk_frozen BK613.out 1
                go_wp2_with (first | ((with_reducible refine gate_callee (f := 56) rfl ?_); refine goesL_ (some 53) rfl rfl Try.func56 (by kernel_rfl) rfl #[.agg #[.int .i64 t608, .slice Ao16 t609.length co16]] rfl (by (try simp only [List.map_toArray, List.map_cons, List.map_nil]); first | done | rfl | (simp only [List.length_drop, List.length_take]; rfl)) ?_; (with_reducible refine (impl_EdgeOk.calls kj6 t608 _ _ t609 true _ ?side1 ?side2 A34.out).mono ?_); (case side1 => repeat (first | exact (Kd.R_reads' HO_614001.out).2.2 | (with_reducible refine Kd.C_alloc ?_ _) | (with_reducible refine Kd.C_drewN ?_ _) | (with_reducible refine Kd.C_drew ?_))); (case side2 => exact (Kd.R_reads' HO_614001.out).2.1); rintro e w43 ⟨rfl, hb⟩; refine ⟨_, rfl, ?_⟩; have n0_ := Aside0.mk (Kd.R_below (by (with_reducible repeat (first | apply Kd.R_alloc | apply Kd.R_drewN | apply Kd.R_drew)); exact HO_608001.out) hb); have n1_ := Aside0.mk (Kd.R_below (by (with_reducible repeat (first | apply Kd.R_alloc | apply Kd.R_drewN | apply Kd.R_drew)); exact HO_614001.out) hb); have n2_ := Aside0.mk (Kd.R_below (by (with_reducible repeat (first | apply Kd.R_alloc | apply Kd.R_drewN | apply Kd.R_drew)); exact HO_620001.out) hb); have n3_ := Aside0.mk (blk_below (g := gb607) (o := .cells #[.int .i64 t602, .slice Ao11 t603.length co11] 61 (0, 0)) (by (with_reducible repeat (first | refine blk_drewN ?_ _ | refine blk_drew ?_ | refine blk_alloc ?_ _)); exact BK607.out) hb); have n4_ := Aside0.mk (blk_below (g := gb613) (o := .cells #[.int .i64 t608, .slice Ao16 t609.length co16] 61 (0, 0)) (by (with_reducible repeat (first | refine blk_drewN ?_ _ | refine blk_drew ?_ | refine blk_alloc ?_ _)); exact BK613.out) hb); have n5_ := Aside0.mk (blk_below (g := gb619) (o := .cells #[.int .i64 t614, .slice Ao23 t615.length co23] 61 (0, 0)) (by (with_reducible repeat (first | refine blk_drewN ?_ _ | refine blk_drew ?_ | refine blk_alloc ?_ _)); exact BK619.out) hb); have n6_ := Aside0.mk (below_step (by repeat (first | (with_reducible first | exact HB.out | apply below_alloc | apply pw_below_drewN | apply below_drew1 | refine below_set ?_ GE607.out | refine below_set ?_ GE613.out | refine below_set ?_ GE619.out) | exact HB.out)) hb); clear HO_608001; clear HO_614001; clear HO_620001; clear BK607; clear BK613; clear BK619; clear HB; have HO_608001 := n0_; have HO_614001 := n1_; have HO_620001 := n2_; have BK607 := n3_; have BK613 := n4_; have BK619 := n5_; have HB := n6_; clear n0_ n1_ n2_ n3_ n4_ n5_ n6_; (try clear hb); (try clear hb2); (try clear hk); (try clear hi); have hcz44_0 : w43.cell? ⟨gb613, 0, none⟩ = some (.int .i64 t608) := (blk_cell BK613.out 0).trans rfl; have hcz44_1 : w43.cell? ⟨gb613, 1, none⟩ = some (.slice Ao16 t609.length co16) := (blk_cell BK613.out 1).trans rfl; have hfz44_0 := blk_frozen BK613.out 0; have hfz44_1 := blk_frozen BK613.out 1; have hnb45 := NB607_619.out; have hnc45 := NB619_607.out; have hcz46_0 : w43.cell? ⟨gb607, 0, none⟩ = some (.int .i64 t602) := (blk_cell BK607.out 0).trans rfl; have hcz46_1 : w43.cell? ⟨gb607, 1, none⟩ = some (.slice Ao11 t603.length co11) := (blk_cell BK607.out 1).trans rfl; have hfz46_0 := blk_frozen BK607.out 0; have hfz46_1 := blk_frozen BK607.out 1) | (go_at_call 57; (with_reducible refine (impl_EdgeRoot.calls kj6 t608 _ _ t609 t622 _ ?side1 ?side2 A37.out).mono ?_); (case side1 => repeat (first | exact (Kd.R_reads' HO_614001.out).2.2 | (with_reducible refine Kd.C_alloc ?_ _) | (with_reducible refine Kd.C_drewN ?_ _) | (with_reducible refine Kd.C_drew ?_))); (case side2 => exact (Kd.R_reads' HO_614001.out).2.1); rintro e w47 ⟨rfl, hb⟩; have n0_ := Aside0.mk (Kd.R_below (by (with_reducible repeat (first | apply Kd.R_alloc | apply Kd.R_drewN | apply Kd.R_drew)); exact HO_608001.out) hb); have n1_ := Aside0.mk (Kd.R_below (by (with_reducible repeat (first | apply Kd.R_alloc | apply Kd.R_drewN | apply Kd.R_drew)); exact HO_614001.out) hb); have n2_ := Aside0.mk (Kd.R_below (by (with_reducible repeat (first | apply Kd.R_alloc | apply Kd.R_drewN | apply Kd.R_drew)); exact HO_620001.out) hb); have n3_ := Aside0.mk (blk_below (g := gb607) (o := .cells #[.int .i64 t602, .slice Ao11 t603.length co11] 61 (0, 0)) (by (with_reducible repeat (first | refine blk_drewN ?_ _ | refine blk_drew ?_ | refine blk_alloc ?_ _)); exact BK607.out) hb); have n4_ := Aside0.mk (blk_below (g := gb613) (o := .cells #[.int .i64 t608, .slice Ao16 t609.length co16] 61 (0, 0)) (by (with_reducible repeat (first | refine blk_drewN ?_ _ | refine blk_drew ?_ | refine blk_alloc ?_ _)); exact BK613.out) hb); have n5_ := Aside0.mk (blk_below (g := gb619) (o := .cells #[.int .i64 t614, .slice Ao23 t615.length co23] 61 (0, 0)) (by (with_reducible repeat (first | refine blk_drewN ?_ _ | refine blk_drew ?_ | refine blk_alloc ?_ _)); exact BK619.out) hb); have n6_ := Aside0.mk (below_step (by repeat (first | (with_reducible first | exact HB.out | apply below_alloc | apply pw_below_drewN | apply below_drew1 | refine below_set ?_ GE607.out | refine below_set ?_ GE613.out | refine below_set ?_ GE619.out) | exact HB.out)) hb); clear HO_608001; clear HO_614001; clear HO_620001; clear BK607; clear BK613; clear BK619; clear HB; have HO_608001 := n0_; have HO_614001 := n1_; have HO_620001 := n2_; have BK607 := n3_; have BK613 := n4_; have BK619 := n5_; have HB := n6_; clear n0_ n1_ n2_ n3_ n4_ n5_ n6_; (try clear hb); (try clear hb2); (try clear hk); (try clear hi); have hcz48_0 : w47.cell? ⟨gb607, 0, none⟩ = some (.int .i64 t602) := (blk_cell BK607.out 0).trans rfl; have hcz48_1 : w47.cell? ⟨gb607, 1, none⟩ = some (.slice Ao11 t603.length co11) := (blk_cell BK607.out 1).trans rfl; have hfz48_0 := blk_frozen BK607.out 0; have hfz48_1 := blk_frozen BK607.out 1) | (go_at_call 57; (with_reducible refine (impl_EdgeRoot.calls kj6 t602 _ _ t603 t623 _ ?side1 ?side2 A39.out).mono ?_); (case side1 => repeat (first | exact (Kd.R_reads' HO_608001.out).2.2 | (with_reducible refine Kd.C_alloc ?_ _) | (with_reducible refine Kd.C_drewN ?_ _) | (with_reducible refine Kd.C_drew ?_))); (case side2 => exact (Kd.R_reads' HO_608001.out).2.1); rintro e w49 ⟨rfl, hb⟩; have n0_ := Aside0.mk (Kd.R_below (by (with_reducible repeat (first | apply Kd.R_alloc | apply Kd.R_drewN | apply Kd.R_drew)); exact HO_608001.out) hb); have n1_ := Aside0.mk (Kd.R_below (by (with_reducible repeat (first | apply Kd.R_alloc | apply Kd.R_drewN | apply Kd.R_drew)); exact HO_614001.out) hb); have n2_ := Aside0.mk (Kd.R_below (by (with_reducible repeat (first | apply Kd.R_alloc | apply Kd.R_drewN | apply Kd.R_drew)); exact HO_620001.out) hb); have n3_ := Aside0.mk (blk_below (g := gb607) (o := .cells #[.int .i64 t602, .slice Ao11 t603.length co11] 61 (0, 0)) (by (with_reducible repeat (first | refine blk_drewN ?_ _ | refine blk_drew ?_ | refine blk_alloc ?_ _)); exact BK607.out) hb); have n4_ := Aside0.mk (blk_below (g := gb613) (o := .cells #[.int .i64 t608, .slice Ao16 t609.length co16] 61 (0, 0)) (by (with_reducible repeat (first | refine blk_drewN ?_ _ | refine blk_drew ?_ | refine blk_alloc ?_ _)); exact BK613.out) hb); have n5_ := Aside0.mk (blk_below (g := gb619) (o := .cells #[.int .i64 t614, .slice Ao23 t615.length co23] 61 (0, 0)) (by (with_reducible repeat (first | refine blk_drewN ?_ _ | refine blk_drew ?_ | refine blk_alloc ?_ _)); exact BK619.out) hb); have n6_ := Aside0.mk (below_step (by repeat (first | (with_reducible first | exact HB.out | apply below_alloc | apply pw_below_drewN | apply below_drew1 | refine below_set ?_ GE607.out | refine below_set ?_ GE613.out | refine below_set ?_ GE619.out) | exact HB.out)) hb); clear HO_608001; clear HO_614001; clear HO_620001; clear BK607; clear BK613; clear BK619; clear HB; have HO_608001 := n0_; have HO_614001 := n1_; have HO_620001 := n2_; have BK607 := n3_; have BK613 := n4_; have BK619 := n5_; have HB := n6_; clear n0_ n1_ n2_ n3_ n4_ n5_ n6_; (try clear hb); (try clear hb2); (try clear hk); (try clear hi)))
                go_ret
                exact ⟨by first | rfl | (simp [errW_none, errW_some] <;> rfl) | (simp [*, errW_none, errW_some] <;> rfl), by repeat (first | (with_reducible first | exact HB.out | apply below_alloc | apply pw_below_drewN | apply below_drew1 | refine below_set ?_ GE607.out | refine below_set ?_ GE613.out | refine below_set ?_ GE619.out) | exact HB.out)⟩
              · rw [if_neg c38] at H
                exact absurd H (by simp)
            · rw [if_neg c36] at H
              exact absurd H (by simp)
          · replace c35 := Bool.eq_false_iff.mpr c35
            subst c35
            have H1 : (none) = some r := by rw [if_neg (show ¬ (false = true) by decide)] at H; exact H
            clear H
            have H := H1
            clear H1
            exact absurd H (by simp)

end Go.Proofs.Ytoipfpjcpngpfaa.Q
end

section
/- The row of the law FnEdgesRight out of its pure statement and the printed walk. -/
namespace Go.Proofs.Ytoipfpjcpngpfaa.Q
open Go.RowKit Go.Proofs.Ytoipfpjcpngpfaa.XO Go.Proofs.YtoipfpjcpngpfaaW.PrintWords Go.ChangeShapes Go.WideShapes Go.ChangeAt
set_option linter.unusedVariables false
set_option linter.unusedSimpArgs false
def laws_FnEdgesRight.Pure : Prop := ∀ (x0 : List Int), (x0.length ≤ 9223372036854775807 ∧ ∀ y0 ∈ x0, (Lit.int .u8 y0).wf = true) → ∃ k, laws_FnEdgesRight.f k x0 = some true
namespace RFnEdgesRight
theorem own : ownKnob Try.prog.godebug = none := by kernel_rfl
theorem laidOut : laidOutB Try.prog = true := by kernel_rfl
set_option maxRecDepth 100000 in
theorem lifted (PU : laws_FnEdgesRight.Pure) (os : Os) (started : os.Started) (H : Type) (enc : TypeId × Value → H) :
    ReturnsInHanded {} Try.checked os 9 .any (Rows.fnEdgesRightSpec.pre6 enc Try.prog Try.f9 Rows.fnEdgesRightRow.domain false) (Rows.fnEdgesRightSpec.post enc Try.prog Try.f9 false true false false) := by
  refine returnsInHanded_of_change_sized (C := Try.checked) own started (by kernel_rfl) Try.func9
    (ChangeSpec.witness6 (enc := enc) (C := Try.checked) false ⟨#[], #[.slice none 0 0], []⟩ 8 (by kernel_rfl) (by kernel_rfl) (by kernel_rfl) (by kernel_rfl)) ?_
  intro W base args ds gs before hval0 hW hcnd hsz0 _
  have hval : ∀ (j : Nat) t v, Try.f9.params[j]? = some t → args[j]? = some v → Value.okWide Try.prog W .any base t v := hval0
  have hW' := hW
  obtain ⟨p, q, hA0, hV, rfl, hfz, hnd⟩ := hW
  have hA : DataW.TrodAll enc Try.prog W 0 (fun _ => true) true Try.f9.params.toList args.toList ds p := hA0
  rw [Try.params9] at hA hval
  obtain ⟨v0, vs0, d0, ds0, p0, q0, hargs, rfl, rfl, h0, r0⟩ := trodAll_cons hA
  obtain ⟨rfl, rfl, rfl⟩ := trodAll_nil r0
  obtain rfl : args = #[v0] := by cases args; simp_all
  obtain ⟨rfl, rfl⟩ := trodVars_none hV
  have kk0 := h0
  have lt0 : ∀ x ∈ p0, x.block < W.heap.size := by obtain ⟨m, hm⟩ := kk0; exact DataW.trod_lt m _ _ _ hm
  obtain ⟨A0, len0, c0, rfl⟩ := okWide_slice Try.underlying28 (hval 0 28 v0 rfl rfl)
  obtain ⟨fu0, hf0⟩ := h0
  obtain ⟨x0, ⟨A0', c0', he0, hc0, hr0⟩, g0⟩ := (opens_slice Try.underlying28 (by kernel_rfl) (opens_int Try.underlying5)) hf0
  obtain ⟨rfl, rfl, rfl⟩ : A0 = A0' ∧ len0 = x0.length ∧ c0 = c0' := by simpa [Value.cells] using he0
  clear hA0 hval0 hsz0
  obtain ⟨k, hp⟩ := PU x0 g0
  refine (laws_FnEdgesRight.calls k _ _ x0 true W hr0 hc0 hp).mono fun e W' ⟨he, bel0⟩ => ?_
  have bel : Below W.heap.size W W' := bel0
  subst he
  exact ⟨_, rfl, _, _, _, [], _, [], hW', trodAll_mk1 (shut_bool Try.underlying4 _), (trodAll_cons_mk (Below.trod laidOut (by kernel_rfl) (of_decide_eq_true (by kernel_rfl)) kk0 bel lt0) trodAll_mk0), rfl, bel.frame _, fun h => by cases h⟩
theorem over (PU : laws_FnEdgesRight.Pure) : Rows.fnEdgesRightRow.holds Try.pinned (OpenSpec.ofChange Rows.fnEdgesRightSpec) :=
  OpenClaim.holds_of_wide 9 Try.f9 rfl rfl rfl rfl rfl rfl rfl ⟨rfl, rfl, rfl, rfl, rfl⟩ rfl rfl rfl rfl rfl (by kernel_rfl) Try.func9 (by kernel_rfl)
    (of_decide_eq_true (by kernel_rfl)) (by unfold Func.isWrapper; first | (rw [if_pos (by decide +kernel)]; kernel_rfl) | (rw [if_neg (by decide +kernel)]; exact ⟨rfl, rfl⟩))
    (fun os started H enc _ => lifted PU os started H enc)
end RFnEdgesRight
theorem FnEdgesRight_row (PU : laws_FnEdgesRight.Pure) : Rows.FnEdgesRightSaid := RFnEdgesRight.over PU
end Go.Proofs.Ytoipfpjcpngpfaa.Q
end

section
/- What is put behind a drawn edge that is right is right, one more, and has another root told by it; what is not right is refused; no condition. -/
namespace Go.Proofs.Ytoipfpjcpngpfaa.Q
open Go.RowKit Go.Proofs.Ytoipfpjcpngpfaa.B Go.Proofs.YtoipfpjcpngpfaaW.PrintWords
set_option linter.unusedVariables false
set_option linter.unusedSimpArgs false

theorem edgeRoot_32 {l : List ByteArray} (h : ∀ x ∈ l, x.size = 32) : (edgeRoot l).size = 32 := by
  unfold edgeRoot
  cases hg : l.getLast? with
  | none => exact sha_size _
  | some a =>
    show (foldEdge l.dropLast a).size = 32
    have ha := h a (List.mem_of_getLast? hg)
    unfold foldEdge
    cases l.dropLast with
    | nil => exact ha
    | cons b t => exact nodeH_size _ _
/-- A drawn edge: few hashes, none too long. -/
def EdgeFew (n : Int) (hs : List ByteArray) : Prop := -1 ≤ n ∧ n ≤ 201 ∧ hs.length ≤ 1000 ∧ ∀ x ∈ hs, x.size ≤ 32
theorem edgeFew_of (l : List ByteArray) (h : l.length ≤ 200) : EdgeFew (edgeOf l).1 (edgeOf l).2 := by
  have e : edgeOf l = ((l.length : Int), edgeHs l) := if_neg (by omega)
  obtain ⟨p, q⟩ := edgeHs_inv l h
  have := pops_300 (n := l.length) (by omega)
  rw [e]
  exact ⟨by simp only; omega, by simp only; omega, by simp only; omega, fun x hx => by rw [q x hx]; omega⟩
theorem l7Any_ev {s : List Int} {i : Int} (h : Int) (hd : Drawer s i) : ∃ n hs i' h', Ev (fun k => spec_l7Any.f k s i h) (n, hs, i', h') ∧ Drawer s i' ∧ EdgeFew n hs := by
  obtain ⟨l, i1, h1, e1, d1, hl, hx⟩ := l6List_ev h hd
  have e2 := spec_EdgeOf_ev l (fun x hm => by have := hx x hm; omega) (by omega)
  obtain ⟨f1, f2, f3, f4⟩ := edgeFew_of l (by omega)
  have hsm := edgeOf_small l
  generalize edgeOf l = q at e2 f1 f2 f3 f4 hsm
  obtain ⟨b, i2, h2, e3, b0, b1, d2⟩ := l1Below_ok h1 10 d1 (by decide) (by decide)
  unfold spec_l7Any.f
  by_cases c0 : b = 0
  · obtain ⟨x, i3, h3, e4, hm, d3⟩ := l1Int_ok h2 ([(-1), 0, 1, 201] : List Int) d2 (by decide) (by decide)
    have hx2 : -1 ≤ x ∧ x ≤ 201 := by
      simp only [List.mem_cons, List.not_mem_nil, or_false] at hm
      omega
    exact ⟨x, q.2, i3, h3, Ev.bind e1 (Ev.bind e2 (Ev.bind (Ev.const e3) (Ev.pos c0 (Ev.bind (Ev.const e4) (Ev.now _))))), d3, hx2.1, hx2.2, f3, f4⟩
  · by_cases c1 : b = 1
    · have e4 := spec_Digest_ev [1] (by decide) (by decide)
      refine ⟨q.1, q.2 ++ [sha [1]], i2, h2, Ev.bind e1 (Ev.bind e2 (Ev.bind (Ev.const e3) (Ev.neg c0 (Ev.pos c1 (Ev.bind e4 (Ev.pos (by omega) (Ev.now _))))))), d2, f1, f2, ?_, fun x hm => ?_⟩
      · simp
        omega
      · rcases List.mem_append.1 hm with hm | hm
        · exact f4 x hm
        · rw [List.mem_singleton.1 hm, sha_size]
          omega
    · by_cases c2 : b = 2
      · by_cases c3 : (q.2.length : Int) > 0
        · refine ⟨q.1, q.2.set 0 ⟨#[120]⟩, i2, h2, Ev.bind e1 (Ev.bind e2 (Ev.bind (Ev.const e3) (Ev.neg c0 (Ev.neg c1 (Ev.pos c2 (Ev.pos c3 (Ev.pos (by omega) (Ev.now _)))))))), d2, f1, f2, by simpa using f3, fun x hm => ?_⟩
          rcases List.mem_or_eq_of_mem_set hm with hm | rfl
          · exact f4 x hm
          · decide
        · exact ⟨q.1, q.2, i2, h2, Ev.bind e1 (Ev.bind e2 (Ev.bind (Ev.const e3) (Ev.neg c0 (Ev.neg c1 (Ev.pos c2 (Ev.neg c3 (Ev.now _))))))), d2, f1, f2, f3, f4⟩
      · exact ⟨q.1, q.2, i2, h2, Ev.bind e1 (Ev.bind e2 (Ev.bind (Ev.const e3) (Ev.neg c0 (Ev.neg c1 (Ev.neg c2 (Ev.now _)))))), d2, f1, f2, f3, f4⟩
theorem drawEdgeAdd_ev (l0 : List Int) (hl : l0.length ≤ 1048576) : ∃ n hs s, Ev (fun k => spec_DrawEdgeAdd.f k l0) (n, hs, s) ∧ EdgeFew n hs ∧ s.size ≤ 9 := by
  obtain ⟨h, hN⟩ := l1New_ev l0 hl
  obtain ⟨b, i1, h1, e1, d1⟩ := l1Once_ok h 60 (Drawer.new hl) (by decide) (by decide)
  unfold spec_DrawEdgeAdd.f
  by_cases hb : b = true
  · obtain ⟨x, i2, h2, e2, x0, x1, d2⟩ := l1Below_ok h1 2 d1 (by decide) (by decide)
    have hw : wrap64 (200 - x) = 200 - x := w64 (by omega) (by omega)
    have e3 := spec_EdgeOf_ev (List.replicate (200 - x).toNat (⟨#[]⟩ : ByteArray)) (fun y hy => by rw [List.eq_of_mem_replicate hy]; decide) (by simp; omega)
    have hf := edgeFew_of (List.replicate (200 - x).toNat (⟨#[]⟩ : ByteArray)) (by simp; omega)
    refine ⟨_, _, ⟨#[97]⟩, Ev.bind hN (Ev.bind (Ev.const e1) (Ev.pos hb (Ev.bind (Ev.const e2) ?_))), hf, by decide⟩
    simp only [hw]
    exact Ev.pos (by omega) (Ev.pos (by omega) (Ev.bind e3 (Ev.now _)))
  · obtain ⟨n, hs, i2, h2, e2, d2, hf⟩ := l7Any_ev h1 d1
    obtain ⟨t, i3, h3, e3, d3, ht, _⟩ := l1Some_ev h2 d2
    exact ⟨n, hs, strOfNums t, Ev.bind hN (Ev.bind (Ev.const e1) (Ev.neg hb (Ev.bind e2 (Ev.bind e3 (Ev.now _))))), hf, by rw [strOfNums_size]; exact ht⟩

theorem pure_FnEdgesRight : laws_FnEdgesRight.Pure := by
  intro l0 gl
  refine Ev.rounds (g := fun k => laws_FnEdgesRight.f k l0) ?_
  unfold laws_FnEdgesRight.f laws_big.f
  simp only [Option.bind_some]
  by_cases h : (l0.length : Int) > 1048576
  · rw [decide_eq_true h]
    exact Ev.pos rfl (Ev.now _)
  · rw [decide_eq_false h]
    obtain ⟨n, hs, s, hD, ⟨f1, f2, f3, f4⟩, hsz⟩ := drawEdgeAdd_ev l0 (by omega)
    have e1 := impl_EdgeAdd_all n hs s (by omega) (by omega)
    have e2 := spec_EdgeAdd_ev n hs s (by omega) (by omega)
    refine Ev.neg (by simp) (Ev.bind hD (Ev.bind (Ev.const e1) (Ev.bind e2 (Ev.neg (by simp) ?_))))
    by_cases hk : edgeOk n hs = true ∧ ¬ n = 200
    · have ed : edgeAdd n hs s = (n + 1, carry 8 n.toNat hs (leafH s), true) := if_pos hk
      obtain ⟨m, rfl, hm, hl2, hx⟩ := edgeOk_parts hk.1
      have hne := hk.2
      have c1 := carry_length 8 m hs (leafH s) (by omega) (by omega) hl2
      have c2 := carry_32 8 m hs (leafH s) hx (leafH_size s)
      have c3 := pops_300 (n := m + 1) (by omega)
      rw [Int.toNat_natCast] at ed
      rw [ed]
      generalize carry 8 m hs (leafH s) = ks at c1 c2
      have k1 := edgeOk_inv (m + 1) ks (by omega) c1 c2
      have k2 := impl_EdgeOk_ev ((m + 1 : Nat) : Int) ks (by omega)
      rw [k1] at k2
      have k3 := impl_EdgeRoot_ev ((m + 1 : Nat) : Int) ks (by omega) (fun x hm => by rw [c2 x hm]; decide)
      have k4 := impl_EdgeRoot_ev (m : Int) hs (by omega) (fun x hm => by rw [hx x hm]; decide)
      have r1 : (edgeRootOf ((m + 1 : Nat) : Int) ks).size = 32 := by
        unfold edgeRootOf
        rw [if_pos k1]
        exact edgeRoot_32 c2
      have r2 : (edgeRootOf (m : Int) hs).size = 32 := by
        unfold edgeRootOf
        rw [if_pos hk.1]
        exact edgeRoot_32 hx
      refine Ev.step (fun k => by simp only [laws_FnEdgesRight.j0]; rfl) ?_
      refine Ev.neg (by simp) (Ev.bind k2 (Ev.pos rfl (Ev.pos (by rw [w64 (by omega) (by omega)]) (Ev.bind k3 (Ev.pos (by omega) (Ev.bind k4 (Ev.one (Ev.now _) ?_)))))))
      rw [r2]
      rfl
    · have ed : edgeAdd n hs s = (n, hs, false) := if_neg hk
      have e3 := laws_same_ev hs hs (by omega)
      rw [decide_eq_true rfl] at e3
      rw [ed]
      refine Ev.step (fun k => by simp only [laws_FnEdgesRight.j0]; rfl) ?_
      refine Ev.pos (by simp) (Ev.pos (by simp) (Ev.bind e3 (Ev.pos rfl (Ev.one (Ev.now _) (by simp)))))
end Go.Proofs.Ytoipfpjcpngpfaa.Q
namespace Go.Proofs.Ytoipfpjcpngpfaa
theorem fnEdgesRight_holds : Rows.FnEdgesRightSaid := Q.FnEdgesRight_row Q.pure_FnEdgesRight
end Go.Proofs.Ytoipfpjcpngpfaa
end
