-- Joined by a program of this session (wip/tools/merge.py): texts of mine and of pp.sh.
import Derived.Test.YtkdlcenchnimlaaJFnExactFallStore2
import Derived.Test.YtkdlcenchnimlaaRows
import Derived.WalkKit
import Derived.ProofKit
import Derived.OpenShut
import Derived.ShutString
import Derived.ChangeOld
import Derived.Below
import Derived.SizedLaws
import Derived.Carry
section
-- Written by a program of this session (wip/tools/pp.sh) over the print of the kit.
namespace Go.Proofs.Ytkdlcenchnimlaa.Q
open Go.RowKit Go.Proofs.YtkdlcenchnimlaaW.PrintWords Go.Proofs.YtkdlcenchnimlaaW.PrintLast Go.Proofs.YtkdlcenchnimlaaW.PrintMore
attribute [local go_sem] max2_int min2_int max_two min_two max_three min_three max_four min_four   -- for this text's walks alone
set_option linter.unusedVariables false
set_option linter.unusedSimpArgs false

/-! ### laws_FnExactFallStore: function 11 -/
def laws_FnExactFallStore.j0 : Nat → Int → List Int → List Int → Bool → List ByteArray → Int → ByteArray → List Int → Int → Option (Bool)
  | 0, _, _, _, _, _, _, _, _, _ => none
  | k + 1, x1, x6, x8, x46, x602000, x602001, x602002, x602003, x602004 => if x46 = true then (none) else ((laws_markByteS.f k x8 1).bind fun bt643 => ((laws_heldByteS.f k bt643.2 1).bind fun t645 => (if t645 < 0 then (none) else (if t645 = bt643.1 then ((laws_toStore.f k x602000 x602001 x602002 x602003 x602004).bind fun bt646 => ((impl_FallStore.f bt646.1 bt646.2.1 bt646.2.2.1 bt646.2.2.2.1 bt646.2.2.2.2 x1).bind fun t655 => ((laws_eqByteS.f k t655 x6).bind fun t658 => (if t658 = true then ((laws_heldByteS.f k bt643.2 1).bind fun t659 => (if t659 < 0 then (none) else (if t659 = bt643.1 then (some true) else (none)))) else (none))))) else (none)))))
def laws_FnExactFallStore.f (k : Nat) (l0_0 : List ByteArray) (a0_1 : Int) (a0_2 : ByteArray) (l0_3 : List Int) (a0_4 : Int) (a1 : Int) : Option (Bool) := (laws_szStore.f k l0_0 a0_1 a0_2 l0_3 a0_4 1048576).bind fun t602 => (if t602 < 0 then (some true) else ((laws_toStore.f k l0_0 a0_1 a0_2 l0_3 a0_4).bind fun bt603 => ((spec_FallStore.f k bt603.1 bt603.2.1 bt603.2.2.1 bt603.2.2.2.1 bt603.2.2.2.2 a1).bind fun t612 => ((laws_toStore.f k l0_0 a0_1 a0_2 l0_3 a0_4).bind fun bt615 => ((impl_FallStore.f bt615.1 bt615.2.1 bt615.2.2.1 bt615.2.2.2.1 bt615.2.2.2.2 a1).bind fun t625 => ((laws_eqByteS.f k t625 t612).bind fun t628 => (if t628 = true then ((laws_toStore.f k l0_0 a0_1 a0_2 l0_3 a0_4).bind fun bt629 => ((laws_eqStore.f k bt615.1 bt615.2.1 bt615.2.2.1 bt615.2.2.2.1 bt615.2.2.2.2 bt629.1 bt629.2.1 bt629.2.2.1 bt629.2.2.2.1 bt629.2.2.2.2).bind fun t638 => (if t638 = true then ((laws_markStore.f k bt615.1 bt615.2.1 bt615.2.2.1 bt615.2.2.2.1 bt615.2.2.2.2 1).bind fun bt639 => (if bt639.1 < 0 then (laws_FnExactFallStore.j0 k a1 t612 t625 true l0_0 a0_1 a0_2 l0_3 a0_4) else ((laws_eqByteS.f k t625 t612).bind fun t642 => (laws_FnExactFallStore.j0 k a1 t612 t625 (!t642) l0_0 a0_1 a0_2 l0_3 a0_4)))) else (none)))) else (none))))))))
theorem laws_FnExactFallStore.mono_l : ∀ k, (∀ y0 y1 y2 y3 y4 y5 y6 y7 y8, LeO (laws_FnExactFallStore.j0 k y0 y1 y2 y3 y4 y5 y6 y7 y8) (laws_FnExactFallStore.j0 (k + 1) y0 y1 y2 y3 y4 y5 y6 y7 y8))
  | 0 => fun _ _ _ _ _ _ _ _ _ r h => by simp [laws_FnExactFallStore.j0] at h
  | k + 1 => by
    have ih0 := laws_FnExactFallStore.mono_l k
    · intro y0 y1 y2 y3 y4 y5 y6 y7 y8
      unfold laws_FnExactFallStore.j0
      repeat' first
      | (with_reducible exact ih0 _ _ _ _ _ _ _ _ _)
      | (with_reducible exact laws_eqByteS.mono _ _ _)
      | (with_reducible exact laws_eqStore.mono _ _ _ _ _ _ _ _ _ _ _)
      | (with_reducible exact laws_heldByteS.mono _ _ _)
      | (with_reducible exact laws_markByteS.mono _ _ _)
      | (with_reducible exact laws_markStore.mono _ _ _ _ _ _ _)
      | (with_reducible exact laws_szStore.mono _ _ _ _ _ _ _)
      | (with_reducible exact laws_toStore.mono _ _ _ _ _ _)
      | (with_reducible exact spec_FallStore.mono _ _ _ _ _ _ _)
      | (with_reducible exact LeO.refl _)
      | (with_reducible exact LeO.none _)
      | (with_reducible refine LeO.ite ?_ ?_)
      | (with_reducible refine LeO.bind ?_ (fun _ => ?_))
      | exact ih0 _ _ _ _ _ _ _ _ _
      | exact laws_eqByteS.mono _ _ _
      | exact laws_eqStore.mono _ _ _ _ _ _ _ _ _ _ _
      | exact laws_heldByteS.mono _ _ _
      | exact laws_markByteS.mono _ _ _
      | exact laws_markStore.mono _ _ _ _ _ _ _
      | exact laws_szStore.mono _ _ _ _ _ _ _
      | exact laws_toStore.mono _ _ _ _ _ _
      | exact spec_FallStore.mono _ _ _ _ _ _ _
      | exact LeO.none _
      | refine LeO.ite ?_ ?_
      | refine LeO.bind ?_ (fun _ => ?_)
theorem laws_FnExactFallStore.mono : ∀ a0 a1 a2 a3 a4 a5 k, LeO (laws_FnExactFallStore.f k a0 a1 a2 a3 a4 a5) (laws_FnExactFallStore.f (k + 1) a0 a1 a2 a3 a4 a5) := by
  intro a0 a1 a2 a3 a4 a5 k
  have ih0 := laws_FnExactFallStore.mono_l k
  unfold laws_FnExactFallStore.f
  repeat' first
      | (with_reducible exact ih0 _ _ _ _ _ _ _ _ _)
      | (with_reducible exact laws_eqByteS.mono _ _ _)
      | (with_reducible exact laws_eqStore.mono _ _ _ _ _ _ _ _ _ _ _)
      | (with_reducible exact laws_heldByteS.mono _ _ _)
      | (with_reducible exact laws_markByteS.mono _ _ _)
      | (with_reducible exact laws_markStore.mono _ _ _ _ _ _ _)
      | (with_reducible exact laws_szStore.mono _ _ _ _ _ _ _)
      | (with_reducible exact laws_toStore.mono _ _ _ _ _ _)
      | (with_reducible exact spec_FallStore.mono _ _ _ _ _ _ _)
      | (with_reducible exact LeO.refl _)
      | (with_reducible exact LeO.none _)
      | (with_reducible refine LeO.ite ?_ ?_)
      | (with_reducible refine LeO.bind ?_ (fun _ => ?_))
      | exact ih0 _ _ _ _ _ _ _ _ _
      | exact laws_eqByteS.mono _ _ _
      | exact laws_eqStore.mono _ _ _ _ _ _ _ _ _ _ _
      | exact laws_heldByteS.mono _ _ _
      | exact laws_markByteS.mono _ _ _
      | exact laws_markStore.mono _ _ _ _ _ _ _
      | exact laws_szStore.mono _ _ _ _ _ _ _
      | exact laws_toStore.mono _ _ _ _ _ _
      | exact spec_FallStore.mono _ _ _ _ _ _ _
      | exact LeO.none _
      | refine LeO.ite ?_ ?_
      | refine LeO.bind ?_ (fun _ => ?_)
set_option maxHeartbeats 8000000 in
set_option maxRecDepth 100000 in
theorem laws_FnExactFallStore.calls (k : Nat) (A0_0 : Option Addr) (c0_0 : Nat) (l0_0 : List ByteArray) (a0_1 : Int) (a0_2 : ByteArray) (A0_3 : Option Addr) (c0_3 : Nat) (l0_3 : List Int) (a0_4 : Int) (a1 : Int) (r : Bool) (w : World) (hr0_0 : Kd.C Kd.string w A0_0 l0_0.length l0_0) (hc0_0 : l0_0.length ≤ c0_0) (hr0_3 : Kd.C (Kd.int .u8) w A0_3 l0_3.length l0_3) (hc0_3 : l0_3.length ≤ c0_3) (h : laws_FnExactFallStore.f k l0_0 a0_1 a0_2 l0_3 a0_4 a1 = some r) :
    Calls Try.prog 11 #[.agg #[.slice A0_0 l0_0.length c0_0, .int .i64 a0_1, .string a0_2, .slice A0_3 l0_3.length c0_3, .int .i64 a0_4], .int .i64 a1] w fun e w' => e = .returned (.bool r) ∧ Below w.heap.size w w' := by
  have hu62 := Try.underlying62
  have hu68 := Try.underlying68
  have HR0_0 := Aside0.mk hr0_0
  have HC0_0 := Aside0.mk hc0_0
  clear hr0_0 hc0_0
  have HR0_3 := Aside0.mk hr0_3
  have HC0_3 := Aside0.mk hc0_3
  clear hr0_3 hc0_3
  have HB := Aside0.mk (Below.refl w.heap.size w)
  have H : ((laws_szStore.f k l0_0 a0_1 a0_2 l0_3 a0_4 1048576).bind fun t602 => (if t602 < 0 then (some true) else ((laws_toStore.f k l0_0 a0_1 a0_2 l0_3 a0_4).bind fun bt603 => ((spec_FallStore.f k bt603.1 bt603.2.1 bt603.2.2.1 bt603.2.2.2.1 bt603.2.2.2.2 a1).bind fun t612 => ((laws_toStore.f k l0_0 a0_1 a0_2 l0_3 a0_4).bind fun bt615 => ((impl_FallStore.f bt615.1 bt615.2.1 bt615.2.2.1 bt615.2.2.2.1 bt615.2.2.2.2 a1).bind fun t625 => ((laws_eqByteS.f k t625 t612).bind fun t628 => (if t628 = true then ((laws_toStore.f k l0_0 a0_1 a0_2 l0_3 a0_4).bind fun bt629 => ((laws_eqStore.f k bt615.1 bt615.2.1 bt615.2.2.1 bt615.2.2.2.1 bt615.2.2.2.2 bt629.1 bt629.2.1 bt629.2.2.1 bt629.2.2.2.1 bt629.2.2.2.2).bind fun t638 => (if t638 = true then ((laws_markStore.f k bt615.1 bt615.2.1 bt615.2.2.1 bt615.2.2.2.1 bt615.2.2.2.2 1).bind fun bt639 => (if bt639.1 < 0 then (laws_FnExactFallStore.j0 k a1 t612 t625 true l0_0 a0_1 a0_2 l0_3 a0_4) else ((laws_eqByteS.f k t625 t612).bind fun t642 => (laws_FnExactFallStore.j0 k a1 t612 t625 (!t642) l0_0 a0_1 a0_2 l0_3 a0_4)))) else (none)))) else (none))))))))) = some r := h
  clear h
  replace H := Option.bind_eq_some_iff.mp H
  obtain ⟨t602, A30, H⟩ := H
  replace H : (if t602 < 0 then (some true) else ((laws_toStore.f k l0_0 a0_1 a0_2 l0_3 a0_4).bind fun bt603 => ((spec_FallStore.f k bt603.1 bt603.2.1 bt603.2.2.1 bt603.2.2.2.1 bt603.2.2.2.2 a1).bind fun t612 => ((laws_toStore.f k l0_0 a0_1 a0_2 l0_3 a0_4).bind fun bt615 => ((impl_FallStore.f bt615.1 bt615.2.1 bt615.2.2.1 bt615.2.2.2.1 bt615.2.2.2.2 a1).bind fun t625 => ((laws_eqByteS.f k t625 t612).bind fun t628 => (if t628 = true then ((laws_toStore.f k l0_0 a0_1 a0_2 l0_3 a0_4).bind fun bt629 => ((laws_eqStore.f k bt615.1 bt615.2.1 bt615.2.2.1 bt615.2.2.2.1 bt615.2.2.2.2 bt629.1 bt629.2.1 bt629.2.2.1 bt629.2.2.2.1 bt629.2.2.2.2).bind fun t638 => (if t638 = true then ((laws_markStore.f k bt615.1 bt615.2.1 bt615.2.2.1 bt615.2.2.2.1 bt615.2.2.2.2 1).bind fun bt639 => (if bt639.1 < 0 then (laws_FnExactFallStore.j0 k a1 t612 t625 true l0_0 a0_1 a0_2 l0_3 a0_4) else ((laws_eqByteS.f k t625 t612).bind fun t642 => (laws_FnExactFallStore.j0 k a1 t612 t625 (!t642) l0_0 a0_1 a0_2 l0_3 a0_4)))) else (none)))) else (none)))))))) = some r := H
  have A3 := Aside0.mk A30
  clear A30
  by_cases c4 : t602 < 0
  · rw [if_pos c4] at H
    have c4b0 : decide (t602 < 0) = true := decide_eq_true c4
    clear c4
    obtain rfl := Option.some.inj H
    go_enter Try.func11, Try.ntmps11
    go_wp2_with (first | ((with_reducible refine gate_dst (N := 2) rfl ?_); refine box_event ?hg (N := 2) ?hd (cs := #[.slice A0_0 l0_0.length c0_0, .int .i64 a0_1, .string a0_2, .slice A0_3 l0_3.length c0_3, .int .i64 a0_4]) (t := 62) ?hr ?_; (case hd => rfl); (case hg => rfl); (case hr => first | (go_simp; done) | (go_simp; rfl)); intro gb601 hg w5 hbox hb; have n0_ := Aside0.mk (below_step (by repeat (first | (with_reducible first | exact HB.out | apply below_alloc | apply pw_below_drewN | apply below_drew1) | exact HB.out)) hb); have n1_ := Aside0.mk (hbox); have n2_ := Aside0.mk ((by rw [hg]; exact (below_size (by repeat (first | (with_reducible first | exact HB.out | apply below_alloc | apply pw_below_drewN | apply below_drew1) | exact HB.out))) : w.heap.size ≤ gb601)); have n3_ := Aside0.mk ((by rw [hg]; exact (below_size (by repeat (first | (with_reducible first | exact HB.out | apply below_alloc | apply pw_below_drewN | apply below_drew1) | exact HB.out))) : w.heap.size ≤ gb601)); clear HB; have HB := n0_; have BK601 := n1_; have GW601 := n2_; have GE601 := n3_; clear n0_ n1_ n2_ n3_; clear hb hbox hg; have hcz6_0 : w5.cell? ⟨gb601, 0, none⟩ = some (.slice A0_0 l0_0.length c0_0) := (blk_cell BK601.out 0).trans rfl; have hcz6_1 : w5.cell? ⟨gb601, 1, none⟩ = some (.int .i64 a0_1) := (blk_cell BK601.out 1).trans rfl; have hcz6_2 : w5.cell? ⟨gb601, 2, none⟩ = some (.string a0_2) := (blk_cell BK601.out 2).trans rfl; have hcz6_3 : w5.cell? ⟨gb601, 3, none⟩ = some (.slice A0_3 l0_3.length c0_3) := (blk_cell BK601.out 3).trans rfl; have hcz6_4 : w5.cell? ⟨gb601, 4, none⟩ = some (.int .i64 a0_4) := (blk_cell BK601.out 4).trans rfl; have hfz6_0 := blk_frozen BK601.out 0; have hfz6_1 := blk_frozen BK601.out 1; have hfz6_2 := blk_frozen BK601.out 2; have hfz6_3 := blk_frozen BK601.out 3; have hfz6_4 := blk_frozen BK601.out 4) | ((with_reducible refine gate_callee (f := 42) rfl ?_); refine goesL_ (some 15) rfl rfl Try.func42 (by kernel_rfl) rfl #[.agg #[.slice A0_0 l0_0.length c0_0, .int .i64 a0_1, .string a0_2, .slice A0_3 l0_3.length c0_3, .int .i64 a0_4], .int .i64 1048576] rfl (by (try simp only [List.map_toArray, List.map_cons, List.map_nil]); first | done | rfl | (simp only [List.length_drop, List.length_take]; rfl)) ?_; (with_reducible refine (laws_szStore.calls k _ _ l0_0 a0_1 a0_2 _ _ l0_3 a0_4 1048576 t602 _ ?side1 ?side2 ?side3 ?side4 A3.out).mono ?_); (case side1 => repeat (first | exact (Kd.C_below HR0_0.out HB.out) | (with_reducible refine Kd.C_alloc ?_ _) | (with_reducible refine Kd.C_drewN ?_ _) | (with_reducible refine Kd.C_drew ?_))); (case side2 => exact HC0_0.out); (case side3 => repeat (first | exact (Kd.C_below HR0_3.out HB.out) | (with_reducible refine Kd.C_alloc ?_ _) | (with_reducible refine Kd.C_drewN ?_ _) | (with_reducible refine Kd.C_drew ?_))); (case side4 => exact HC0_3.out); rintro e w7 ⟨rfl, hb⟩; refine ⟨_, rfl, ?_⟩; have n0_ := Aside0.mk (blk_below (g := gb601) (o := .cells #[.slice A0_0 l0_0.length c0_0, .int .i64 a0_1, .string a0_2, .slice A0_3 l0_3.length c0_3, .int .i64 a0_4] 62 (0, 0)) (by (with_reducible repeat (first | refine blk_drewN ?_ _ | refine blk_drew ?_ | refine blk_alloc ?_ _)); exact BK601.out) hb); have n1_ := Aside0.mk (below_step (by repeat (first | (with_reducible first | exact HB.out | apply below_alloc | apply pw_below_drewN | apply below_drew1 | refine below_set ?_ GE601.out) | exact HB.out)) hb); clear BK601; clear HB; have BK601 := n0_; have HB := n1_; clear n0_ n1_; (try clear hb); (try clear hb2); (try clear hk); (try clear hi)))
    go_ret
    exact ⟨by first | rfl | (simp [errW_none, errW_some] <;> rfl) | (simp [*, errW_none, errW_some] <;> rfl), by repeat (first | (with_reducible first | exact HB.out | apply below_alloc | apply pw_below_drewN | apply below_drew1 | refine below_set ?_ GE601.out) | exact HB.out)⟩
  · rw [if_neg c4] at H
    have c4b0 : decide (t602 < 0) = false := decide_eq_false c4
    clear c4
    replace H := Option.bind_eq_some_iff.mp H
    obtain ⟨⟨t603, t606, t607, t608, t611⟩, A80, H⟩ := H
    replace H : ((spec_FallStore.f k t603 t606 t607 t608 t611 a1).bind fun t612 => ((laws_toStore.f k l0_0 a0_1 a0_2 l0_3 a0_4).bind fun bt615 => ((impl_FallStore.f bt615.1 bt615.2.1 bt615.2.2.1 bt615.2.2.2.1 bt615.2.2.2.2 a1).bind fun t625 => ((laws_eqByteS.f k t625 t612).bind fun t628 => (if t628 = true then ((laws_toStore.f k l0_0 a0_1 a0_2 l0_3 a0_4).bind fun bt629 => ((laws_eqStore.f k bt615.1 bt615.2.1 bt615.2.2.1 bt615.2.2.2.1 bt615.2.2.2.2 bt629.1 bt629.2.1 bt629.2.2.1 bt629.2.2.2.1 bt629.2.2.2.2).bind fun t638 => (if t638 = true then ((laws_markStore.f k bt615.1 bt615.2.1 bt615.2.2.1 bt615.2.2.2.1 bt615.2.2.2.2 1).bind fun bt639 => (if bt639.1 < 0 then (laws_FnExactFallStore.j0 k a1 t612 t625 true l0_0 a0_1 a0_2 l0_3 a0_4) else ((laws_eqByteS.f k t625 t612).bind fun t642 => (laws_FnExactFallStore.j0 k a1 t612 t625 (!t642) l0_0 a0_1 a0_2 l0_3 a0_4)))) else (none)))) else (none)))))) = some r := H
    have A8 := Aside0.mk A80
    clear A80
    replace H := Option.bind_eq_some_iff.mp H
    obtain ⟨t612, A90, H⟩ := H
    replace H : ((laws_toStore.f k l0_0 a0_1 a0_2 l0_3 a0_4).bind fun bt615 => ((impl_FallStore.f bt615.1 bt615.2.1 bt615.2.2.1 bt615.2.2.2.1 bt615.2.2.2.2 a1).bind fun t625 => ((laws_eqByteS.f k t625 t612).bind fun t628 => (if t628 = true then ((laws_toStore.f k l0_0 a0_1 a0_2 l0_3 a0_4).bind fun bt629 => ((laws_eqStore.f k bt615.1 bt615.2.1 bt615.2.2.1 bt615.2.2.2.1 bt615.2.2.2.2 bt629.1 bt629.2.1 bt629.2.2.1 bt629.2.2.2.1 bt629.2.2.2.2).bind fun t638 => (if t638 = true then ((laws_markStore.f k bt615.1 bt615.2.1 bt615.2.2.1 bt615.2.2.2.1 bt615.2.2.2.2 1).bind fun bt639 => (if bt639.1 < 0 then (laws_FnExactFallStore.j0 k a1 t612 t625 true l0_0 a0_1 a0_2 l0_3 a0_4) else ((laws_eqByteS.f k t625 t612).bind fun t642 => (laws_FnExactFallStore.j0 k a1 t612 t625 (!t642) l0_0 a0_1 a0_2 l0_3 a0_4)))) else (none)))) else (none))))) = some r := H
    have A9 := Aside0.mk A90
    clear A90
    replace H := Option.bind_eq_some_iff.mp H
    obtain ⟨⟨t615, t618, t619, t620, t623⟩, A100, H⟩ := H
    replace H : ((impl_FallStore.f t615 t618 t619 t620 t623 a1).bind fun t625 => ((laws_eqByteS.f k t625 t612).bind fun t628 => (if t628 = true then ((laws_toStore.f k l0_0 a0_1 a0_2 l0_3 a0_4).bind fun bt629 => ((laws_eqStore.f k t615 t618 t619 t620 t623 bt629.1 bt629.2.1 bt629.2.2.1 bt629.2.2.2.1 bt629.2.2.2.2).bind fun t638 => (if t638 = true then ((laws_markStore.f k t615 t618 t619 t620 t623 1).bind fun bt639 => (if bt639.1 < 0 then (laws_FnExactFallStore.j0 k a1 t612 t625 true l0_0 a0_1 a0_2 l0_3 a0_4) else ((laws_eqByteS.f k t625 t612).bind fun t642 => (laws_FnExactFallStore.j0 k a1 t612 t625 (!t642) l0_0 a0_1 a0_2 l0_3 a0_4)))) else (none)))) else (none)))) = some r := H
    have A10 := Aside0.mk A100
    clear A100
    replace H := Option.bind_eq_some_iff.mp H
    obtain ⟨t625, A110, H⟩ := H
    replace H : ((laws_eqByteS.f k t625 t612).bind fun t628 => (if t628 = true then ((laws_toStore.f k l0_0 a0_1 a0_2 l0_3 a0_4).bind fun bt629 => ((laws_eqStore.f k t615 t618 t619 t620 t623 bt629.1 bt629.2.1 bt629.2.2.1 bt629.2.2.2.1 bt629.2.2.2.2).bind fun t638 => (if t638 = true then ((laws_markStore.f k t615 t618 t619 t620 t623 1).bind fun bt639 => (if bt639.1 < 0 then (laws_FnExactFallStore.j0 k a1 t612 t625 true l0_0 a0_1 a0_2 l0_3 a0_4) else ((laws_eqByteS.f k t625 t612).bind fun t642 => (laws_FnExactFallStore.j0 k a1 t612 t625 (!t642) l0_0 a0_1 a0_2 l0_3 a0_4)))) else (none)))) else (none))) = some r := H
    have A11 := Aside0.mk A110
    clear A110
    replace H := Option.bind_eq_some_iff.mp H
    obtain ⟨t628, A120, H⟩ := H
    replace H : (if t628 = true then ((laws_toStore.f k l0_0 a0_1 a0_2 l0_3 a0_4).bind fun bt629 => ((laws_eqStore.f k t615 t618 t619 t620 t623 bt629.1 bt629.2.1 bt629.2.2.1 bt629.2.2.2.1 bt629.2.2.2.2).bind fun t638 => (if t638 = true then ((laws_markStore.f k t615 t618 t619 t620 t623 1).bind fun bt639 => (if bt639.1 < 0 then (laws_FnExactFallStore.j0 k a1 t612 t625 true l0_0 a0_1 a0_2 l0_3 a0_4) else ((laws_eqByteS.f k t625 t612).bind fun t642 => (laws_FnExactFallStore.j0 k a1 t612 t625 (!t642) l0_0 a0_1 a0_2 l0_3 a0_4)))) else (none)))) else (none)) = some r := H
    have A12 := Aside0.mk A120
    clear A120
    by_cases c13 : t628 = true
    · subst c13
      have H1 : ((laws_toStore.f k l0_0 a0_1 a0_2 l0_3 a0_4).bind fun bt629 => ((laws_eqStore.f k t615 t618 t619 t620 t623 bt629.1 bt629.2.1 bt629.2.2.1 bt629.2.2.2.1 bt629.2.2.2.2).bind fun t638 => (if t638 = true then ((laws_markStore.f k t615 t618 t619 t620 t623 1).bind fun bt639 => (if bt639.1 < 0 then (laws_FnExactFallStore.j0 k a1 t612 t625 true l0_0 a0_1 a0_2 l0_3 a0_4) else ((laws_eqByteS.f k t625 t612).bind fun t642 => (laws_FnExactFallStore.j0 k a1 t612 t625 (!t642) l0_0 a0_1 a0_2 l0_3 a0_4)))) else (none)))) = some r := by rw [if_pos rfl] at H; exact H
      clear H
      have H := H1
      clear H1
      replace H := Option.bind_eq_some_iff.mp H
      obtain ⟨⟨t629, t632, t633, t634, t637⟩, A140, H⟩ := H
      replace H : ((laws_eqStore.f k t615 t618 t619 t620 t623 t629 t632 t633 t634 t637).bind fun t638 => (if t638 = true then ((laws_markStore.f k t615 t618 t619 t620 t623 1).bind fun bt639 => (if bt639.1 < 0 then (laws_FnExactFallStore.j0 k a1 t612 t625 true l0_0 a0_1 a0_2 l0_3 a0_4) else ((laws_eqByteS.f k t625 t612).bind fun t642 => (laws_FnExactFallStore.j0 k a1 t612 t625 (!t642) l0_0 a0_1 a0_2 l0_3 a0_4)))) else (none))) = some r := H
      have A14 := Aside0.mk A140
      clear A140
      replace H := Option.bind_eq_some_iff.mp H
      obtain ⟨t638, A150, H⟩ := H
      replace H : (if t638 = true then ((laws_markStore.f k t615 t618 t619 t620 t623 1).bind fun bt639 => (if bt639.1 < 0 then (laws_FnExactFallStore.j0 k a1 t612 t625 true l0_0 a0_1 a0_2 l0_3 a0_4) else ((laws_eqByteS.f k t625 t612).bind fun t642 => (laws_FnExactFallStore.j0 k a1 t612 t625 (!t642) l0_0 a0_1 a0_2 l0_3 a0_4)))) else (none)) = some r := H
      have A15 := Aside0.mk A150
      clear A150
      by_cases c16 : t638 = true
      · subst c16
        have H1 : ((laws_markStore.f k t615 t618 t619 t620 t623 1).bind fun bt639 => (if bt639.1 < 0 then (laws_FnExactFallStore.j0 k a1 t612 t625 true l0_0 a0_1 a0_2 l0_3 a0_4) else ((laws_eqByteS.f k t625 t612).bind fun t642 => (laws_FnExactFallStore.j0 k a1 t612 t625 (!t642) l0_0 a0_1 a0_2 l0_3 a0_4)))) = some r := by rw [if_pos rfl] at H; exact H
        clear H
        have H := H1
        clear H1
        replace H := Option.bind_eq_some_iff.mp H
        obtain ⟨⟨t639, t640, t641⟩, A170, H⟩ := H
        replace H : (if t639 < 0 then (laws_FnExactFallStore.j0 k a1 t612 t625 true l0_0 a0_1 a0_2 l0_3 a0_4) else ((laws_eqByteS.f k t625 t612).bind fun t642 => (laws_FnExactFallStore.j0 k a1 t612 t625 (!t642) l0_0 a0_1 a0_2 l0_3 a0_4))) = some r := H
        have A17 := Aside0.mk A170
        clear A170
        have HC18 := Aside0.mk H
        clear H
        go_enter Try.func11, Try.ntmps11
        try go_wp2_with (first | ((with_reducible refine gate_dst (N := 2) rfl ?_); refine box_event ?hg (N := 2) ?hd (cs := #[.slice A0_0 l0_0.length c0_0, .int .i64 a0_1, .string a0_2, .slice A0_3 l0_3.length c0_3, .int .i64 a0_4]) (t := 62) ?hr ?_; (case hd => rfl); (case hg => rfl); (case hr => first | (go_simp; done) | (go_simp; rfl)); intro gb601 hg w19 hbox hb; have n0_ := Aside0.mk (below_step (by repeat (first | (with_reducible first | exact HB.out | apply below_alloc | apply pw_below_drewN | apply below_drew1) | exact HB.out)) hb); have n1_ := Aside0.mk (hbox); have n2_ := Aside0.mk ((by rw [hg]; exact (below_size (by repeat (first | (with_reducible first | exact HB.out | apply below_alloc | apply pw_below_drewN | apply below_drew1) | exact HB.out))) : w.heap.size ≤ gb601)); have n3_ := Aside0.mk ((by rw [hg]; exact (below_size (by repeat (first | (with_reducible first | exact HB.out | apply below_alloc | apply pw_below_drewN | apply below_drew1) | exact HB.out))) : w.heap.size ≤ gb601)); clear HB; have HB := n0_; have BK601 := n1_; have GW601 := n2_; have GE601 := n3_; clear n0_ n1_ n2_ n3_; clear hb hbox hg; have hcz20_0 : w19.cell? ⟨gb601, 0, none⟩ = some (.slice A0_0 l0_0.length c0_0) := (blk_cell BK601.out 0).trans rfl; have hcz20_1 : w19.cell? ⟨gb601, 1, none⟩ = some (.int .i64 a0_1) := (blk_cell BK601.out 1).trans rfl; have hcz20_2 : w19.cell? ⟨gb601, 2, none⟩ = some (.string a0_2) := (blk_cell BK601.out 2).trans rfl; have hcz20_3 : w19.cell? ⟨gb601, 3, none⟩ = some (.slice A0_3 l0_3.length c0_3) := (blk_cell BK601.out 3).trans rfl; have hcz20_4 : w19.cell? ⟨gb601, 4, none⟩ = some (.int .i64 a0_4) := (blk_cell BK601.out 4).trans rfl; have hfz20_0 := blk_frozen BK601.out 0; have hfz20_1 := blk_frozen BK601.out 1; have hfz20_2 := blk_frozen BK601.out 2; have hfz20_3 := blk_frozen BK601.out 3; have hfz20_4 := blk_frozen BK601.out 4) | ((with_reducible refine gate_callee (f := 42) rfl ?_); refine goesL_ (some 15) rfl rfl Try.func42 (by kernel_rfl) rfl #[.agg #[.slice A0_0 l0_0.length c0_0, .int .i64 a0_1, .string a0_2, .slice A0_3 l0_3.length c0_3, .int .i64 a0_4], .int .i64 1048576] rfl (by (try simp only [List.map_toArray, List.map_cons, List.map_nil]); first | done | rfl | (simp only [List.length_drop, List.length_take]; rfl)) ?_; (with_reducible refine (laws_szStore.calls k _ _ l0_0 a0_1 a0_2 _ _ l0_3 a0_4 1048576 t602 _ ?side1 ?side2 ?side3 ?side4 A3.out).mono ?_); (case side1 => repeat (first | exact (Kd.C_below HR0_0.out HB.out) | (with_reducible refine Kd.C_alloc ?_ _) | (with_reducible refine Kd.C_drewN ?_ _) | (with_reducible refine Kd.C_drew ?_))); (case side2 => exact HC0_0.out); (case side3 => repeat (first | exact (Kd.C_below HR0_3.out HB.out) | (with_reducible refine Kd.C_alloc ?_ _) | (with_reducible refine Kd.C_drewN ?_ _) | (with_reducible refine Kd.C_drew ?_))); (case side4 => exact HC0_3.out); rintro e w21 ⟨rfl, hb⟩; refine ⟨_, rfl, ?_⟩; have n0_ := Aside0.mk (blk_below (g := gb601) (o := .cells #[.slice A0_0 l0_0.length c0_0, .int .i64 a0_1, .string a0_2, .slice A0_3 l0_3.length c0_3, .int .i64 a0_4] 62 (0, 0)) (by (with_reducible repeat (first | refine blk_drewN ?_ _ | refine blk_drew ?_ | refine blk_alloc ?_ _)); exact BK601.out) hb); have n1_ := Aside0.mk (below_step (by repeat (first | (with_reducible first | exact HB.out | apply below_alloc | apply pw_below_drewN | apply below_drew1 | refine below_set ?_ GE601.out) | exact HB.out)) hb); clear BK601; clear HB; have BK601 := n0_; have HB := n1_; clear n0_ n1_; (try clear hb); (try clear hb2); (try clear hk); (try clear hi); have hcz22_0 : w21.cell? ⟨gb601, 0, none⟩ = some (.slice A0_0 l0_0.length c0_0) := (blk_cell BK601.out 0).trans rfl; have hcz22_1 : w21.cell? ⟨gb601, 1, none⟩ = some (.int .i64 a0_1) := (blk_cell BK601.out 1).trans rfl; have hcz22_2 : w21.cell? ⟨gb601, 2, none⟩ = some (.string a0_2) := (blk_cell BK601.out 2).trans rfl; have hcz22_3 : w21.cell? ⟨gb601, 3, none⟩ = some (.slice A0_3 l0_3.length c0_3) := (blk_cell BK601.out 3).trans rfl; have hcz22_4 : w21.cell? ⟨gb601, 4, none⟩ = some (.int .i64 a0_4) := (blk_cell BK601.out 4).trans rfl; have hfz22_0 := blk_frozen BK601.out 0; have hfz22_1 := blk_frozen BK601.out 1; have hfz22_2 := blk_frozen BK601.out 2; have hfz22_3 := blk_frozen BK601.out 3; have hfz22_4 := blk_frozen BK601.out 4) | ((with_reducible refine gate_callee (f := 44) rfl ?_); refine goesL_ (some 19) rfl rfl Try.func44 (by kernel_rfl) rfl #[.agg #[.slice A0_0 l0_0.length c0_0, .int .i64 a0_1, .string a0_2, .slice A0_3 l0_3.length c0_3, .int .i64 a0_4]] rfl (by (try simp only [List.map_toArray, List.map_cons, List.map_nil]); first | done | rfl | (simp only [List.length_drop, List.length_take]; rfl)) ?_; (with_reducible refine (laws_toStore.calls k _ _ l0_0 a0_1 a0_2 _ _ l0_3 a0_4 t603 t606 t607 t608 t611 _ ?side1 ?side2 ?side3 ?side4 A8.out).mono ?_); (case side1 => repeat (first | exact (Kd.C_below HR0_0.out HB.out) | (with_reducible refine Kd.C_alloc ?_ _) | (with_reducible refine Kd.C_drewN ?_ _) | (with_reducible refine Kd.C_drew ?_))); (case side2 => exact HC0_0.out); (case side3 => repeat (first | exact (Kd.C_below HR0_3.out HB.out) | (with_reducible refine Kd.C_alloc ?_ _) | (with_reducible refine Kd.C_drewN ?_ _) | (with_reducible refine Kd.C_drew ?_))); (case side4 => exact HC0_3.out); rintro e w23 ⟨v604, v609, rfl, ho0, ho1, hb⟩; refine ⟨_, rfl, ?_⟩; have n0_ := Aside0.mk (Kd.R_lower ho0 (below_size (by repeat (first | (with_reducible first | exact HB.out | apply below_alloc | apply pw_below_drewN | apply below_drew1 | refine below_set ?_ GE601.out) | exact HB.out)))); have n1_ := Aside0.mk (Kd.R_lower ho1 (below_size (by repeat (first | (with_reducible first | exact HB.out | apply below_alloc | apply pw_below_drewN | apply below_drew1 | refine below_set ?_ GE601.out) | exact HB.out)))); have n2_ := Aside0.mk (blk_below (g := gb601) (o := .cells #[.slice A0_0 l0_0.length c0_0, .int .i64 a0_1, .string a0_2, .slice A0_3 l0_3.length c0_3, .int .i64 a0_4] 62 (0, 0)) (by (with_reducible repeat (first | refine blk_drewN ?_ _ | refine blk_drew ?_ | refine blk_alloc ?_ _)); exact BK601.out) hb); have n3_ := Aside0.mk (below_step (by repeat (first | (with_reducible first | exact HB.out | apply below_alloc | apply pw_below_drewN | apply below_drew1 | refine below_set ?_ GE601.out) | exact HB.out)) hb); clear BK601; clear HB; have HO605 := n0_; have HO610 := n1_; have BK601 := n2_; have HB := n3_; clear n0_ n1_ n2_ n3_; (try clear hb); (try clear hb2); (try clear hk); (try clear hi); (try clear ho0); (try clear ho1); obtain ⟨Ao24, co24, eo24⟩ := Kd.R_slice HO605.out; subst eo24; obtain ⟨Ao25, co25, eo25⟩ := Kd.R_slice HO610.out; subst eo25) | ((with_reducible refine gate_callee (f := 43) rfl ?_); refine goesL_ (some 21) rfl rfl Try.func43 (by kernel_rfl) rfl #[.agg #[.slice Ao24 t603.length co24, .int .i64 t606, .string t607, .slice Ao25 t608.length co25, .int .i64 t611], .int .i64 a1] rfl (by (try simp only [List.map_toArray, List.map_cons, List.map_nil]); first | done | rfl | (simp only [List.length_drop, List.length_take]; rfl)) ?_; (with_reducible refine (spec_FallStore.calls k _ _ t603 t606 t607 _ _ t608 t611 a1 t612 _ ?side1 ?side2 ?side3 ?side4 A9.out).mono ?_); (case side1 => repeat (first | exact (Kd.R_reads' HO605.out).2.2 | (with_reducible refine Kd.C_alloc ?_ _) | (with_reducible refine Kd.C_drewN ?_ _) | (with_reducible refine Kd.C_drew ?_))); (case side2 => exact (Kd.R_reads' HO605.out).2.1); (case side3 => repeat (first | exact (Kd.R_reads' HO610.out).2.2 | (with_reducible refine Kd.C_alloc ?_ _) | (with_reducible refine Kd.C_drewN ?_ _) | (with_reducible refine Kd.C_drew ?_))); (case side4 => exact (Kd.R_reads' HO610.out).2.1); rintro e w26 ⟨v613, rfl, ho0, hb⟩; refine ⟨_, rfl, ?_⟩; have n0_ := Aside0.mk (Kd.R_below (by (with_reducible repeat (first | apply Kd.R_alloc | apply Kd.R_drewN | apply Kd.R_drew)); exact HO605.out) hb); have n1_ := Aside0.mk (Kd.R_elder' (by (with_reducible repeat (first | apply Kd.R_alloc | apply Kd.R_drewN | apply Kd.R_drew)); exact HO610.out) (Kd.R_base ho0) hb); have n2_ := Aside0.mk (Kd.R_lower (Kd.R_new' ho0 (Kd.R_lt (by (with_reducible repeat (first | apply Kd.R_alloc | apply Kd.R_drewN | apply Kd.R_drew)); exact HO610.out))) (below_size (by repeat (first | (with_reducible first | exact HB.out | apply below_alloc | apply pw_below_drewN | apply below_drew1 | refine below_set ?_ GE601.out) | exact HB.out)))); have n3_ := Aside0.mk (blk_below (g := gb601) (o := .cells #[.slice A0_0 l0_0.length c0_0, .int .i64 a0_1, .string a0_2, .slice A0_3 l0_3.length c0_3, .int .i64 a0_4] 62 (0, 0)) (by (with_reducible repeat (first | refine blk_drewN ?_ _ | refine blk_drew ?_ | refine blk_alloc ?_ _)); exact BK601.out) hb); have n4_ := Aside0.mk (below_step (by repeat (first | (with_reducible first | exact HB.out | apply below_alloc | apply pw_below_drewN | apply below_drew1 | refine below_set ?_ GE601.out) | exact HB.out)) hb); clear HO605; clear HO610; clear BK601; clear HB; have HO605 := n0_; have HO610 := n1_; have HO614 := n2_; have BK601 := n3_; have HB := n4_; clear n0_ n1_ n2_ n3_ n4_; (try clear hb); (try clear hb2); (try clear hk); (try clear hi); (try clear ho0); have hcz27_0 : w26.cell? ⟨gb601, 0, none⟩ = some (.slice A0_0 l0_0.length c0_0) := (blk_cell BK601.out 0).trans rfl; have hcz27_1 : w26.cell? ⟨gb601, 1, none⟩ = some (.int .i64 a0_1) := (blk_cell BK601.out 1).trans rfl; have hcz27_2 : w26.cell? ⟨gb601, 2, none⟩ = some (.string a0_2) := (blk_cell BK601.out 2).trans rfl; have hcz27_3 : w26.cell? ⟨gb601, 3, none⟩ = some (.slice A0_3 l0_3.length c0_3) := (blk_cell BK601.out 3).trans rfl; have hcz27_4 : w26.cell? ⟨gb601, 4, none⟩ = some (.int .i64 a0_4) := (blk_cell BK601.out 4).trans rfl; have hfz27_0 := blk_frozen BK601.out 0; have hfz27_1 := blk_frozen BK601.out 1; have hfz27_2 := blk_frozen BK601.out 2; have hfz27_3 := blk_frozen BK601.out 3; have hfz27_4 := blk_frozen BK601.out 4) | ((with_reducible refine gate_callee (f := 44) rfl ?_); refine goesL_ (some 23) rfl rfl Try.func44 (by kernel_rfl) rfl #[.agg #[.slice A0_0 l0_0.length c0_0, .int .i64 a0_1, .string a0_2, .slice A0_3 l0_3.length c0_3, .int .i64 a0_4]] rfl (by (try simp only [List.map_toArray, List.map_cons, List.map_nil]); first | done | rfl | (simp only [List.length_drop, List.length_take]; rfl)) ?_; (with_reducible refine (laws_toStore.calls k _ _ l0_0 a0_1 a0_2 _ _ l0_3 a0_4 t615 t618 t619 t620 t623 _ ?side1 ?side2 ?side3 ?side4 A10.out).mono ?_); (case side1 => repeat (first | exact (Kd.C_below HR0_0.out HB.out) | (with_reducible refine Kd.C_alloc ?_ _) | (with_reducible refine Kd.C_drewN ?_ _) | (with_reducible refine Kd.C_drew ?_))); (case side2 => exact HC0_0.out); (case side3 => repeat (first | exact (Kd.C_below HR0_3.out HB.out) | (with_reducible refine Kd.C_alloc ?_ _) | (with_reducible refine Kd.C_drewN ?_ _) | (with_reducible refine Kd.C_drew ?_))); (case side4 => exact HC0_3.out); rintro e w28 ⟨v616, v621, rfl, ho0, ho1, hb⟩; refine ⟨_, rfl, ?_⟩; have n0_ := Aside0.mk (Kd.R_elder' (by (with_reducible repeat (first | apply Kd.R_alloc | apply Kd.R_drewN | apply Kd.R_drew)); exact HO605.out) (Kd.R_base ho0) hb); have n1_ := Aside0.mk (Kd.R_elder' (by (with_reducible repeat (first | apply Kd.R_alloc | apply Kd.R_drewN | apply Kd.R_drew)); exact HO610.out) (Kd.R_base ho1) hb); have n2_ := Aside0.mk (Kd.R_elder' (by (with_reducible repeat (first | apply Kd.R_alloc | apply Kd.R_drewN | apply Kd.R_drew)); exact HO614.out) (Kd.R_base ho1) hb); have n3_ := Aside0.mk (Kd.R_lower (Kd.R_new' ho0 (Kd.R_lt (by (with_reducible repeat (first | apply Kd.R_alloc | apply Kd.R_drewN | apply Kd.R_drew)); exact HO605.out))) (below_size (by repeat (first | (with_reducible first | exact HB.out | apply below_alloc | apply pw_below_drewN | apply below_drew1 | refine below_set ?_ GE601.out) | exact HB.out)))); have n4_ := Aside0.mk (Kd.R_lower (Kd.R_new' (Kd.R_new' ho1 (Kd.R_lt (by (with_reducible repeat (first | apply Kd.R_alloc | apply Kd.R_drewN | apply Kd.R_drew)); exact HO610.out))) (Kd.R_lt (by (with_reducible repeat (first | apply Kd.R_alloc | apply Kd.R_drewN | apply Kd.R_drew)); exact HO614.out))) (below_size (by repeat (first | (with_reducible first | exact HB.out | apply below_alloc | apply pw_below_drewN | apply below_drew1 | refine below_set ?_ GE601.out) | exact HB.out)))); have n5_ := Aside0.mk (blk_below (g := gb601) (o := .cells #[.slice A0_0 l0_0.length c0_0, .int .i64 a0_1, .string a0_2, .slice A0_3 l0_3.length c0_3, .int .i64 a0_4] 62 (0, 0)) (by (with_reducible repeat (first | refine blk_drewN ?_ _ | refine blk_drew ?_ | refine blk_alloc ?_ _)); exact BK601.out) hb); have n6_ := Aside0.mk (below_step (by repeat (first | (with_reducible first | exact HB.out | apply below_alloc | apply pw_below_drewN | apply below_drew1 | refine below_set ?_ GE601.out) | exact HB.out)) hb); clear HO605; clear HO610; clear HO614; clear BK601; clear HB; have HO605 := n0_; have HO610 := n1_; have HO614 := n2_; have HO617 := n3_; have HO622 := n4_; have BK601 := n5_; have HB := n6_; clear n0_ n1_ n2_ n3_ n4_ n5_ n6_; (try clear hb); (try clear hb2); (try clear hk); (try clear hi); (try clear ho0); (try clear ho1)) | ((with_reducible refine gate_dst (N := 7) rfl ?_); refine box_event ?hg (N := 7) ?hd (cs := #[.slice none 0 0, .int .i64 0, .string (⟨#[]⟩ : ByteArray), .slice none 0 0, .int .i64 0]) (t := 68) ?hr ?_; (case hd => rfl); (case hg => rfl); (case hr => first | (go_simp; done) | (go_simp; rfl)); intro gb624 hg w29 hbox hb; have n0_ := Aside0.mk (Kd.R_below (by (with_reducible repeat (first | apply Kd.R_alloc | apply Kd.R_drewN | apply Kd.R_drew)); exact HO605.out) hb); have n1_ := Aside0.mk (Kd.R_below (by (with_reducible repeat (first | apply Kd.R_alloc | apply Kd.R_drewN | apply Kd.R_drew)); exact HO610.out) hb); have n2_ := Aside0.mk (Kd.R_below (by (with_reducible repeat (first | apply Kd.R_alloc | apply Kd.R_drewN | apply Kd.R_drew)); exact HO614.out) hb); have n3_ := Aside0.mk (Kd.R_below (by (with_reducible repeat (first | apply Kd.R_alloc | apply Kd.R_drewN | apply Kd.R_drew)); exact HO617.out) hb); have n4_ := Aside0.mk (Kd.R_below (by (with_reducible repeat (first | apply Kd.R_alloc | apply Kd.R_drewN | apply Kd.R_drew)); exact HO622.out) hb); have n5_ := Aside0.mk (blk_below (g := gb601) (o := .cells #[.slice A0_0 l0_0.length c0_0, .int .i64 a0_1, .string a0_2, .slice A0_3 l0_3.length c0_3, .int .i64 a0_4] 62 (0, 0)) (by (with_reducible repeat (first | refine blk_drewN ?_ _ | refine blk_drew ?_ | refine blk_alloc ?_ _)); exact BK601.out) hb); have n6_ := Aside0.mk (below_step (by repeat (first | (with_reducible first | exact HB.out | apply below_alloc | apply pw_below_drewN | apply below_drew1 | refine below_set ?_ GE601.out) | exact HB.out)) hb); have n7_ := Aside0.mk (hbox); have n8_ := Aside0.mk ((by rw [hg]; exact (below_size (by repeat (first | (with_reducible first | exact HB.out | apply below_alloc | apply pw_below_drewN | apply below_drew1 | refine below_set ?_ GE601.out) | exact HB.out))) : w.heap.size ≤ gb624)); have n9_ := Aside0.mk ((by rw [hg]; exact (below_size (by repeat (first | (with_reducible first | exact HB.out | apply below_alloc | apply pw_below_drewN | apply below_drew1 | refine below_set ?_ GE601.out) | exact HB.out))) : w.heap.size ≤ gb624)); have n10_ := Aside0.mk ((by rw [hg]; exact Nat.ne_of_lt (blk_lt (g := gb601) (o := .cells #[.slice A0_0 l0_0.length c0_0, .int .i64 a0_1, .string a0_2, .slice A0_3 l0_3.length c0_3, .int .i64 a0_4] 62 (0, 0)) (by (with_reducible repeat (first | refine blk_drewN ?_ _ | refine blk_drew ?_ | refine blk_alloc ?_ _)); exact BK601.out)) : gb601 ≠ gb624)); have n11_ := Aside0.mk ((by rw [hg]; exact Nat.ne_of_gt (blk_lt (g := gb601) (o := .cells #[.slice A0_0 l0_0.length c0_0, .int .i64 a0_1, .string a0_2, .slice A0_3 l0_3.length c0_3, .int .i64 a0_4] 62 (0, 0)) (by (with_reducible repeat (first | refine blk_drewN ?_ _ | refine blk_drew ?_ | refine blk_alloc ?_ _)); exact BK601.out)) : gb624 ≠ gb601)); clear HO605; clear HO610; clear HO614; clear HO617; clear HO622; clear BK601; clear HB; have HO605 := n0_; have HO610 := n1_; have HO614 := n2_; have HO617 := n3_; have HO622 := n4_; have BK601 := n5_; have HB := n6_; have BK624 := n7_; have GW624 := n8_; have GE624 := n9_; have NB601_624 := n10_; have NB624_601 := n11_; clear n0_ n1_ n2_ n3_ n4_ n5_ n6_ n7_ n8_ n9_ n10_ n11_; clear hb hbox hg; obtain ⟨Ao30, co30, eo30⟩ := Kd.R_slice HO617.out; subst eo30; have hnb31 := NB624_601.out; have hnc31 := NB601_624.out; have hcz32_0 : w29.cell? ⟨gb624, 0, none⟩ = some (.slice none 0 0) := (blk_cell BK624.out 0).trans rfl; have hcz32_1 : w29.cell? ⟨gb624, 1, none⟩ = some (.int .i64 0) := (blk_cell BK624.out 1).trans rfl; have hcz32_2 : w29.cell? ⟨gb624, 2, none⟩ = some (.string (⟨#[]⟩ : ByteArray)) := (blk_cell BK624.out 2).trans rfl; have hcz32_3 : w29.cell? ⟨gb624, 3, none⟩ = some (.slice none 0 0) := (blk_cell BK624.out 3).trans rfl; have hcz32_4 : w29.cell? ⟨gb624, 4, none⟩ = some (.int .i64 0) := (blk_cell BK624.out 4).trans rfl; have hfz32_0 := blk_frozen BK624.out 0; have hfz32_1 := blk_frozen BK624.out 1; have hfz32_2 := blk_frozen BK624.out 2; have hfz32_3 := blk_frozen BK624.out 3; have hfz32_4 := blk_frozen BK624.out 4; obtain ⟨Ao33, co33, eo33⟩ := Kd.R_slice HO622.out; subst eo33) | ((with_reducible refine gate_callee (f := 45) rfl ?_); refine goesL_ (some 26) rfl rfl Try.func45 (by kernel_rfl) rfl #[.agg #[.slice Ao30 t615.length co30, .int .i64 t618, .string t619, .slice Ao33 t620.length co33, .int .i64 t623], .int .i64 a1] rfl (by (try simp only [List.map_toArray, List.map_cons, List.map_nil]); first | done | rfl | (simp only [List.length_drop, List.length_take]; rfl)) ?_; (with_reducible refine (impl_FallStore.calls _ _ t615 t618 t619 _ _ t620 t623 a1 t625 _ ?side1 ?side2 ?side3 ?side4 A11.out).mono ?_); (case side1 => refine (Kd.R_reads' (e := 9) (base := w.heap.size) (ok := fun k_ => (True ∧ some k_ ≠ (.slice Ao24 t603.length co24 : Value).ownBlock)) (n := t615.length) (c := co30) ?_).2.2; exact (by (with_reducible repeat (first | apply Kd.R_alloc | apply Kd.R_drewN | apply Kd.R_drew)); exact (Kd.R_mono (Kd.R_far (p := ⟨gb624, 4, none⟩) (Kd.R_far (p := ⟨gb624, 3, none⟩) (Kd.R_far (p := ⟨gb624, 2, none⟩) (Kd.R_far (p := ⟨gb624, 1, none⟩) (Kd.R_far (p := ⟨gb624, 0, none⟩) (Kd.R_types HO617.out BK624.out (by decide)) (fun _ hk => Imp.imp hk) (.slice Ao30 t615.length co30)) (fun _ hk => Imp.imp hk) (.int .i64 t618)) (fun _ hk => Imp.imp hk) (.string t619)) (fun _ hk => Imp.imp hk) (.slice Ao33 t620.length co33)) (fun _ hk => Imp.imp hk) (.int .i64 t623)) (fun _ h_ => h_.1)))); (case side2 => exact (Kd.R_reads' HO617.out).2.1); (case side3 => refine (Kd.R_reads' (e := 5) (base := w.heap.size) (ok := fun k_ => ((True ∧ some k_ ≠ (.slice Ao25 t608.length co25 : Value).ownBlock) ∧ some k_ ≠ (v613 : Value).ownBlock)) (n := t620.length) (c := co33) ?_).2.2; exact (by (with_reducible repeat (first | apply Kd.R_alloc | apply Kd.R_drewN | apply Kd.R_drew)); exact (Kd.R_mono (Kd.R_far (p := ⟨gb624, 4, none⟩) (Kd.R_far (p := ⟨gb624, 3, none⟩) (Kd.R_far (p := ⟨gb624, 2, none⟩) (Kd.R_far (p := ⟨gb624, 1, none⟩) (Kd.R_far (p := ⟨gb624, 0, none⟩) (Kd.R_types HO622.out BK624.out (by decide)) (fun _ hk => Imp.imp hk) (.slice Ao30 t615.length co30)) (fun _ hk => Imp.imp hk) (.int .i64 t618)) (fun _ hk => Imp.imp hk) (.string t619)) (fun _ hk => Imp.imp hk) (.slice Ao33 t620.length co33)) (fun _ hk => Imp.imp hk) (.int .i64 t623)) (fun _ h_ => h_.1)))); (case side4 => exact (Kd.R_reads' HO622.out).2.1); rintro e w34 ⟨v626, rfl, ho0, hb⟩; refine ⟨_, rfl, ?_⟩; have n0_ := Aside0.mk (Kd.R_below (by (with_reducible repeat (first | apply Kd.R_alloc | apply Kd.R_drewN | apply Kd.R_drew)); exact (Kd.R_mono (Kd.R_far (p := ⟨gb624, 4, none⟩) (Kd.R_far (p := ⟨gb624, 3, none⟩) (Kd.R_far (p := ⟨gb624, 2, none⟩) (Kd.R_far (p := ⟨gb624, 1, none⟩) (Kd.R_far (p := ⟨gb624, 0, none⟩) (Kd.R_types HO605.out BK624.out (by decide)) (fun _ hk => Imp.imp hk) (.slice Ao30 t615.length co30)) (fun _ hk => Imp.imp hk) (.int .i64 t618)) (fun _ hk => Imp.imp hk) (.string t619)) (fun _ hk => Imp.imp hk) (.slice Ao33 t620.length co33)) (fun _ hk => Imp.imp hk) (.int .i64 t623)) (fun _ h_ => h_.1))) hb); have n1_ := Aside0.mk (Kd.R_elder' (by (with_reducible repeat (first | apply Kd.R_alloc | apply Kd.R_drewN | apply Kd.R_drew)); exact (Kd.R_mono (Kd.R_far (p := ⟨gb624, 4, none⟩) (Kd.R_far (p := ⟨gb624, 3, none⟩) (Kd.R_far (p := ⟨gb624, 2, none⟩) (Kd.R_far (p := ⟨gb624, 1, none⟩) (Kd.R_far (p := ⟨gb624, 0, none⟩) (Kd.R_types HO610.out BK624.out (by decide)) (fun _ hk => Imp.imp hk) (.slice Ao30 t615.length co30)) (fun _ hk => Imp.imp hk) (.int .i64 t618)) (fun _ hk => Imp.imp hk) (.string t619)) (fun _ hk => Imp.imp hk) (.slice Ao33 t620.length co33)) (fun _ hk => Imp.imp hk) (.int .i64 t623)) (fun _ h_ => h_.1))) (Kd.R_base ho0) hb); have n2_ := Aside0.mk (Kd.R_elder' (by (with_reducible repeat (first | apply Kd.R_alloc | apply Kd.R_drewN | apply Kd.R_drew)); exact (Kd.R_mono (Kd.R_far (p := ⟨gb624, 4, none⟩) (Kd.R_far (p := ⟨gb624, 3, none⟩) (Kd.R_far (p := ⟨gb624, 2, none⟩) (Kd.R_far (p := ⟨gb624, 1, none⟩) (Kd.R_far (p := ⟨gb624, 0, none⟩) (Kd.R_types HO614.out BK624.out (by decide)) (fun _ hk => Imp.imp hk) (.slice Ao30 t615.length co30)) (fun _ hk => Imp.imp hk) (.int .i64 t618)) (fun _ hk => Imp.imp hk) (.string t619)) (fun _ hk => Imp.imp hk) (.slice Ao33 t620.length co33)) (fun _ hk => Imp.imp hk) (.int .i64 t623)) (fun _ h_ => h_.1))) (Kd.R_base ho0) hb); have n3_ := Aside0.mk (Kd.R_below (by (with_reducible repeat (first | apply Kd.R_alloc | apply Kd.R_drewN | apply Kd.R_drew)); exact (Kd.R_mono (Kd.R_far (p := ⟨gb624, 4, none⟩) (Kd.R_far (p := ⟨gb624, 3, none⟩) (Kd.R_far (p := ⟨gb624, 2, none⟩) (Kd.R_far (p := ⟨gb624, 1, none⟩) (Kd.R_far (p := ⟨gb624, 0, none⟩) (Kd.R_types HO617.out BK624.out (by decide)) (fun _ hk => Imp.imp hk) (.slice Ao30 t615.length co30)) (fun _ hk => Imp.imp hk) (.int .i64 t618)) (fun _ hk => Imp.imp hk) (.string t619)) (fun _ hk => Imp.imp hk) (.slice Ao33 t620.length co33)) (fun _ hk => Imp.imp hk) (.int .i64 t623)) (fun _ h_ => h_.1))) hb); have n4_ := Aside0.mk (Kd.R_elder' (by (with_reducible repeat (first | apply Kd.R_alloc | apply Kd.R_drewN | apply Kd.R_drew)); exact (Kd.R_mono (Kd.R_far (p := ⟨gb624, 4, none⟩) (Kd.R_far (p := ⟨gb624, 3, none⟩) (Kd.R_far (p := ⟨gb624, 2, none⟩) (Kd.R_far (p := ⟨gb624, 1, none⟩) (Kd.R_far (p := ⟨gb624, 0, none⟩) (Kd.R_types HO622.out BK624.out (by decide)) (fun _ hk => Imp.imp hk) (.slice Ao30 t615.length co30)) (fun _ hk => Imp.imp hk) (.int .i64 t618)) (fun _ hk => Imp.imp hk) (.string t619)) (fun _ hk => Imp.imp hk) (.slice Ao33 t620.length co33)) (fun _ hk => Imp.imp hk) (.int .i64 t623)) (fun _ h_ => h_.1))) (Kd.R_base ho0) hb); have n5_ := Aside0.mk (Kd.R_lower (Kd.R_new' (Kd.R_new' (Kd.R_new' ho0 (Kd.R_lt (by (with_reducible repeat (first | apply Kd.R_alloc | apply Kd.R_drewN | apply Kd.R_drew)); exact (Kd.R_mono (Kd.R_far (p := ⟨gb624, 4, none⟩) (Kd.R_far (p := ⟨gb624, 3, none⟩) (Kd.R_far (p := ⟨gb624, 2, none⟩) (Kd.R_far (p := ⟨gb624, 1, none⟩) (Kd.R_far (p := ⟨gb624, 0, none⟩) (Kd.R_types HO610.out BK624.out (by decide)) (fun _ hk => Imp.imp hk) (.slice Ao30 t615.length co30)) (fun _ hk => Imp.imp hk) (.int .i64 t618)) (fun _ hk => Imp.imp hk) (.string t619)) (fun _ hk => Imp.imp hk) (.slice Ao33 t620.length co33)) (fun _ hk => Imp.imp hk) (.int .i64 t623)) (fun _ h_ => h_.1))))) (Kd.R_lt (by (with_reducible repeat (first | apply Kd.R_alloc | apply Kd.R_drewN | apply Kd.R_drew)); exact (Kd.R_mono (Kd.R_far (p := ⟨gb624, 4, none⟩) (Kd.R_far (p := ⟨gb624, 3, none⟩) (Kd.R_far (p := ⟨gb624, 2, none⟩) (Kd.R_far (p := ⟨gb624, 1, none⟩) (Kd.R_far (p := ⟨gb624, 0, none⟩) (Kd.R_types HO614.out BK624.out (by decide)) (fun _ hk => Imp.imp hk) (.slice Ao30 t615.length co30)) (fun _ hk => Imp.imp hk) (.int .i64 t618)) (fun _ hk => Imp.imp hk) (.string t619)) (fun _ hk => Imp.imp hk) (.slice Ao33 t620.length co33)) (fun _ hk => Imp.imp hk) (.int .i64 t623)) (fun _ h_ => h_.1))))) (Kd.R_lt (by (with_reducible repeat (first | apply Kd.R_alloc | apply Kd.R_drewN | apply Kd.R_drew)); exact (Kd.R_mono (Kd.R_far (p := ⟨gb624, 4, none⟩) (Kd.R_far (p := ⟨gb624, 3, none⟩) (Kd.R_far (p := ⟨gb624, 2, none⟩) (Kd.R_far (p := ⟨gb624, 1, none⟩) (Kd.R_far (p := ⟨gb624, 0, none⟩) (Kd.R_types HO622.out BK624.out (by decide)) (fun _ hk => Imp.imp hk) (.slice Ao30 t615.length co30)) (fun _ hk => Imp.imp hk) (.int .i64 t618)) (fun _ hk => Imp.imp hk) (.string t619)) (fun _ hk => Imp.imp hk) (.slice Ao33 t620.length co33)) (fun _ hk => Imp.imp hk) (.int .i64 t623)) (fun _ h_ => h_.1))))) (below_size (by repeat (first | (with_reducible first | exact HB.out | apply below_alloc | apply pw_below_drewN | apply below_drew1 | refine below_set ?_ GE601.out | refine below_set ?_ GE624.out) | exact HB.out)))); have n6_ := Aside0.mk (blk_below (g := gb601) (o := .cells #[.slice A0_0 l0_0.length c0_0, .int .i64 a0_1, .string a0_2, .slice A0_3 l0_3.length c0_3, .int .i64 a0_4] 62 (0, 0)) (by (with_reducible repeat (first | refine blk_drewN ?_ _ | refine blk_drew ?_ | refine blk_alloc ?_ _)); refine blk_far ?_ NB601_624.out _; (with_reducible repeat (first | refine blk_drewN ?_ _ | refine blk_drew ?_ | refine blk_alloc ?_ _)); refine blk_far ?_ NB601_624.out _; (with_reducible repeat (first | refine blk_drewN ?_ _ | refine blk_drew ?_ | refine blk_alloc ?_ _)); refine blk_far ?_ NB601_624.out _; (with_reducible repeat (first | refine blk_drewN ?_ _ | refine blk_drew ?_ | refine blk_alloc ?_ _)); refine blk_far ?_ NB601_624.out _; (with_reducible repeat (first | refine blk_drewN ?_ _ | refine blk_drew ?_ | refine blk_alloc ?_ _)); refine blk_far ?_ NB601_624.out _; (with_reducible repeat (first | refine blk_drewN ?_ _ | refine blk_drew ?_ | refine blk_alloc ?_ _)); exact BK601.out) hb); have n7_ := Aside0.mk (blk_below (g := gb624) (o := .cells #[.slice Ao30 t615.length co30, .int .i64 t618, .string t619, .slice Ao33 t620.length co33, .int .i64 t623] 68 (0, 0)) (by (with_reducible repeat (first | refine blk_drewN ?_ _ | refine blk_drew ?_ | refine blk_alloc ?_ _)); refine blk_put (cs := #[.slice Ao30 t615.length co30, .int .i64 t618, .string t619, .slice Ao33 t620.length co33, .int .i64 0]) ?_ 4 _ rfl; (with_reducible repeat (first | refine blk_drewN ?_ _ | refine blk_drew ?_ | refine blk_alloc ?_ _)); refine blk_put (cs := #[.slice Ao30 t615.length co30, .int .i64 t618, .string t619, .slice none 0 0, .int .i64 0]) ?_ 3 _ rfl; (with_reducible repeat (first | refine blk_drewN ?_ _ | refine blk_drew ?_ | refine blk_alloc ?_ _)); refine blk_put (cs := #[.slice Ao30 t615.length co30, .int .i64 t618, .string (⟨#[]⟩ : ByteArray), .slice none 0 0, .int .i64 0]) ?_ 2 _ rfl; (with_reducible repeat (first | refine blk_drewN ?_ _ | refine blk_drew ?_ | refine blk_alloc ?_ _)); refine blk_put (cs := #[.slice Ao30 t615.length co30, .int .i64 0, .string (⟨#[]⟩ : ByteArray), .slice none 0 0, .int .i64 0]) ?_ 1 _ rfl; (with_reducible repeat (first | refine blk_drewN ?_ _ | refine blk_drew ?_ | refine blk_alloc ?_ _)); refine blk_put (cs := #[.slice none 0 0, .int .i64 0, .string (⟨#[]⟩ : ByteArray), .slice none 0 0, .int .i64 0]) ?_ 0 _ rfl; (with_reducible repeat (first | refine blk_drewN ?_ _ | refine blk_drew ?_ | refine blk_alloc ?_ _)); exact BK624.out) hb); have n8_ := Aside0.mk (below_step (by repeat (first | (with_reducible first | exact HB.out | apply below_alloc | apply pw_below_drewN | apply below_drew1 | refine below_set ?_ GE601.out | refine below_set ?_ GE624.out) | exact HB.out)) hb); clear HO605; clear HO610; clear HO614; clear HO617; clear HO622; clear BK601; clear BK624; clear HB; have HO605 := n0_; have HO610 := n1_; have HO614 := n2_; have HO617 := n3_; have HO622 := n4_; have HO627 := n5_; have BK601 := n6_; have BK624 := n7_; have HB := n8_; clear n0_ n1_ n2_ n3_ n4_ n5_ n6_ n7_ n8_; (try clear hb); (try clear hb2); (try clear hk); (try clear hi); (try clear ho0); obtain ⟨Ao35, co35, eo35⟩ := Kd.R_slice HO627.out; subst eo35; obtain ⟨Ao36, co36, eo36⟩ := Kd.R_slice HO614.out; subst eo36) | ((with_reducible refine gate_callee (f := 46) rfl ?_); refine goesL_ (some 29) rfl rfl Try.func46 (by kernel_rfl) rfl #[.slice Ao35 t625.length co35, .slice Ao36 t612.length co36] rfl (by (try simp only [List.map_toArray, List.map_cons, List.map_nil]); first | done | rfl | (simp only [List.length_drop, List.length_take]; rfl)) ?_; (with_reducible refine (laws_eqByteS.calls k _ _ t625 _ _ t612 true _ ?side1 ?side2 ?side3 ?side4 A12.out).mono ?_); (case side1 => repeat (first | exact (Kd.R_reads' HO627.out).2.2 | (with_reducible refine Kd.C_alloc ?_ _) | (with_reducible refine Kd.C_drewN ?_ _) | (with_reducible refine Kd.C_drew ?_))); (case side2 => exact (Kd.R_reads' HO627.out).2.1); (case side3 => repeat (first | exact (Kd.R_reads' HO614.out).2.2 | (with_reducible refine Kd.C_alloc ?_ _) | (with_reducible refine Kd.C_drewN ?_ _) | (with_reducible refine Kd.C_drew ?_))); (case side4 => exact (Kd.R_reads' HO614.out).2.1); rintro e w' ⟨rfl, ⟨nd, rfl⟩⟩; refine ⟨_, rfl, ?_⟩))
        (try (rw [drewN_self w34]; generalize hq_ : World.drewN w34 _ = w34; have n0_ : Aside0 (Kd.R Kd.string 9 w34 w.heap.size (fun k_ => some k_ ≠ (.slice Ao30 t615.length co30 : Value).ownBlock) (.slice Ao24 t603.length co24) t603) := ⟨by rw [← hq_]; exact (by (with_reducible repeat (first | apply Kd.R_alloc | apply Kd.R_drewN | apply Kd.R_drew)); exact Kd.R_mono HO605.out (fun _ hk => Imp.imp hk))⟩; have n1_ : Aside0 (Kd.R (Kd.int .u8) 5 w34 w.heap.size (fun k_ => some k_ ≠ (.slice Ao36 t612.length co36 : Value).ownBlock ∧ some k_ ≠ (.slice Ao33 t620.length co33 : Value).ownBlock ∧ some k_ ≠ (.slice Ao35 t625.length co35 : Value).ownBlock) (.slice Ao25 t608.length co25) t608) := ⟨by rw [← hq_]; exact (by (with_reducible repeat (first | apply Kd.R_alloc | apply Kd.R_drewN | apply Kd.R_drew)); exact Kd.R_mono HO610.out (fun _ hk => ⟨hk.1.1.2, ⟨hk.1.2, hk.2⟩⟩))⟩; have n2_ : Aside0 (Kd.R (Kd.int .u8) 5 w34 w.heap.size (fun k_ => some k_ ≠ (.slice Ao25 t608.length co25 : Value).ownBlock ∧ some k_ ≠ (.slice Ao33 t620.length co33 : Value).ownBlock ∧ some k_ ≠ (.slice Ao35 t625.length co35 : Value).ownBlock) (.slice Ao36 t612.length co36) t612) := ⟨by rw [← hq_]; exact (by (with_reducible repeat (first | apply Kd.R_alloc | apply Kd.R_drewN | apply Kd.R_drew)); exact Kd.R_mono HO614.out (fun _ hk => ⟨hk.1.1.2, ⟨hk.1.2, hk.2⟩⟩))⟩; have n3_ : Aside0 (Kd.R Kd.string 9 w34 w.heap.size (fun k_ => some k_ ≠ (.slice Ao24 t603.length co24 : Value).ownBlock) (.slice Ao30 t615.length co30) t615) := ⟨by rw [← hq_]; exact (by (with_reducible repeat (first | apply Kd.R_alloc | apply Kd.R_drewN | apply Kd.R_drew)); exact Kd.R_mono HO617.out (fun _ hk => Imp.imp hk))⟩; have n4_ : Aside0 (Kd.R (Kd.int .u8) 5 w34 w.heap.size (fun k_ => some k_ ≠ (.slice Ao25 t608.length co25 : Value).ownBlock ∧ some k_ ≠ (.slice Ao36 t612.length co36 : Value).ownBlock ∧ some k_ ≠ (.slice Ao35 t625.length co35 : Value).ownBlock) (.slice Ao33 t620.length co33) t620) := ⟨by rw [← hq_]; exact (by (with_reducible repeat (first | apply Kd.R_alloc | apply Kd.R_drewN | apply Kd.R_drew)); exact Kd.R_mono HO622.out (fun _ hk => ⟨hk.1.1.2, ⟨hk.1.2, hk.2⟩⟩))⟩; have n5_ : Aside0 (Kd.R (Kd.int .u8) 5 w34 w.heap.size (fun k_ => some k_ ≠ (.slice Ao25 t608.length co25 : Value).ownBlock ∧ some k_ ≠ (.slice Ao36 t612.length co36 : Value).ownBlock ∧ some k_ ≠ (.slice Ao33 t620.length co33 : Value).ownBlock) (.slice Ao35 t625.length co35) t625) := ⟨by rw [← hq_]; exact (by (with_reducible repeat (first | apply Kd.R_alloc | apply Kd.R_drewN | apply Kd.R_drew)); exact Kd.R_mono HO627.out (fun _ hk => ⟨hk.1.1.2, ⟨hk.1.2, hk.2⟩⟩))⟩; have n6_ : Aside0 (w34.heap[gb601]? = some (.cells #[.slice A0_0 l0_0.length c0_0, .int .i64 a0_1, .string a0_2, .slice A0_3 l0_3.length c0_3, .int .i64 a0_4] 62 (0, 0))) := ⟨by rw [← hq_]; exact (by (with_reducible repeat (first | refine blk_drewN ?_ _ | refine blk_drew ?_ | refine blk_alloc ?_ _)); exact BK601.out)⟩; have n7_ : Aside0 (w34.heap[gb624]? = some (.cells #[.slice Ao30 t615.length co30, .int .i64 t618, .string t619, .slice Ao33 t620.length co33, .int .i64 t623] 68 (0, 0))) := ⟨by rw [← hq_]; exact (by (with_reducible repeat (first | refine blk_drewN ?_ _ | refine blk_drew ?_ | refine blk_alloc ?_ _)); exact BK624.out)⟩; have n8_ : Aside0 (Below w.heap.size w w34) := ⟨by rw [← hq_]; exact (by repeat (first | (with_reducible first | exact HB.out | apply below_alloc | apply pw_below_drewN | apply below_drew1 | refine below_set ?_ GE601.out | refine below_set ?_ GE624.out) | exact HB.out))⟩; clear HO605 HO610 HO614 HO617 HO622 HO627 BK601 BK624 HB hq_; have HO605 := n0_; have HO610 := n1_; have HO614 := n2_; have HO617 := n3_; have HO622 := n4_; have HO627 := n5_; have BK601 := n6_; have BK624 := n7_; have HB := n8_; clear n0_ n1_ n2_ n3_ n4_ n5_ n6_ n7_ n8_))
        have n0_ := Aside0.mk (Kd.R_drew HO605.out)
        have n1_ := Aside0.mk (Kd.R_drew HO610.out)
        have n2_ := Aside0.mk (Kd.R_drew HO614.out)
        have n3_ := Aside0.mk (Kd.R_drew HO617.out)
        have n4_ := Aside0.mk (Kd.R_drew HO622.out)
        have n5_ := Aside0.mk (Kd.R_drew HO627.out)
        have n6_ := Aside0.mk (blk_drew BK601.out)
        have n7_ := Aside0.mk (blk_drew BK624.out)
        have n8_ := Aside0.mk (below_drew1 HB.out)
        clear HO605
        clear HO610
        clear HO614
        clear HO617
        clear HO622
        clear HO627
        clear BK601
        clear BK624
        clear HB
        have HO605 := n0_
        have HO610 := n1_
        have HO614 := n2_
        have HO617 := n3_
        have HO622 := n4_
        have HO627 := n5_
        have BK601 := n6_
        have BK624 := n7_
        have HB := n8_
        clear n0_ n1_ n2_ n3_ n4_ n5_ n6_ n7_ n8_
        refine start_ (n := 5) (S := fun w' => w'.cell? ⟨gb624, 0, none⟩ = some (.slice Ao30 t615.length co30) ∧ w'.cell? ⟨gb624, 1, none⟩ = some (.int .i64 t618) ∧ w'.cell? ⟨gb624, 2, none⟩ = some (.string t619) ∧ w'.cell? ⟨gb624, 3, none⟩ = some (.slice Ao33 t620.length co33) ∧ w'.cell? ⟨gb624, 4, none⟩ = some (.int .i64 t623) ∧ w'.cell? ⟨gb601, 0, none⟩ = some (.slice A0_0 l0_0.length c0_0) ∧ w'.cell? ⟨gb601, 1, none⟩ = some (.int .i64 a0_1) ∧ w'.cell? ⟨gb601, 2, none⟩ = some (.string a0_2) ∧ w'.cell? ⟨gb601, 3, none⟩ = some (.slice A0_3 l0_3.length c0_3) ∧ w'.cell? ⟨gb601, 4, none⟩ = some (.int .i64 a0_4)) (ds := []) #[false, false, false, false, false] (by kernel_rfl) rfl rfl ⟨(blk_cell BK624.out 0).trans rfl, (blk_cell BK624.out 1).trans rfl, (blk_cell BK624.out 2).trans rfl, (blk_cell BK624.out 3).trans rfl, (blk_cell BK624.out 4).trans rfl, (blk_cell BK601.out 0).trans rfl, (blk_cell BK601.out 1).trans rfl, (blk_cell BK601.out 2).trans rfl, (blk_cell BK601.out 3).trans rfl, (blk_cell BK601.out 4).trans rfl⟩ (fun hHeld => ?_)
        generalize w34.drew = w37 at HO605 HO610 HO614 HO617 HO622 HO627 BK601 BK624 HB hHeld ⊢
        refine take_ (i := 0) (N := some 31) (v := ?_) (a' := ?_) #[true, false, false, false, false] rfl rfl (by kernel_rfl) (fun _ _ _ h => h) (Or.inl ⟨by rfl, ?_⟩) hHeld ?_ ?_
        rotate_left
        · rintro w' ⟨s0, s1, s2, s3, s4, s5, s6, s7, s8, s9⟩
          go_simp
          with_reducible rfl
        rotate_left
        · simp only [Act.put, List.setIfInBounds_toArray, List.set_cons_zero, List.set_cons_succ, i64_w, i32_w]
          rfl
        refine take_ (i := 1) (N := some 32) (v := ?_) (a' := ?_) #[true, true, false, false, false] rfl rfl (by kernel_rfl) (fun _ _ _ h => h) (Or.inl ⟨by rfl, ?_⟩) hHeld ?_ ?_
        rotate_left
        · rintro w' ⟨s0, s1, s2, s3, s4, s5, s6, s7, s8, s9⟩
          go_simp
          with_reducible rfl
        rotate_left
        · simp only [Act.put, List.setIfInBounds_toArray, List.set_cons_zero, List.set_cons_succ, i64_w, i32_w]
          rfl
        refine one_ (i := 2) (N := some 33) #[true, true, true, false, false] rfl rfl (by kernel_rfl) (by decide) (fun K hK => ?_)
        refine goes_ Try.func44 (by kernel_rfl) rfl #[.agg #[.slice A0_0 l0_0.length c0_0, .int .i64 a0_1, .string a0_2, .slice A0_3 l0_3.length c0_3, .int .i64 a0_4]] (by rfl) rfl rfl (by (try simp only [List.map_toArray, List.map_cons, List.map_nil]); first | done | rfl | (simp only [List.length_drop, List.length_take]; rfl)) ?_
        with_reducible refine (laws_toStore.calls k _ _ l0_0 a0_1 a0_2 _ _ l0_3 a0_4 t629 t632 t633 t634 t637 _ ?side1 ?side2 ?side3 ?side4 A14.out).mono ?_
        (case side1 => repeat (first | exact (Kd.C_below HR0_0.out HB.out) | (with_reducible refine Kd.C_alloc ?_ _) | (with_reducible refine Kd.C_drewN ?_ _) | (with_reducible refine Kd.C_drew ?_)))
        (case side2 => exact HC0_0.out)
        (case side3 => repeat (first | exact (Kd.C_below HR0_3.out HB.out) | (with_reducible refine Kd.C_alloc ?_ _) | (with_reducible refine Kd.C_drewN ?_ _) | (with_reducible refine Kd.C_drew ?_)))
        (case side4 => exact HC0_3.out)
        rintro e w38 ⟨v630, v635, rfl, ho0, ho1, hb⟩
        refine ⟨_, rfl, ?_⟩
        have n0_ := Aside0.mk (Kd.R_elder' (by (with_reducible repeat (first | apply Kd.R_alloc | apply Kd.R_drewN | apply Kd.R_drew)); exact HO605.out) (Kd.R_base ho0) hb)
        have n1_ := Aside0.mk (Kd.R_elder' (by (with_reducible repeat (first | apply Kd.R_alloc | apply Kd.R_drewN | apply Kd.R_drew)); exact HO610.out) (Kd.R_base ho1) hb)
        have n2_ := Aside0.mk (Kd.R_elder' (by (with_reducible repeat (first | apply Kd.R_alloc | apply Kd.R_drewN | apply Kd.R_drew)); exact HO614.out) (Kd.R_base ho1) hb)
        have n3_ := Aside0.mk (Kd.R_elder' (by (with_reducible repeat (first | apply Kd.R_alloc | apply Kd.R_drewN | apply Kd.R_drew)); exact HO617.out) (Kd.R_base ho0) hb)
        have n4_ := Aside0.mk (Kd.R_elder' (by (with_reducible repeat (first | apply Kd.R_alloc | apply Kd.R_drewN | apply Kd.R_drew)); exact HO622.out) (Kd.R_base ho1) hb)
        have n5_ := Aside0.mk (Kd.R_elder' (by (with_reducible repeat (first | apply Kd.R_alloc | apply Kd.R_drewN | apply Kd.R_drew)); exact HO627.out) (Kd.R_base ho1) hb)
        have n6_ := Aside0.mk (Kd.R_lower (Kd.R_new' (Kd.R_new' ho0 (Kd.R_lt (by (with_reducible repeat (first | apply Kd.R_alloc | apply Kd.R_drewN | apply Kd.R_drew)); exact HO605.out))) (Kd.R_lt (by (with_reducible repeat (first | apply Kd.R_alloc | apply Kd.R_drewN | apply Kd.R_drew)); exact HO617.out))) (below_size (by repeat (first | (with_reducible first | exact HB.out | apply below_alloc | apply pw_below_drewN | apply below_drew1 | refine below_set ?_ GE601.out | refine below_set ?_ GE624.out) | exact HB.out))))
        have n7_ := Aside0.mk (Kd.R_lower (Kd.R_new' (Kd.R_new' (Kd.R_new' (Kd.R_new' ho1 (Kd.R_lt (by (with_reducible repeat (first | apply Kd.R_alloc | apply Kd.R_drewN | apply Kd.R_drew)); exact HO610.out))) (Kd.R_lt (by (with_reducible repeat (first | apply Kd.R_alloc | apply Kd.R_drewN | apply Kd.R_drew)); exact HO614.out))) (Kd.R_lt (by (with_reducible repeat (first | apply Kd.R_alloc | apply Kd.R_drewN | apply Kd.R_drew)); exact HO622.out))) (Kd.R_lt (by (with_reducible repeat (first | apply Kd.R_alloc | apply Kd.R_drewN | apply Kd.R_drew)); exact HO627.out))) (below_size (by repeat (first | (with_reducible first | exact HB.out | apply below_alloc | apply pw_below_drewN | apply below_drew1 | refine below_set ?_ GE601.out | refine below_set ?_ GE624.out) | exact HB.out))))
        have n8_ := Aside0.mk (blk_below (g := gb601) (o := .cells #[.slice A0_0 l0_0.length c0_0, .int .i64 a0_1, .string a0_2, .slice A0_3 l0_3.length c0_3, .int .i64 a0_4] 62 (0, 0)) (by (with_reducible repeat (first | refine blk_drewN ?_ _ | refine blk_drew ?_ | refine blk_alloc ?_ _)); exact BK601.out) hb)
        have n9_ := Aside0.mk (blk_below (g := gb624) (o := .cells #[.slice Ao30 t615.length co30, .int .i64 t618, .string t619, .slice Ao33 t620.length co33, .int .i64 t623] 68 (0, 0)) (by (with_reducible repeat (first | refine blk_drewN ?_ _ | refine blk_drew ?_ | refine blk_alloc ?_ _)); exact BK624.out) hb)
        have n10_ := Aside0.mk (below_step (by repeat (first | (with_reducible first | exact HB.out | apply below_alloc | apply pw_below_drewN | apply below_drew1 | refine below_set ?_ GE601.out | refine below_set ?_ GE624.out) | exact HB.out)) hb)
        clear HO605
        clear HO610
        clear HO614
        clear HO617
        clear HO622
        clear HO627
        clear BK601
        clear BK624
        clear HB
        have HO605 := n0_
        have HO610 := n1_
        have HO614 := n2_
        have HO617 := n3_
        have HO622 := n4_
        have HO627 := n5_
        have HO631 := n6_
        have HO636 := n7_
        have BK601 := n8_
        have BK624 := n9_
        have HB := n10_
        clear n0_ n1_ n2_ n3_ n4_ n5_ n6_ n7_ n8_ n9_ n10_
        (try clear hb)
        (try clear hb2)
        (try clear hk)
        (try clear hi)
        (try clear ho0)
        (try clear ho1)
        obtain ⟨Ao39, co39, eo39⟩ := Kd.R_slice HO631.out
        (first | subst eo39 | (injection eo39 with f1_ f2_ f3_; have f4_ := f1_.symm; have f5_ := f3_.symm; clear f1_ f2_ f3_; subst f4_; subst f5_))
        obtain ⟨Ao40, co40, eo40⟩ := Kd.R_slice HO636.out
        (first | subst eo40 | (injection eo40 with f1_ f2_ f3_; have f4_ := f1_.symm; have f5_ := f3_.symm; clear f1_ f2_ f3_; subst f4_; subst f5_))
        refine hK.out _ _ ⟨(blk_cell BK624.out 0).trans rfl, (blk_cell BK624.out 1).trans rfl, (blk_cell BK624.out 2).trans rfl, (blk_cell BK624.out 3).trans rfl, (blk_cell BK624.out 4).trans rfl, (blk_cell BK601.out 0).trans rfl, (blk_cell BK601.out 1).trans rfl, (blk_cell BK601.out 2).trans rfl, (blk_cell BK601.out 3).trans rfl, (blk_cell BK601.out 4).trans rfl⟩ (fun hHeld => ?_)
        clear hK K
        refine norm_ (a' := ?_) ?_ ?_
        rotate_left
        · show Act.put _ (some 33) _ = _
          simp only [Act.put, List.setIfInBounds_toArray, List.set_cons_zero, List.set_cons_succ, i64_w, i32_w]
          rfl
        refine one_ (i := 3) (N := some 34) #[true, true, true, true, false] rfl rfl (by kernel_rfl) (by decide) (fun K hK => ?_)
        refine goes_ Try.func47 (by kernel_rfl) rfl #[.agg #[.slice Ao30 t615.length co30, .int .i64 t618, .string t619, .slice Ao33 t620.length co33, .int .i64 t623], .agg #[.slice Ao39 t629.length co39, .int .i64 t632, .string t633, .slice Ao40 t634.length co40, .int .i64 t637]] (by rfl) rfl rfl (by (try simp only [List.map_toArray, List.map_cons, List.map_nil]); first | done | rfl | (simp only [List.length_drop, List.length_take]; rfl)) ?_
        with_reducible refine (laws_eqStore.calls k _ _ t615 t618 t619 _ _ t620 t623 _ _ t629 t632 t633 _ _ t634 t637 true _ ?side1 ?side2 ?side3 ?side4 ?side5 ?side6 ?side7 ?side8 A15.out).mono ?_
        (case side1 => repeat (first | exact (Kd.R_reads' HO617.out).2.2 | (with_reducible refine Kd.C_alloc ?_ _) | (with_reducible refine Kd.C_drewN ?_ _) | (with_reducible refine Kd.C_drew ?_)))
        (case side2 => exact (Kd.R_reads' HO617.out).2.1)
        (case side3 => repeat (first | exact (Kd.R_reads' HO622.out).2.2 | (with_reducible refine Kd.C_alloc ?_ _) | (with_reducible refine Kd.C_drewN ?_ _) | (with_reducible refine Kd.C_drew ?_)))
        (case side4 => exact (Kd.R_reads' HO622.out).2.1)
        (case side5 => repeat (first | exact (Kd.R_reads' HO631.out).2.2 | (with_reducible refine Kd.C_alloc ?_ _) | (with_reducible refine Kd.C_drewN ?_ _) | (with_reducible refine Kd.C_drew ?_)))
        (case side6 => exact (Kd.R_reads' HO631.out).2.1)
        (case side7 => repeat (first | exact (Kd.R_reads' HO636.out).2.2 | (with_reducible refine Kd.C_alloc ?_ _) | (with_reducible refine Kd.C_drewN ?_ _) | (with_reducible refine Kd.C_drew ?_)))
        (case side8 => exact (Kd.R_reads' HO636.out).2.1)
        rintro e w41 ⟨rfl, hb⟩
        refine ⟨_, rfl, ?_⟩
        have n0_ := Aside0.mk (Kd.R_below (by (with_reducible repeat (first | apply Kd.R_alloc | apply Kd.R_drewN | apply Kd.R_drew)); exact HO605.out) hb)
        have n1_ := Aside0.mk (Kd.R_below (by (with_reducible repeat (first | apply Kd.R_alloc | apply Kd.R_drewN | apply Kd.R_drew)); exact HO610.out) hb)
        have n2_ := Aside0.mk (Kd.R_below (by (with_reducible repeat (first | apply Kd.R_alloc | apply Kd.R_drewN | apply Kd.R_drew)); exact HO614.out) hb)
        have n3_ := Aside0.mk (Kd.R_below (by (with_reducible repeat (first | apply Kd.R_alloc | apply Kd.R_drewN | apply Kd.R_drew)); exact HO617.out) hb)
        have n4_ := Aside0.mk (Kd.R_below (by (with_reducible repeat (first | apply Kd.R_alloc | apply Kd.R_drewN | apply Kd.R_drew)); exact HO622.out) hb)
        have n5_ := Aside0.mk (Kd.R_below (by (with_reducible repeat (first | apply Kd.R_alloc | apply Kd.R_drewN | apply Kd.R_drew)); exact HO627.out) hb)
        have n6_ := Aside0.mk (Kd.R_below (by (with_reducible repeat (first | apply Kd.R_alloc | apply Kd.R_drewN | apply Kd.R_drew)); exact HO631.out) hb)
        have n7_ := Aside0.mk (Kd.R_below (by (with_reducible repeat (first | apply Kd.R_alloc | apply Kd.R_drewN | apply Kd.R_drew)); exact HO636.out) hb)
        have n8_ := Aside0.mk (blk_below (g := gb601) (o := .cells #[.slice A0_0 l0_0.length c0_0, .int .i64 a0_1, .string a0_2, .slice A0_3 l0_3.length c0_3, .int .i64 a0_4] 62 (0, 0)) (by (with_reducible repeat (first | refine blk_drewN ?_ _ | refine blk_drew ?_ | refine blk_alloc ?_ _)); exact BK601.out) hb)
        have n9_ := Aside0.mk (blk_below (g := gb624) (o := .cells #[.slice Ao30 t615.length co30, .int .i64 t618, .string t619, .slice Ao33 t620.length co33, .int .i64 t623] 68 (0, 0)) (by (with_reducible repeat (first | refine blk_drewN ?_ _ | refine blk_drew ?_ | refine blk_alloc ?_ _)); exact BK624.out) hb)
        have n10_ := Aside0.mk (below_step (by repeat (first | (with_reducible first | exact HB.out | apply below_alloc | apply pw_below_drewN | apply below_drew1 | refine below_set ?_ GE601.out | refine below_set ?_ GE624.out) | exact HB.out)) hb)
        clear HO605
        clear HO610
        clear HO614
        clear HO617
        clear HO622
        clear HO627
        clear HO631
        clear HO636
        clear BK601
        clear BK624
        clear HB
        have HO605 := n0_
        have HO610 := n1_
        have HO614 := n2_
        have HO617 := n3_
        have HO622 := n4_
        have HO627 := n5_
        have HO631 := n6_
        have HO636 := n7_
        have BK601 := n8_
        have BK624 := n9_
        have HB := n10_
        clear n0_ n1_ n2_ n3_ n4_ n5_ n6_ n7_ n8_ n9_ n10_
        (try clear hb)
        (try clear hb2)
        (try clear hk)
        (try clear hi)
        refine hK.out _ _ ⟨(blk_cell BK624.out 0).trans rfl, (blk_cell BK624.out 1).trans rfl, (blk_cell BK624.out 2).trans rfl, (blk_cell BK624.out 3).trans rfl, (blk_cell BK624.out 4).trans rfl, (blk_cell BK601.out 0).trans rfl, (blk_cell BK601.out 1).trans rfl, (blk_cell BK601.out 2).trans rfl, (blk_cell BK601.out 3).trans rfl, (blk_cell BK601.out 4).trans rfl⟩ (fun hHeld => ?_)
        clear hK K
        refine norm_ (a' := ?_) ?_ ?_
        rotate_left
        · show Act.put _ (some 34) _ = _
          simp only [Act.put, List.setIfInBounds_toArray, List.set_cons_zero, List.set_cons_succ, i64_w, i32_w]
          rfl
        refine pure_ (i := 4) (N := some 35) (v := ?_) (a' := ?_) #[true, true, true, true, true] rfl rfl (by kernel_rfl) (fun _ _ _ h => h) (Or.inl ⟨by rfl, ?_⟩) ?_ ?_
        rotate_left
        · intro w'
          go_simp
          with_reducible rfl
        rotate_left
        · simp only [Act.put, List.setIfInBounds_toArray, List.set_cons_zero, List.set_cons_succ, i64_w, i32_w]
          rfl
        refine done_ (by kernel_rfl) ?_
        have hcz42_0 : w41.cell? ⟨gb624, 0, none⟩ = some (.slice Ao30 t615.length co30) := (blk_cell BK624.out 0).trans rfl
        have hcz42_1 : w41.cell? ⟨gb624, 1, none⟩ = some (.int .i64 t618) := (blk_cell BK624.out 1).trans rfl
        have hcz42_2 : w41.cell? ⟨gb624, 2, none⟩ = some (.string t619) := (blk_cell BK624.out 2).trans rfl
        have hcz42_3 : w41.cell? ⟨gb624, 3, none⟩ = some (.slice Ao33 t620.length co33) := (blk_cell BK624.out 3).trans rfl
        have hcz42_4 : w41.cell? ⟨gb624, 4, none⟩ = some (.int .i64 t623) := (blk_cell BK624.out 4).trans rfl
        have hfz42_0 := blk_frozen BK624.out 0
        have hfz42_1 := blk_frozen BK624.out 1
        have hfz42_2 := blk_frozen BK624.out 2
        have hfz42_3 := blk_frozen BK624.out 3
        have hfz42_4 := blk_frozen BK624.out 4
        go_upto_region 14 with (first | ((with_reducible refine gate_callee (f := 48) rfl ?_); refine goesL_ (some 38) rfl rfl Try.func48 (by kernel_rfl) rfl #[.agg #[.slice Ao30 t615.length co30, .int .i64 t618, .string t619, .slice Ao33 t620.length co33, .int .i64 t623], .int .i64 1] rfl (by (try simp only [List.map_toArray, List.map_cons, List.map_nil]); first | done | rfl | (simp only [List.length_drop, List.length_take]; rfl)) ?_; (with_reducible refine (laws_markStore.calls k (fun k_ => some k_ = (.slice Ao30 t615.length co30 : Value).ownBlock) (.slice Ao30 t615.length co30) t615 t618 t619 (fun k_ => some k_ = (.slice Ao33 t620.length co33 : Value).ownBlock) (.slice Ao33 t620.length co33) t620 t623 1 t639 t640 t641 w _ ?side1 ?side2 ?side3 A17.out).mono ?_); (case side1 => repeat (first | (with_reducible first | exact HB.out | apply below_alloc | apply pw_below_drewN | apply below_drew1 | refine below_set ?_ GE601.out | refine below_set ?_ GE624.out) | exact HB.out)); (case side2 => exact Kd.R_tight rfl HO617.out); (case side3 => exact Kd.R_tight rfl HO622.out); rintro e w43 ⟨rfl, hy0, hy1, hb, hkp⟩; refine ⟨_, rfl, ?_⟩; have n0_ := Aside0.mk (blk_kept (by (with_reducible repeat (first | refine blk_drewN ?_ _ | refine blk_drew ?_ | refine blk_alloc ?_ _)); exact BK601.out) hkp (fun hs_ => Or.elim hs_ (fun e_ => (fun e_ => (Kd.R_ne HO617.out BK601.out (by decide)) e_) e_) (fun e_ => (fun e_ => (Kd.R_ne HO622.out BK601.out (by decide)) e_) e_))); have n1_ := Aside0.mk (Kd.R_mono (ok' := fun k_ => some k_ ≠ (.slice Ao30 t615.length co30 : Value).ownBlock ∧ some k_ ≠ (.slice Ao39 t629.length co39 : Value).ownBlock) (Kd.R_keptB ((Kd.R_apart' HO605.out (Kd.R_typed HO622.out) (by decide))) hkp (fun k_ hk_ hs_ => Or.elim hs_ (fun e_ => absurd e_ (Imp.imp hk_)) (fun e_ => absurd e_ (Imp.imp hk_)))) (fun k_ hk_ => Imp.imp hk_)); have n2_ := Aside0.mk (Kd.R_mono (ok' := fun k_ => some k_ ≠ (.slice Ao36 t612.length co36 : Value).ownBlock ∧ some k_ ≠ (.slice Ao33 t620.length co33 : Value).ownBlock ∧ some k_ ≠ (.slice Ao35 t625.length co35 : Value).ownBlock ∧ some k_ ≠ (.slice Ao40 t634.length co40 : Value).ownBlock) (Kd.R_keptB ((Kd.R_apart' HO610.out (Kd.R_typed HO617.out) (by decide))) hkp (fun k_ hk_ hs_ => Or.elim hs_ (fun e_ => absurd e_ (Imp.imp hk_)) (fun e_ => absurd e_ (Imp.imp hk_)))) (fun k_ hk_ => Imp.imp hk_)); have n3_ := Aside0.mk (Kd.R_mono (ok' := fun k_ => some k_ ≠ (.slice Ao25 t608.length co25 : Value).ownBlock ∧ some k_ ≠ (.slice Ao33 t620.length co33 : Value).ownBlock ∧ some k_ ≠ (.slice Ao35 t625.length co35 : Value).ownBlock ∧ some k_ ≠ (.slice Ao40 t634.length co40 : Value).ownBlock) (Kd.R_keptB ((Kd.R_apart' HO614.out (Kd.R_typed HO617.out) (by decide))) hkp (fun k_ hk_ hs_ => Or.elim hs_ (fun e_ => absurd e_ (Imp.imp hk_)) (fun e_ => absurd e_ (Imp.imp hk_)))) (fun k_ hk_ => Imp.imp hk_)); have n4_ := Aside0.mk (Kd.R_reok rfl hy0 (fun k_ e_ => HO617.out.1 k_ e_)); have n5_ := Aside0.mk (Kd.R_reok rfl hy1 (fun k_ e_ => HO622.out.1 k_ e_)); have n6_ := Aside0.mk (blk_kept (by (with_reducible repeat (first | refine blk_drewN ?_ _ | refine blk_drew ?_ | refine blk_alloc ?_ _)); exact BK624.out) hkp (fun hs_ => Or.elim hs_ (fun e_ => (fun e_ => (Kd.R_ne HO617.out BK624.out (by decide)) e_) e_) (fun e_ => (fun e_ => (Kd.R_ne HO622.out BK624.out (by decide)) e_) e_))); have n7_ := Aside0.mk (Kd.R_mono (ok' := fun k_ => some k_ ≠ (.slice Ao25 t608.length co25 : Value).ownBlock ∧ some k_ ≠ (.slice Ao36 t612.length co36 : Value).ownBlock ∧ some k_ ≠ (.slice Ao33 t620.length co33 : Value).ownBlock ∧ some k_ ≠ (.slice Ao40 t634.length co40 : Value).ownBlock) (Kd.R_keptB ((Kd.R_apart' HO627.out (Kd.R_typed HO617.out) (by decide))) hkp (fun k_ hk_ hs_ => Or.elim hs_ (fun e_ => absurd e_ (Imp.imp hk_)) (fun e_ => absurd e_ (Imp.imp hk_)))) (fun k_ hk_ => Imp.imp hk_)); have n8_ := Aside0.mk (Kd.R_mono (ok' := fun k_ => some k_ ≠ (.slice Ao24 t603.length co24 : Value).ownBlock ∧ some k_ ≠ (.slice Ao30 t615.length co30 : Value).ownBlock) (Kd.R_keptB ((Kd.R_apart' HO631.out (Kd.R_typed HO622.out) (by decide))) hkp (fun k_ hk_ hs_ => Or.elim hs_ (fun e_ => absurd e_ (Imp.imp hk_)) (fun e_ => absurd e_ (Imp.imp hk_)))) (fun k_ hk_ => Imp.imp hk_)); have n9_ := Aside0.mk (Kd.R_mono (ok' := fun k_ => some k_ ≠ (.slice Ao25 t608.length co25 : Value).ownBlock ∧ some k_ ≠ (.slice Ao36 t612.length co36 : Value).ownBlock ∧ some k_ ≠ (.slice Ao33 t620.length co33 : Value).ownBlock ∧ some k_ ≠ (.slice Ao35 t625.length co35 : Value).ownBlock) (Kd.R_keptB ((Kd.R_apart' HO636.out (Kd.R_typed HO617.out) (by decide))) hkp (fun k_ hk_ hs_ => Or.elim hs_ (fun e_ => absurd e_ (Imp.imp hk_)) (fun e_ => absurd e_ (Imp.imp hk_)))) (fun k_ hk_ => Imp.imp hk_)); have n10_ := Aside0.mk (hb); clear BK601; clear HO605; clear HO610; clear HO614; clear HO617; clear HO622; clear BK624; clear HO627; clear HO631; clear HO636; clear HB; have BK601 := n0_; have HO605 := n1_; have HO610 := n2_; have HO614 := n3_; have HO617 := n4_; have HO622 := n5_; have BK624 := n6_; have HO627 := n7_; have HO631 := n8_; have HO636 := n9_; have HB := n10_; clear n0_ n1_ n2_ n3_ n4_ n5_ n6_ n7_ n8_ n9_ n10_; (try clear hb); (try clear hkp); (try clear hy0); (try clear hy1)))
        (try simp only [Act.put, List.setIfInBounds_toArray, List.set_cons_zero, List.set_cons_succ])
        go_cut [46] (fun v46 wc => ∃ (kq : Nat) (x46_17 : Bool), v46 = .bool x46_17 ∧ Aside0 (laws_FnExactFallStore.j0 kq a1 t612 t625 x46_17 l0_0 a0_1 a0_2 l0_3 a0_4 = some r) ∧ Aside0 (kq ≤ k) ∧ Aside0 (Kd.R (Kd.int .u8) 5 wc w.heap.size (fun k_ => some k_ ≠ ((.slice Ao35 t625.length co35) : Value).ownBlock ∧ some k_ ≠ ((.slice Ao33 t620.length co33) : Value).ownBlock) (.slice Ao36 t612.length co36) t612) ∧ Aside0 (Kd.R (Kd.int .u8) 5 wc w.heap.size (fun k_ => some k_ ≠ ((.slice Ao36 t612.length co36) : Value).ownBlock ∧ some k_ ≠ ((.slice Ao33 t620.length co33) : Value).ownBlock) (.slice Ao35 t625.length co35) t625) ∧ Aside0 (Kd.R Kd.string 9 wc w.heap.size (fun _ => True) (.slice Ao30 t615.length co30) t640) ∧ Aside0 (Kd.R (Kd.int .u8) 5 wc w.heap.size (fun k_ => some k_ ≠ ((.slice Ao36 t612.length co36) : Value).ownBlock ∧ some k_ ≠ ((.slice Ao35 t625.length co35) : Value).ownBlock) (.slice Ao33 t620.length co33) t641) ∧ Aside0 (wc.heap[gb601]? = some (.cells #[(.slice A0_0 l0_0.length c0_0), .int .i64 a0_1, .string a0_2, (.slice A0_3 l0_3.length c0_3), .int .i64 a0_4] 62 (0, 0))) ∧ Aside0 (wc.heap[gb624]? = some (.cells #[(.slice Ao30 t615.length co30), .int .i64 t618, .string t619, (.slice Ao33 t620.length co33), .int .i64 t623] 68 (0, 0))) ∧ Aside0 (Below w.heap.size w wc))
        case first =>
          have H := HC18.out
          clear HC18
          by_cases c44 : t639 < 0
          · rw [if_pos c44] at H
            have c44b0 : decide (t639 < 0) = true := decide_eq_true c44
            clear c44
            (first | rw [c44b0] | (simp only [i64_w, i32_w]; rw [c44b0]) | skip)
            have H' := Aside0.mk H
            clear H
            go_wp2
            go_meet
            case rel => exact ⟨_, (true), (by first | rfl | (simp; done) | (simp [*]; done)), H', ⟨by first | omega | exact Nat.le_refl _⟩, ⟨by (with_reducible repeat (first | apply Kd.R_alloc | apply Kd.R_drewN | apply Kd.R_drew)); exact Kd.R_mono HO614.out (fun _ hk => Imp.imp hk)⟩, ⟨by (with_reducible repeat (first | apply Kd.R_alloc | apply Kd.R_drewN | apply Kd.R_drew)); exact Kd.R_mono HO627.out (fun _ hk => Imp.imp hk)⟩, ⟨by (with_reducible repeat (first | apply Kd.R_alloc | apply Kd.R_drewN | apply Kd.R_drew)); exact Kd.R_mono HO617.out (fun _ hk => trivial)⟩, ⟨by (with_reducible repeat (first | apply Kd.R_alloc | apply Kd.R_drewN | apply Kd.R_drew)); exact Kd.R_mono HO622.out (fun _ hk => Imp.imp hk)⟩, ⟨by (with_reducible repeat (first | refine blk_drewN ?_ _ | refine blk_drew ?_ | refine blk_alloc ?_ _)); exact BK601.out⟩, ⟨by (with_reducible repeat (first | refine blk_drewN ?_ _ | refine blk_drew ?_ | refine blk_alloc ?_ _)); exact BK624.out⟩, ⟨by repeat (first | (with_reducible first | exact HB.out | apply below_alloc | apply pw_below_drewN | apply below_drew1 | refine below_set ?_ GE601.out | refine below_set ?_ GE624.out) | exact HB.out)⟩⟩
          · rw [if_neg c44] at H
            have c44b0 : decide (t639 < 0) = false := decide_eq_false c44
            clear c44
            (first | rw [c44b0] | (simp only [i64_w, i32_w]; rw [c44b0]) | skip)
            replace H := Option.bind_eq_some_iff.mp H
            obtain ⟨t642, A450, H⟩ := H
            replace H : (laws_FnExactFallStore.j0 k a1 t612 t625 (!t642) l0_0 a0_1 a0_2 l0_3 a0_4) = some r := H
            have A45 := Aside0.mk A450
            clear A450
            have H' := Aside0.mk H
            clear H
            go_wp2_with (first | (go_at_call 46; (with_reducible refine (laws_eqByteS.calls k _ _ t625 _ _ t612 t642 _ ?side1 ?side2 ?side3 ?side4 A45.out).mono ?_); (case side1 => repeat (first | exact (Kd.R_reads' HO627.out).2.2 | (with_reducible refine Kd.C_alloc ?_ _) | (with_reducible refine Kd.C_drewN ?_ _) | (with_reducible refine Kd.C_drew ?_))); (case side2 => exact (Kd.R_reads' HO627.out).2.1); (case side3 => repeat (first | exact (Kd.R_reads' HO614.out).2.2 | (with_reducible refine Kd.C_alloc ?_ _) | (with_reducible refine Kd.C_drewN ?_ _) | (with_reducible refine Kd.C_drew ?_))); (case side4 => exact (Kd.R_reads' HO614.out).2.1); rintro e w' ⟨rfl, ⟨nd, rfl⟩⟩))
            go_meet
            case rel => exact ⟨_, (!t642), (by first | rfl | (simp; done) | (simp [*]; done)), H', ⟨by first | omega | exact Nat.le_refl _⟩, ⟨by (with_reducible repeat (first | apply Kd.R_alloc | apply Kd.R_drewN | apply Kd.R_drew)); exact Kd.R_mono HO614.out (fun _ hk => Imp.imp hk)⟩, ⟨by (with_reducible repeat (first | apply Kd.R_alloc | apply Kd.R_drewN | apply Kd.R_drew)); exact Kd.R_mono HO627.out (fun _ hk => Imp.imp hk)⟩, ⟨by (with_reducible repeat (first | apply Kd.R_alloc | apply Kd.R_drewN | apply Kd.R_drew)); exact Kd.R_mono HO617.out (fun _ hk => trivial)⟩, ⟨by (with_reducible repeat (first | apply Kd.R_alloc | apply Kd.R_drewN | apply Kd.R_drew)); exact Kd.R_mono HO622.out (fun _ hk => Imp.imp hk)⟩, ⟨by (with_reducible repeat (first | refine blk_drewN ?_ _ | refine blk_drew ?_ | refine blk_alloc ?_ _)); exact BK601.out⟩, ⟨by (with_reducible repeat (first | refine blk_drewN ?_ _ | refine blk_drew ?_ | refine blk_alloc ?_ _)); exact BK624.out⟩, ⟨by repeat (first | (with_reducible first | exact HB.out | apply below_alloc | apply pw_below_drewN | apply below_drew1 | refine below_set ?_ GE601.out | refine below_set ?_ GE624.out) | exact HB.out)⟩⟩
        case rest =>
          clear HC18
          try clear c1
          try clear p2
          try clear c3
          try clear c4
          try clear c4b0
          try clear c11
          try clear c13
          try clear c16
          try clear c31
          try clear c42
          try clear c43
          try clear c44
          try clear c44b0
          try clear c45
          try clear hcz20_0
          try clear hcz20_1
          try clear hcz20_2
          try clear hcz20_3
          try clear hcz20_4
          try clear hcz22_0
          try clear hcz22_1
          try clear hcz22_2
          try clear hcz22_3
          try clear hcz22_4
          try clear hcz27_0
          try clear hcz27_1
          try clear hcz27_2
          try clear hcz27_3
          try clear hcz27_4
          try clear hcz32_0
          try clear hcz32_1
          try clear hcz32_2
          try clear hcz32_3
          try clear hcz32_4
          try clear hcz42_0
          try clear hcz42_1
          try clear hcz42_2
          try clear hcz42_3
          try clear hcz42_4
          try clear hcz6_0
          try clear hcz6_1
          try clear hcz6_2
          try clear hcz6_3
          try clear hcz6_4
          try clear hfz20_0
          try clear hfz20_1
          try clear hfz20_2
          try clear hfz20_3
          try clear hfz20_4
          try clear hfz22_0
          try clear hfz22_1
          try clear hfz22_2
          try clear hfz22_3
          try clear hfz22_4
          try clear hfz27_0
          try clear hfz27_1
          try clear hfz27_2
          try clear hfz27_3
          try clear hfz27_4
          try clear hfz32_0
          try clear hfz32_1
          try clear hfz32_2
          try clear hfz32_3
          try clear hfz32_4
          try clear hfz42_0
          try clear hfz42_1
          try clear hfz42_2
          try clear hfz42_3
          try clear hfz42_4
          try clear hfz6_0
          try clear hfz6_1
          try clear hfz6_2
          try clear hfz6_3
          try clear hfz6_4
          obtain ⟨kq, x46_17, rfl, HA, HJ17, HO_6, HO_8, HO_625000, HO_625003, BK601, BK624, HB⟩ := hcut
          have hl625000_17 := (Kd.R_reads' HO_625000.out).1
          rw [hl625000_17] at HO_625000
          (try simp only [hl625000_17])
          (try simp only [hl625000_17] at BK601)
          (try simp only [hl625000_17] at BK624)
          (try simp only [hl625000_17] at HO_6)
          (try simp only [hl625000_17] at HO_8)
          (try simp only [hl625000_17] at HO_625003)
          have hl625003_17 := (Kd.R_reads' HO_625003.out).1
          rw [hl625003_17] at HO_625003
          (try simp only [hl625003_17])
          (try simp only [hl625003_17] at BK601)
          (try simp only [hl625003_17] at BK624)
          (try simp only [hl625003_17] at HO_6)
          (try simp only [hl625003_17] at HO_8)
          (try simp only [hl625003_17] at HO_625000)
          cases kq with
          | zero => exact absurd HA.out (by simp [laws_FnExactFallStore.j0])
          | succ kj17 =>
            have H := HA.out
            clear HA
            simp only [laws_FnExactFallStore.j0] at H
            by_cases c46 : x46_17 = true
            · subst c46
              have H1 : (none) = some r := by rw [if_pos rfl] at H; exact H
              clear H
              have H := H1
              clear H1
              exact absurd H (by simp)
            · replace c46 := Bool.eq_false_iff.mpr c46
              subst c46
              have H1 : ((laws_markByteS.f kj17 t625 1).bind fun bt643 => ((laws_heldByteS.f kj17 bt643.2 1).bind fun t645 => (if t645 < 0 then (none) else (if t645 = bt643.1 then ((laws_toStore.f kj17 l0_0 a0_1 a0_2 l0_3 a0_4).bind fun bt646 => ((impl_FallStore.f bt646.1 bt646.2.1 bt646.2.2.1 bt646.2.2.2.1 bt646.2.2.2.2 a1).bind fun t655 => ((laws_eqByteS.f kj17 t655 t612).bind fun t658 => (if t658 = true then ((laws_heldByteS.f kj17 bt643.2 1).bind fun t659 => (if t659 < 0 then (none) else (if t659 = bt643.1 then (some true) else (none)))) else (none))))) else (none))))) = some r := by rw [if_neg (show ¬ (false = true) by decide)] at H; exact H
              clear H
              have H := H1
              clear H1
              replace H := Option.bind_eq_some_iff.mp H
              obtain ⟨⟨t643, t644⟩, A470, H⟩ := H
              replace H : ((laws_heldByteS.f kj17 t644 1).bind fun t645 => (if t645 < 0 then (none) else (if t645 = t643 then ((laws_toStore.f kj17 l0_0 a0_1 a0_2 l0_3 a0_4).bind fun bt646 => ((impl_FallStore.f bt646.1 bt646.2.1 bt646.2.2.1 bt646.2.2.2.1 bt646.2.2.2.2 a1).bind fun t655 => ((laws_eqByteS.f kj17 t655 t612).bind fun t658 => (if t658 = true then ((laws_heldByteS.f kj17 t644 1).bind fun t659 => (if t659 < 0 then (none) else (if t659 = t643 then (some true) else (none)))) else (none))))) else (none)))) = some r := H
              have A47 := Aside0.mk A470
              clear A470
              replace H := Option.bind_eq_some_iff.mp H
              obtain ⟨t645, A480, H⟩ := H
              replace H : (if t645 < 0 then (none) else (if t645 = t643 then ((laws_toStore.f kj17 l0_0 a0_1 a0_2 l0_3 a0_4).bind fun bt646 => ((impl_FallStore.f bt646.1 bt646.2.1 bt646.2.2.1 bt646.2.2.2.1 bt646.2.2.2.2 a1).bind fun t655 => ((laws_eqByteS.f kj17 t655 t612).bind fun t658 => (if t658 = true then ((laws_heldByteS.f kj17 t644 1).bind fun t659 => (if t659 < 0 then (none) else (if t659 = t643 then (some true) else (none)))) else (none))))) else (none))) = some r := H
              have A48 := Aside0.mk A480
              clear A480
              by_cases c49 : t645 < 0
              · rw [if_pos c49] at H
                exact absurd H (by simp)
              · rw [if_neg c49] at H
                have c49b0 : decide (t645 < 0) = false := decide_eq_false c49
                clear c49
                by_cases c50 : t645 = t643
                · rw [if_pos c50] at H
                  have c50b0 : (t645 == t643) = true := beq_iff_eq.mpr c50
                  have c50b1 : (t645 != t643) = false := bne_eq_false_iff_eq.mpr c50
                  clear c50
                  replace H := Option.bind_eq_some_iff.mp H
                  obtain ⟨⟨t646, t649, t650, t651, t654⟩, A510, H⟩ := H
                  replace H : ((impl_FallStore.f t646 t649 t650 t651 t654 a1).bind fun t655 => ((laws_eqByteS.f kj17 t655 t612).bind fun t658 => (if t658 = true then ((laws_heldByteS.f kj17 t644 1).bind fun t659 => (if t659 < 0 then (none) else (if t659 = t643 then (some true) else (none)))) else (none)))) = some r := H
                  have A51 := Aside0.mk A510
                  clear A510
                  replace H := Option.bind_eq_some_iff.mp H
                  obtain ⟨t655, A520, H⟩ := H
                  replace H : ((laws_eqByteS.f kj17 t655 t612).bind fun t658 => (if t658 = true then ((laws_heldByteS.f kj17 t644 1).bind fun t659 => (if t659 < 0 then (none) else (if t659 = t643 then (some true) else (none)))) else (none))) = some r := H
                  have A52 := Aside0.mk A520
                  clear A520
                  replace H := Option.bind_eq_some_iff.mp H
                  obtain ⟨t658, A530, H⟩ := H
                  replace H : (if t658 = true then ((laws_heldByteS.f kj17 t644 1).bind fun t659 => (if t659 < 0 then (none) else (if t659 = t643 then (some true) else (none)))) else (none)) = some r := H
                  have A53 := Aside0.mk A530
                  clear A530
                  by_cases c54 : t658 = true
                  · subst c54
                    have H1 : ((laws_heldByteS.f kj17 t644 1).bind fun t659 => (if t659 < 0 then (none) else (if t659 = t643 then (some true) else (none)))) = some r := by rw [if_pos rfl] at H; exact H
                    clear H
                    have H := H1
                    clear H1
                    replace H := Option.bind_eq_some_iff.mp H
                    obtain ⟨t659, A550, H⟩ := H
                    replace H : (if t659 < 0 then (none) else (if t659 = t643 then (some true) else (none))) = some r := H
                    have A55 := Aside0.mk A550
                    clear A550
                    by_cases c56 : t659 < 0
                    · rw [if_pos c56] at H
                      exact absurd H (by simp)
                    · rw [if_neg c56] at H
                      have c56b0 : decide (t659 < 0) = false := decide_eq_false c56
                      clear c56
                      by_cases c57 : t659 = t643
                      · rw [if_pos c57] at H
                        have c57b0 : (t659 == t643) = true := beq_iff_eq.mpr c57
                        have c57b1 : (t659 != t643) = false := bne_eq_false_iff_eq.mpr c57
                        clear c57
                        obtain rfl := Option.some.inj H
                        go_wp2_with (first | ((with_reducible refine gate_callee (f := 49) rfl ?_); refine goesL_ (some 49) rfl rfl Try.func49 (by kernel_rfl) rfl #[.slice Ao35 t625.length co35, .int .i64 1] rfl (by (try simp only [List.map_toArray, List.map_cons, List.map_nil]); first | done | rfl | (simp only [List.length_drop, List.length_take]; rfl)) ?_; (with_reducible refine (laws_markByteS.calls kj17 (fun k_ => some k_ = (.slice Ao35 t625.length co35 : Value).ownBlock) (.slice Ao35 t625.length co35) t625 1 t643 t644 w _ ?side1 ?side2 A47.out).mono ?_); (case side1 => repeat (first | (with_reducible first | exact HB.out | apply below_alloc | apply pw_below_drewN | apply below_drew1 | refine below_set ?_ GE601.out | refine below_set ?_ GE624.out) | exact HB.out)); (case side2 => exact Kd.R_tight rfl HO_8.out); rintro e w58 ⟨rfl, hy0, hb, hkp⟩; refine ⟨_, rfl, ?_⟩; have n0_ := Aside0.mk (Kd.R_mono (ok' := fun k_ => some k_ ≠ (.slice Ao35 t625.length co35 : Value).ownBlock ∧ some k_ ≠ (.slice Ao33 t641.length co33 : Value).ownBlock) (Kd.R_keptB (HO_6.out) hkp (fun k_ hk_ hs_ => (hk_.1) hs_)) (fun k_ hk_ => Imp.imp hk_)); have n1_ := Aside0.mk (Kd.R_reok rfl hy0 (fun k_ e_ => HO_8.out.1 k_ e_)); have n2_ := Aside0.mk (Kd.R_mono (ok' := fun k_ => True) (Kd.R_keptB ((Kd.R_apart' HO_625000.out (Kd.R_typed HO_8.out) (by decide))) hkp (fun k_ hk_ hs_ => (hk_.2) hs_)) (fun k_ hk_ => trivial)); have n3_ := Aside0.mk (Kd.R_mono (ok' := fun k_ => some k_ ≠ (.slice Ao36 t612.length co36 : Value).ownBlock ∧ some k_ ≠ (.slice Ao35 t625.length co35 : Value).ownBlock) (Kd.R_keptB (HO_625003.out) hkp (fun k_ hk_ hs_ => (hk_.2) hs_)) (fun k_ hk_ => Imp.imp hk_)); have n4_ := Aside0.mk (blk_kept (by (with_reducible repeat (first | refine blk_drewN ?_ _ | refine blk_drew ?_ | refine blk_alloc ?_ _)); exact BK601.out) hkp (fun hs_ => (fun e_ => (Kd.R_ne HO_8.out BK601.out (by decide)) e_) hs_)); have n5_ := Aside0.mk (blk_kept (by (with_reducible repeat (first | refine blk_drewN ?_ _ | refine blk_drew ?_ | refine blk_alloc ?_ _)); exact BK624.out) hkp (fun hs_ => (fun e_ => (Kd.R_ne HO_8.out BK624.out (by decide)) e_) hs_)); have n6_ := Aside0.mk (hb); clear HO_6; clear HO_8; clear HO_625000; clear HO_625003; clear BK601; clear BK624; clear HB; have HO_6 := n0_; have HO_8 := n1_; have HO_625000 := n2_; have HO_625003 := n3_; have BK601 := n4_; have BK624 := n5_; have HB := n6_; clear n0_ n1_ n2_ n3_ n4_ n5_ n6_; (try clear hb); (try clear hkp); (try clear hy0)) | ((with_reducible refine gate_callee (f := 50) rfl ?_); refine goesL_ (some 52) rfl rfl Try.func50 (by kernel_rfl) rfl #[.slice Ao35 t644.length co35, .int .i64 1] rfl (by (try simp only [List.map_toArray, List.map_cons, List.map_nil]); first | done | (rw [show t644.length = t625.length from (Kd.R_reads' HO_8.out).1.symm] <;> rfl) | rfl | (simp only [List.length_drop, List.length_take]; rfl)) ?_; (with_reducible refine (laws_heldByteS.calls kj17 _ _ t644 1 t645 _ ?side1 ?side2 A48.out).mono ?_); (case side1 => repeat (first | exact (Kd.R_reads' HO_8.out).2.2 | (with_reducible refine Kd.C_alloc ?_ _) | (with_reducible refine Kd.C_drewN ?_ _) | (with_reducible refine Kd.C_drew ?_))); (case side2 => rw [show t644.length = t625.length from (Kd.R_reads' HO_8.out).1.symm]; exact (Kd.R_reads' HO_8.out).2.1); rintro e w' ⟨rfl, ⟨nd, rfl⟩⟩; refine ⟨_, rfl, ?_⟩; have hnb59 := NB601_624.out; have hnc59 := NB624_601.out; have hcz60_0 : w58.cell? ⟨gb601, 0, none⟩ = some (.slice A0_0 l0_0.length c0_0) := (blk_cell BK601.out 0).trans rfl; have hcz60_1 : w58.cell? ⟨gb601, 1, none⟩ = some (.int .i64 a0_1) := (blk_cell BK601.out 1).trans rfl; have hcz60_2 : w58.cell? ⟨gb601, 2, none⟩ = some (.string a0_2) := (blk_cell BK601.out 2).trans rfl; have hcz60_3 : w58.cell? ⟨gb601, 3, none⟩ = some (.slice A0_3 l0_3.length c0_3) := (blk_cell BK601.out 3).trans rfl; have hcz60_4 : w58.cell? ⟨gb601, 4, none⟩ = some (.int .i64 a0_4) := (blk_cell BK601.out 4).trans rfl; have hfz60_0 := blk_frozen BK601.out 0; have hfz60_1 := blk_frozen BK601.out 1; have hfz60_2 := blk_frozen BK601.out 2; have hfz60_3 := blk_frozen BK601.out 3; have hfz60_4 := blk_frozen BK601.out 4) | ((with_reducible refine gate_callee (f := 44) rfl ?_); refine goesL_ (some 59) rfl rfl Try.func44 (by kernel_rfl) rfl #[.agg #[.slice A0_0 l0_0.length c0_0, .int .i64 a0_1, .string a0_2, .slice A0_3 l0_3.length c0_3, .int .i64 a0_4]] rfl (by (try simp only [List.map_toArray, List.map_cons, List.map_nil]); first | done | rfl | (simp only [List.length_drop, List.length_take]; rfl)) ?_; (with_reducible refine (laws_toStore.calls kj17 _ _ l0_0 a0_1 a0_2 _ _ l0_3 a0_4 t646 t649 t650 t651 t654 _ ?side1 ?side2 ?side3 ?side4 A51.out).mono ?_); (case side1 => repeat (first | exact (Kd.C_below HR0_0.out (by repeat (first | (with_reducible first | exact HB.out | apply below_alloc | apply pw_below_drewN | apply below_drew1 | refine below_set ?_ GE601.out | refine below_set ?_ GE624.out) | exact HB.out))) | (with_reducible refine Kd.C_alloc ?_ _) | (with_reducible refine Kd.C_drewN ?_ _) | (with_reducible refine Kd.C_drew ?_))); (case side2 => exact HC0_0.out); (case side3 => repeat (first | exact (Kd.C_below HR0_3.out (by repeat (first | (with_reducible first | exact HB.out | apply below_alloc | apply pw_below_drewN | apply below_drew1 | refine below_set ?_ GE601.out | refine below_set ?_ GE624.out) | exact HB.out))) | (with_reducible refine Kd.C_alloc ?_ _) | (with_reducible refine Kd.C_drewN ?_ _) | (with_reducible refine Kd.C_drew ?_))); (case side4 => exact HC0_3.out); rintro e w61 ⟨v647, v652, rfl, ho0, ho1, hb⟩; refine ⟨_, rfl, ?_⟩; have n0_ := Aside0.mk (Kd.R_elder' (by (with_reducible repeat (first | apply Kd.R_alloc | apply Kd.R_drewN | apply Kd.R_drew)); exact HO_6.out) (Kd.R_base ho1) hb); have n1_ := Aside0.mk (Kd.R_elder' (by (with_reducible repeat (first | apply Kd.R_alloc | apply Kd.R_drewN | apply Kd.R_drew)); exact HO_8.out) (Kd.R_base ho1) hb); have n2_ := Aside0.mk (Kd.R_elder' (by (with_reducible repeat (first | apply Kd.R_alloc | apply Kd.R_drewN | apply Kd.R_drew)); exact HO_625000.out) (Kd.R_base ho0) hb); have n3_ := Aside0.mk (Kd.R_elder' (by (with_reducible repeat (first | apply Kd.R_alloc | apply Kd.R_drewN | apply Kd.R_drew)); exact HO_625003.out) (Kd.R_base ho1) hb); have n4_ := Aside0.mk (Kd.R_lower (Kd.R_new' ho0 (Kd.R_lt (by (with_reducible repeat (first | apply Kd.R_alloc | apply Kd.R_drewN | apply Kd.R_drew)); exact HO_625000.out))) (below_size (by repeat (first | (with_reducible first | exact HB.out | apply below_alloc | apply pw_below_drewN | apply below_drew1 | refine below_set ?_ GE601.out | refine below_set ?_ GE624.out) | exact HB.out)))); have n5_ := Aside0.mk (Kd.R_lower (Kd.R_new' (Kd.R_new' (Kd.R_new' ho1 (Kd.R_lt (by (with_reducible repeat (first | apply Kd.R_alloc | apply Kd.R_drewN | apply Kd.R_drew)); exact HO_6.out))) (Kd.R_lt (by (with_reducible repeat (first | apply Kd.R_alloc | apply Kd.R_drewN | apply Kd.R_drew)); exact HO_8.out))) (Kd.R_lt (by (with_reducible repeat (first | apply Kd.R_alloc | apply Kd.R_drewN | apply Kd.R_drew)); exact HO_625003.out))) (below_size (by repeat (first | (with_reducible first | exact HB.out | apply below_alloc | apply pw_below_drewN | apply below_drew1 | refine below_set ?_ GE601.out | refine below_set ?_ GE624.out) | exact HB.out)))); have n6_ := Aside0.mk (blk_below (g := gb601) (o := .cells #[.slice A0_0 l0_0.length c0_0, .int .i64 a0_1, .string a0_2, .slice A0_3 l0_3.length c0_3, .int .i64 a0_4] 62 (0, 0)) (by (with_reducible repeat (first | refine blk_drewN ?_ _ | refine blk_drew ?_ | refine blk_alloc ?_ _)); exact BK601.out) hb); have n7_ := Aside0.mk (blk_below (g := gb624) (o := .cells #[.slice Ao30 t640.length co30, .int .i64 t618, .string t619, .slice Ao33 t641.length co33, .int .i64 t623] 68 (0, 0)) (by (with_reducible repeat (first | refine blk_drewN ?_ _ | refine blk_drew ?_ | refine blk_alloc ?_ _)); exact BK624.out) hb); have n8_ := Aside0.mk (below_step (by repeat (first | (with_reducible first | exact HB.out | apply below_alloc | apply pw_below_drewN | apply below_drew1 | refine below_set ?_ GE601.out | refine below_set ?_ GE624.out) | exact HB.out)) hb); clear HO_6; clear HO_8; clear HO_625000; clear HO_625003; clear BK601; clear BK624; clear HB; have HO_6 := n0_; have HO_8 := n1_; have HO_625000 := n2_; have HO_625003 := n3_; have HO648 := n4_; have HO653 := n5_; have BK601 := n6_; have BK624 := n7_; have HB := n8_; clear n0_ n1_ n2_ n3_ n4_ n5_ n6_ n7_ n8_; (try clear hb); (try clear hb2); (try clear hk); (try clear hi); (try clear ho0); (try clear ho1); obtain ⟨Ao62, co62, eo62⟩ := Kd.R_slice HO648.out; subst eo62; obtain ⟨Ao63, co63, eo63⟩ := Kd.R_slice HO653.out; subst eo63) | ((with_reducible refine gate_callee (f := 45) rfl ?_); refine goesL_ (some 61) rfl rfl Try.func45 (by kernel_rfl) rfl #[.agg #[.slice Ao62 t646.length co62, .int .i64 t649, .string t650, .slice Ao63 t651.length co63, .int .i64 t654], .int .i64 a1] rfl (by (try simp only [List.map_toArray, List.map_cons, List.map_nil]); first | done | rfl | (simp only [List.length_drop, List.length_take]; rfl)) ?_; (with_reducible refine (impl_FallStore.calls _ _ t646 t649 t650 _ _ t651 t654 a1 t655 _ ?side1 ?side2 ?side3 ?side4 A52.out).mono ?_); (case side1 => repeat (first | exact (Kd.R_reads' HO648.out).2.2 | (with_reducible refine Kd.C_alloc ?_ _) | (with_reducible refine Kd.C_drewN ?_ _) | (with_reducible refine Kd.C_drew ?_))); (case side2 => exact (Kd.R_reads' HO648.out).2.1); (case side3 => repeat (first | exact (Kd.R_reads' HO653.out).2.2 | (with_reducible refine Kd.C_alloc ?_ _) | (with_reducible refine Kd.C_drewN ?_ _) | (with_reducible refine Kd.C_drew ?_))); (case side4 => exact (Kd.R_reads' HO653.out).2.1); rintro e w64 ⟨v656, rfl, ho0, hb⟩; refine ⟨_, rfl, ?_⟩; have n0_ := Aside0.mk (Kd.R_elder' (by (with_reducible repeat (first | apply Kd.R_alloc | apply Kd.R_drewN | apply Kd.R_drew)); exact HO_6.out) (Kd.R_base ho0) hb); have n1_ := Aside0.mk (Kd.R_elder' (by (with_reducible repeat (first | apply Kd.R_alloc | apply Kd.R_drewN | apply Kd.R_drew)); exact HO_8.out) (Kd.R_base ho0) hb); have n2_ := Aside0.mk (Kd.R_below (by (with_reducible repeat (first | apply Kd.R_alloc | apply Kd.R_drewN | apply Kd.R_drew)); exact HO_625000.out) hb); have n3_ := Aside0.mk (Kd.R_elder' (by (with_reducible repeat (first | apply Kd.R_alloc | apply Kd.R_drewN | apply Kd.R_drew)); exact HO_625003.out) (Kd.R_base ho0) hb); have n4_ := Aside0.mk (Kd.R_below (by (with_reducible repeat (first | apply Kd.R_alloc | apply Kd.R_drewN | apply Kd.R_drew)); exact HO648.out) hb); have n5_ := Aside0.mk (Kd.R_elder' (by (with_reducible repeat (first | apply Kd.R_alloc | apply Kd.R_drewN | apply Kd.R_drew)); exact HO653.out) (Kd.R_base ho0) hb); have n6_ := Aside0.mk (Kd.R_lower (Kd.R_new' (Kd.R_new' (Kd.R_new' (Kd.R_new' ho0 (Kd.R_lt (by (with_reducible repeat (first | apply Kd.R_alloc | apply Kd.R_drewN | apply Kd.R_drew)); exact HO_6.out))) (Kd.R_lt (by (with_reducible repeat (first | apply Kd.R_alloc | apply Kd.R_drewN | apply Kd.R_drew)); exact HO_8.out))) (Kd.R_lt (by (with_reducible repeat (first | apply Kd.R_alloc | apply Kd.R_drewN | apply Kd.R_drew)); exact HO_625003.out))) (Kd.R_lt (by (with_reducible repeat (first | apply Kd.R_alloc | apply Kd.R_drewN | apply Kd.R_drew)); exact HO653.out))) (below_size (by repeat (first | (with_reducible first | exact HB.out | apply below_alloc | apply pw_below_drewN | apply below_drew1 | refine below_set ?_ GE601.out | refine below_set ?_ GE624.out) | exact HB.out)))); have n7_ := Aside0.mk (blk_below (g := gb601) (o := .cells #[.slice A0_0 l0_0.length c0_0, .int .i64 a0_1, .string a0_2, .slice A0_3 l0_3.length c0_3, .int .i64 a0_4] 62 (0, 0)) (by (with_reducible repeat (first | refine blk_drewN ?_ _ | refine blk_drew ?_ | refine blk_alloc ?_ _)); exact BK601.out) hb); have n8_ := Aside0.mk (blk_below (g := gb624) (o := .cells #[.slice Ao30 t640.length co30, .int .i64 t618, .string t619, .slice Ao33 t641.length co33, .int .i64 t623] 68 (0, 0)) (by (with_reducible repeat (first | refine blk_drewN ?_ _ | refine blk_drew ?_ | refine blk_alloc ?_ _)); exact BK624.out) hb); have n9_ := Aside0.mk (below_step (by repeat (first | (with_reducible first | exact HB.out | apply below_alloc | apply pw_below_drewN | apply below_drew1 | refine below_set ?_ GE601.out | refine below_set ?_ GE624.out) | exact HB.out)) hb); clear HO_6; clear HO_8; clear HO_625000; clear HO_625003; clear HO648; clear HO653; clear BK601; clear BK624; clear HB; have HO_6 := n0_; have HO_8 := n1_; have HO_625000 := n2_; have HO_625003 := n3_; have HO648 := n4_; have HO653 := n5_; have HO657 := n6_; have BK601 := n7_; have BK624 := n8_; have HB := n9_; clear n0_ n1_ n2_ n3_ n4_ n5_ n6_ n7_ n8_ n9_; (try clear hb); (try clear hb2); (try clear hk); (try clear hi); (try clear ho0); obtain ⟨Ao65, co65, eo65⟩ := Kd.R_slice HO657.out; subst eo65) | ((with_reducible refine gate_callee (f := 46) rfl ?_); refine goesL_ (some 64) rfl rfl Try.func46 (by kernel_rfl) rfl #[.slice Ao65 t655.length co65, .slice Ao36 t612.length co36] rfl (by (try simp only [List.map_toArray, List.map_cons, List.map_nil]); first | done | rfl | (simp only [List.length_drop, List.length_take]; rfl)) ?_; (with_reducible refine (laws_eqByteS.calls kj17 _ _ t655 _ _ t612 true _ ?side1 ?side2 ?side3 ?side4 A53.out).mono ?_); (case side1 => repeat (first | exact (Kd.R_reads' HO657.out).2.2 | (with_reducible refine Kd.C_alloc ?_ _) | (with_reducible refine Kd.C_drewN ?_ _) | (with_reducible refine Kd.C_drew ?_))); (case side2 => exact (Kd.R_reads' HO657.out).2.1); (case side3 => repeat (first | exact (Kd.R_reads' HO_6.out).2.2 | (with_reducible refine Kd.C_alloc ?_ _) | (with_reducible refine Kd.C_drewN ?_ _) | (with_reducible refine Kd.C_drew ?_))); (case side4 => exact (Kd.R_reads' HO_6.out).2.1); rintro e w' ⟨rfl, ⟨nd, rfl⟩⟩; refine ⟨_, rfl, ?_⟩) | ((with_reducible refine gate_callee (f := 50) rfl ?_); refine goesL_ (some 68) rfl rfl Try.func50 (by kernel_rfl) rfl #[.slice Ao35 t644.length co35, .int .i64 1] rfl (by (try simp only [List.map_toArray, List.map_cons, List.map_nil]); first | done | (rw [show t644.length = t625.length from (Kd.R_reads' HO_8.out).1.symm] <;> rfl) | rfl | (simp only [List.length_drop, List.length_take]; rfl)) ?_; (with_reducible refine (laws_heldByteS.calls kj17 _ _ t644 1 t659 _ ?side1 ?side2 A55.out).mono ?_); (case side1 => repeat (first | exact (Kd.R_reads' HO_8.out).2.2 | (with_reducible refine Kd.C_alloc ?_ _) | (with_reducible refine Kd.C_drewN ?_ _) | (with_reducible refine Kd.C_drew ?_))); (case side2 => rw [show t644.length = t625.length from (Kd.R_reads' HO_8.out).1.symm]; exact (Kd.R_reads' HO_8.out).2.1); rintro e w' ⟨rfl, ⟨nd, rfl⟩⟩; refine ⟨_, rfl, ?_⟩))
                        go_ret
                        exact ⟨by first | rfl | (simp [errW_none, errW_some] <;> rfl) | (simp [*, errW_none, errW_some] <;> rfl), by repeat (first | (with_reducible first | exact HB.out | apply below_alloc | apply pw_below_drewN | apply below_drew1 | refine below_set ?_ GE601.out | refine below_set ?_ GE624.out) | exact HB.out)⟩
                      · rw [if_neg c57] at H
                        exact absurd H (by simp)
                  · replace c54 := Bool.eq_false_iff.mpr c54
                    subst c54
                    have H1 : (none) = some r := by rw [if_neg (show ¬ (false = true) by decide)] at H; exact H
                    clear H
                    have H := H1
                    clear H1
                    exact absurd H (by simp)
                · rw [if_neg c50] at H
                  exact absurd H (by simp)
      · replace c16 := Bool.eq_false_iff.mpr c16
        subst c16
        have H1 : (none) = some r := by rw [if_neg (show ¬ (false = true) by decide)] at H; exact H
        clear H
        have H := H1
        clear H1
        exact absurd H (by simp)
    · replace c13 := Bool.eq_false_iff.mpr c13
      subst c13
      have H1 : (none) = some r := by rw [if_neg (show ¬ (false = true) by decide)] at H; exact H
      clear H
      have H := H1
      clear H1
      exact absurd H (by simp)

end Go.Proofs.Ytkdlcenchnimlaa.Q
end

section
/- The row of the law FnExactFallStore out of its pure statement and the printed walk. -/
namespace Go.Proofs.Ytkdlcenchnimlaa.Q
open Go.RowKit Go.Proofs.Ytkdlcenchnimlaa.XO Go.Proofs.YtkdlcenchnimlaaW.PrintWords Go.ChangeShapes Go.WideShapes Go.ChangeAt
set_option linter.unusedVariables false
set_option linter.unusedSimpArgs false
def laws_FnExactFallStore.Pure : Prop := ∀ (x0 : S62) (x1 : Int), G62 x0 → (Lit.int .i64 x1).wf = true → ∃ k, laws_FnExactFallStore.f k x0.f0.f0 x0.f0.f1.f0 x0.f0.f1.f1 x0.f1 x0.f2 x1 = some true
namespace RFnExactFallStore
theorem own : ownKnob Try.prog.godebug = none := by kernel_rfl
theorem laidOut : laidOutB Try.prog = true := by kernel_rfl
set_option maxRecDepth 100000 in
theorem lifted (PU : laws_FnExactFallStore.Pure) (os : Os) (started : os.Started) (H : Type) (enc : TypeId × Value → H) :
    ReturnsInHanded {} Try.checked os 11 .any (Rows.fnExactFallStoreSpec.pre6 enc Try.prog Try.f11 Rows.fnExactFallStoreRow.domain false) (Rows.fnExactFallStoreSpec.post enc Try.prog Try.f11 false true false false) := by
  refine returnsInHanded_of_change_sized (C := Try.checked) own started (by kernel_rfl) Try.func11
    (ChangeSpec.witness6 (enc := enc) (C := Try.checked) false ⟨#[], #[.agg #[.slice none 0 0, .int .i64 0, .string ByteArray.empty, .slice none 0 0, .int .i64 0], .int .i64 0], []⟩ 8 (by kernel_rfl) (by kernel_rfl) (by kernel_rfl) (by kernel_rfl)) ?_
  intro W base args ds gs before hval0 hW hcnd hsz0 _
  have hval : ∀ (j : Nat) t v, Try.f11.params[j]? = some t → args[j]? = some v → Value.okWide Try.prog W .any base t v := hval0
  have hW' := hW
  obtain ⟨p, q, hA0, hV, rfl, hfz, hnd⟩ := hW
  have hA : DataW.TrodAll enc Try.prog W 0 (fun _ => true) true Try.f11.params.toList args.toList ds p := hA0
  rw [Try.params11] at hA hval
  obtain ⟨v0, vs0, d0, ds0, p0, q0, hargs, rfl, rfl, h0, r0⟩ := trodAll_cons hA
  obtain ⟨v1, vs1, d1, ds1, p1, q1, rfl, rfl, rfl, h1, r1⟩ := trodAll_cons r0
  obtain ⟨rfl, rfl, rfl⟩ := trodAll_nil r1
  obtain rfl : args = #[v0, v1] := by cases args; simp_all
  obtain ⟨rfl, rfl⟩ := trodVars_none hV
  have kk0 := h0
  have lt0 : ∀ x ∈ p0, x.block < W.heap.size := by obtain ⟨m, hm⟩ := kk0; exact DataW.trod_lt m _ _ _ hm
  obtain ⟨cs0, rfl, _⟩ := okWide_struct Try.underlying62 (hval 0 62 v0 rfl rfl)
  obtain ⟨fu0, hf0⟩ := h0
  obtain ⟨x0, hK0, g0⟩ := opens62 hf0
  obtain ⟨A0_0, c0_0, A0_3, c0_3, he0, hc0_0, hr0_0, hc0_3, hr0_3⟩ := k62_open hK0
  obtain rfl : cs0 = #[.slice A0_0 x0.f0.f0.length c0_0, .int .i64 x0.f0.f1.f0, .string x0.f0.f1.f1, .slice A0_3 x0.f1.length c0_3, .int .i64 x0.f2] := by cases cs0; simpa [Value.cells] using he0
  have kk1 := h1
  have lt1 : ∀ x ∈ p1, x.block < W.heap.size := by obtain ⟨m, hm⟩ := kk1; exact DataW.trod_lt m _ _ _ hm
  obtain ⟨x1, rfl, rfl, rfl, g1⟩ := open_int Try.underlying3 (hval 1 3 v1 rfl rfl) h1
  clear hA0 hval0 hsz0
  obtain ⟨k, hp⟩ := PU x0 x1 g0 g1
  refine (laws_FnExactFallStore.calls k _ _ x0.f0.f0 x0.f0.f1.f0 x0.f0.f1.f1 _ _ x0.f1 x0.f2 x1 true W hr0_0 hc0_0 hr0_3 hc0_3 hp).mono fun e W' ⟨he, bel0⟩ => ?_
  have bel : Below W.heap.size W W' := bel0
  subst he
  exact ⟨_, rfl, _, _, _, [], _, [], hW', trodAll_mk1 (shut_bool Try.underlying4 _), (trodAll_cons_mk (Below.trod laidOut (by kernel_rfl) (of_decide_eq_true (by kernel_rfl)) kk0 bel lt0) (trodAll_cons_mk (Below.trod laidOut (by kernel_rfl) (of_decide_eq_true (by kernel_rfl)) kk1 bel lt1) trodAll_mk0)), rfl, bel.frame _, fun h => by cases h⟩
theorem over (PU : laws_FnExactFallStore.Pure) : Rows.fnExactFallStoreRow.holds Try.pinned (OpenSpec.ofChange Rows.fnExactFallStoreSpec) :=
  OpenClaim.holds_of_wide 11 Try.f11 rfl rfl rfl rfl rfl rfl rfl ⟨rfl, rfl, rfl, rfl, rfl⟩ rfl rfl rfl rfl rfl (by kernel_rfl) Try.func11 (by kernel_rfl)
    (of_decide_eq_true (by kernel_rfl)) (by unfold Func.isWrapper; first | (rw [if_pos (by decide +kernel)]; kernel_rfl) | (rw [if_neg (by decide +kernel)]; exact ⟨rfl, rfl⟩))
    (fun os started H enc _ => lifted PU os started H enc)
end RFnExactFallStore
theorem FnExactFallStore_row (PU : laws_FnExactFallStore.Pure) : Rows.FnExactFallStoreSaid := RFnExactFallStore.over PU
end Go.Proofs.Ytkdlcenchnimlaa.Q
end

section
/- The program's FallStore and the reference's return the same for every store and number; no condition. -/
namespace Go.Proofs.Ytkdlcenchnimlaa.Q
open Go.RowKit Go.Proofs.Ytkdlcenchnimlaa.B Go.Proofs.YtkdlcenchnimlaaW.PrintWords Go.Proofs.YtkdlcenchnimlaaW.PrintMore
set_option linter.unusedVariables false
set_option linter.unusedSimpArgs false

theorem mx_eq (a b : Int) : mx a b = max a b := by
  unfold mx
  by_cases h : a < b
  · rw [if_pos h]
    omega
  · rw [if_neg h]
    omega
theorem mn_eq (a b : Int) : mn a b = min a b := by
  unfold mn
  by_cases h : b < a
  · rw [if_pos h]
    omega
  · rw [if_neg h]
    omega
/-- What is left of bytes behind a fall. -/
def fallAt (n s keep : Int) : Int := s + min (max keep 0) (n - s)
def fallOf (b : List Int) (sure keep : Int) : List Int := b.take (fallAt b.length (max 0 (min sure b.length)) keep).toNat
theorem fall_j1 (l : List ByteArray) (n : Int) (r : ByteArray) (b : List Int) (u keep s : Int) (hb : b.length ≤ 1048576) (h0 : 0 ≤ s) (h1 : s ≤ b.length) : Ev (fun k => spec_FallStore.j1 k keep s l n r b u) (b.take (fallAt b.length s keep).toNat) := by
  refine Ev.step (fun k => by simp only [spec_FallStore.j1]; rfl) ?_
  rw [w64 (x := (b.length : Int) - s) (by omega) (by omega), w64 (x := s + ((b.length : Int) - s)) (by omega) (by omega)]
  by_cases hk : keep > 0
  · refine Ev.pos hk ?_
    by_cases hk2 : keep > (b.length : Int) - s
    · refine Ev.pos hk2 (Ev.bind (Ev.now _) (Ev.pos (by omega) (Ev.pos (by omega) (Ev.pos (by simp; omega) (Ev.one (Ev.now _) ?_)))))
      rw [List.nil_append]
      congr 1
      unfold fallAt
      omega
    · rw [w64 (x := s + keep) (by omega) (by omega)]
      refine Ev.neg hk2 (Ev.bind (Ev.now _) (Ev.pos (by omega) (Ev.pos (by omega) (Ev.pos (by simp; omega) (Ev.one (Ev.now _) ?_)))))
      rw [List.nil_append]
      congr 1
      unfold fallAt
      omega
  · refine Ev.neg hk (Ev.bind (Ev.now _) (Ev.pos (by omega) (Ev.pos (by omega) (Ev.pos (by simp; omega) (Ev.one (Ev.now _) ?_)))))
    rw [List.nil_append]
    congr 1
    unfold fallAt
    omega
theorem fall_j0 (l : List ByteArray) (n : Int) (r : ByteArray) (b : List Int) (u keep s : Int) (hb : b.length ≤ 1048576) (h0 : 0 ≤ s) : Ev (fun k => spec_FallStore.j0 k keep s l n r b u) (b.take (fallAt b.length (min s b.length) keep).toNat) := by
  refine Ev.step (fun k => by simp only [spec_FallStore.j0]; rfl) ?_
  by_cases h : s > (b.length : Int)
  · refine Ev.pos h (Ev.one (fall_j1 l n r b u keep b.length hb (by omega) (by omega)) ?_)
    rw [show min s (b.length : Int) = b.length by omega]
  · refine Ev.neg h (Ev.one (fall_j1 l n r b u keep s hb (by omega) (by omega)) ?_)
    rw [show min s (b.length : Int) = s by omega]
theorem spec_FallStore_ev (l : List ByteArray) (n : Int) (r : ByteArray) (b : List Int) (u keep : Int) (hb : b.length ≤ 1048576) : Ev (fun k => spec_FallStore.f k l n r b u keep) (fallOf b u keep) := by
  unfold spec_FallStore.f fallOf
  by_cases h : u < 0
  · refine Ev.pos h (Ev.one (fall_j0 l n r b u keep 0 hb (by omega)) ?_)
    congr 3
    omega
  · refine Ev.neg h (Ev.one (fall_j0 l n r b u keep u hb (by omega)) ?_)
    congr 3
    omega
theorem impl_FallStore_eq (l : List ByteArray) (n : Int) (r : ByteArray) (b : List Int) (u keep : Int) (hb : b.length ≤ 1048576) : impl_FallStore.f l n r b u keep = some (fallOf b u keep) := by
  unfold impl_FallStore.f fallOf fallAt
  simp only [mx_eq, mn_eq]
  rw [w64 (x := (b.length : Int) - max 0 (min u (b.length : Int))) (by omega) (by omega), w64 (x := max 0 (min u (b.length : Int)) + min (max keep 0) ((b.length : Int) - max 0 (min u (b.length : Int)))) (by omega) (by omega)]
  rw [if_pos (by omega), if_pos (by omega)]
  unfold slices_Clone_byte_byte.f
  rw [if_pos (by simp; omega)]
  rfl
theorem fallOf_length (b : List Int) (u keep : Int) : (fallOf b u keep).length ≤ b.length := by
  unfold fallOf
  simp
  omega

theorem pure_FnExactFallStore : laws_FnExactFallStore.Pure := by
  intro x keep g gk
  refine Ev.rounds (g := fun k => laws_FnExactFallStore.f k x.f0.f0 x.f0.f1.f0 x.f0.f1.f1 x.f1 x.f2 keep) ?_
  obtain ⟨⟨⟨g1, g2⟩, g3, g4⟩, ⟨g5, g6⟩, g7⟩ := g
  generalize x.f0.f0 = l at *
  generalize x.f0.f1.f0 = n at *
  generalize x.f0.f1.f1 = s at *
  generalize x.f1 = b at *
  generalize x.f2 = u at *
  unfold laws_FnExactFallStore.f
  obtain ⟨r, hr, hc⟩ := szStore_ev l n s b u 1048576 (by omega) (by omega) g1 g2 g4 g5
  refine Ev.bind hr ?_
  rcases hc with hc | ⟨hc, hc1⟩
  · exact Ev.pos hc (Ev.now _)
  · have ht := total_nonneg l
    have hT := toStore_ev l n s b u (by omega) (by omega)
    have hS := spec_FallStore_ev l n s b u keep (by omega)
    have hI := impl_FallStore_eq l n s b u keep (by omega)
    have hlen := fallOf_length b u keep
    have hE := eqByteS_ev (fallOf b u keep) (by omega)
    obtain ⟨M, hM, hM1, hM2⟩ := markStore_ev l n s b u 1 (by omega) (by omega)
    have hm := markByteS_ev (fallOf b u keep) 1 (by omega) (by omega)
    have hh := heldByteS_ev (fallOf b u keep).length 1 (by omega) (by omega)
    refine Ev.neg (by omega) (Ev.bind hT (Ev.bind hS (Ev.bind hT (Ev.bind (Ev.const hI) (Ev.bind hE (Ev.pos rfl (Ev.bind hT (Ev.bind (eqStore_ev l n s b u (by omega) (by omega)) (Ev.pos rfl (Ev.bind hM (Ev.neg (by omega) (Ev.bind hE ?_))))))))))))
    refine Ev.step (fun k => by simp only [laws_FnExactFallStore.j0]; rfl) ?_
    refine Ev.neg (by simp) (Ev.bind hm (Ev.bind hh (Ev.neg (by omega) (Ev.pos rfl (Ev.bind hT (Ev.bind (Ev.const hI) (Ev.bind hE (Ev.pos rfl (Ev.bind hh (Ev.neg (by omega) (Ev.pos rfl (Ev.now _))))))))))))
end Go.Proofs.Ytkdlcenchnimlaa.Q
namespace Go.Proofs.Ytkdlcenchnimlaa
theorem fnExactFallStore_holds : Rows.FnExactFallStoreSaid := Q.FnExactFallStore_row Q.pure_FnExactFallStore
end Go.Proofs.Ytkdlcenchnimlaa
end
