-- Joined by a program of this session (wip/tools/merge.py): texts of mine and of pp.sh.
import Derived.Test.YtoipfpjcpngpfaaJFnExactEdgeAdd2
import Derived.Test.YtoipfpjcpngpfaaJB3
section
-- Written by a program of this session (wip/tools/pp.sh) over the print of the kit.
namespace Go.Proofs.Ytoipfpjcpngpfaa.Q
open Go.RowKit Go.Proofs.YtoipfpjcpngpfaaW.PrintWords Go.Proofs.YtoipfpjcpngpfaaW.PrintLast Go.Proofs.YtoipfpjcpngpfaaW.PrintMore
attribute [local go_sem] max2_int min2_int max_two min_two max_three min_three max_four min_four   -- for this text's walks alone
set_option linter.unusedVariables false
set_option linter.unusedSimpArgs false

/-! ### laws_FnExactEdgeAdd: function 7 -/
mutual
def laws_FnExactEdgeAdd.j0 : Nat → ByteArray → Bool → Bool → Bool → Int → List ByteArray → Int → List ByteArray → Int → List ByteArray → Int → List ByteArray → Option (Bool)
  | 0, _, _, _, _, _, _, _, _, _, _, _, _ => none
  | k + 1, x1, x7, x10, x47, x602000, x602001, x613000, x613001, x618000, x618001, x624000, x624001 => if x47 = true then (none) else ((laws_toEdge.f k x602000 x602001).bind fun bt625 => ((laws_eqEdge.f k x618000 x618001 bt625.1 bt625.2).bind fun t629 => (if t629 = true then ((laws_markEdge.f k x618000 x618001 1).bind fun bt630 => (if bt630.1 < 0 then (laws_FnExactEdgeAdd.j1 k x1 x7 true x602000 x602001 x613000 x613001 x624000 x624001) else ((laws_eqEdge.f k x624000 x624001 x613000 x613001).bind fun t632 => (if t632 = true then (laws_FnExactEdgeAdd.j1 k x1 x7 (x10 != x7) x602000 x602001 x613000 x613001 x624000 x624001) else (laws_FnExactEdgeAdd.j1 k x1 x7 true x602000 x602001 x613000 x613001 x624000 x624001))))) else (none))))
def laws_FnExactEdgeAdd.j1 : Nat → ByteArray → Bool → Bool → Int → List ByteArray → Int → List ByteArray → Int → List ByteArray → Option (Bool)
  | 0, _, _, _, _, _, _, _, _, _ => none
  | k + 1, x1, x7, x68, x602000, x602001, x613000, x613001, x624000, x624001 => if x68 = true then (none) else ((laws_markEdge.f k x624000 x624001 1).bind fun bt633 => ((laws_heldEdge.f k x624000 bt633.2 1).bind fun t635 => (if t635 < 0 then (none) else (if t635 = bt633.1 then ((laws_toEdge.f k x602000 x602001).bind fun bt636 => ((impl_EdgeAdd.f bt636.1 bt636.2 x1).bind fun bt640 => ((laws_eqEdge.f k bt640.1 bt640.2.1 x613000 x613001).bind fun t646 => (if t646 = true then (laws_FnExactEdgeAdd.j2 k bt633.1 (bt640.2.2 != x7) x624000 bt633.2) else (laws_FnExactEdgeAdd.j2 k bt633.1 true x624000 bt633.2))))) else (none)))))
def laws_FnExactEdgeAdd.j2 : Nat → Int → Bool → Int → List ByteArray → Option (Bool)
  | 0, _, _, _, _ => none
  | k + 1, x12, x95, x624000, x624001 => if x95 = true then (none) else ((laws_heldEdge.f k x624000 x624001 1).bind fun t647 => (if t647 < 0 then (none) else (if t647 = x12 then (some true) else (none))))
end
def laws_FnExactEdgeAdd.f (k : Nat) (a0_0 : Int) (l0_1 : List ByteArray) (a1 : ByteArray) : Option (Bool) := if (a1.size : Int) > 1048576 then (some true) else ((laws_szEdge.f k a0_0 l0_1 1048576).bind fun t602 => (if t602 < 0 then (some true) else ((laws_toEdge.f k a0_0 l0_1).bind fun bt603 => ((spec_EdgeAdd.f k bt603.1 bt603.2 a1).bind fun bt607 => ((laws_toEdge.f k a0_0 l0_1).bind fun bt613 => ((impl_EdgeAdd.f bt613.1 bt613.2 a1).bind fun bt618 => ((laws_eqEdge.f k bt618.1 bt618.2.1 bt607.1 bt607.2.1).bind fun t624 => (if t624 = true then (laws_FnExactEdgeAdd.j0 k a1 bt607.2.2 bt618.2.2 (bt618.2.2 != bt607.2.2) a0_0 l0_1 bt607.1 bt607.2.1 bt613.1 bt613.2 bt618.1 bt618.2.1) else (laws_FnExactEdgeAdd.j0 k a1 bt607.2.2 bt618.2.2 true a0_0 l0_1 bt607.1 bt607.2.1 bt613.1 bt613.2 bt618.1 bt618.2.1)))))))))
theorem laws_FnExactEdgeAdd.mono_l : ∀ k, (∀ y0 y1 y2 y3 y4 y5 y6 y7 y8 y9 y10 y11, LeO (laws_FnExactEdgeAdd.j0 k y0 y1 y2 y3 y4 y5 y6 y7 y8 y9 y10 y11) (laws_FnExactEdgeAdd.j0 (k + 1) y0 y1 y2 y3 y4 y5 y6 y7 y8 y9 y10 y11)) ∧ (∀ y0 y1 y2 y3 y4 y5 y6 y7 y8, LeO (laws_FnExactEdgeAdd.j1 k y0 y1 y2 y3 y4 y5 y6 y7 y8) (laws_FnExactEdgeAdd.j1 (k + 1) y0 y1 y2 y3 y4 y5 y6 y7 y8)) ∧ (∀ y0 y1 y2 y3, LeO (laws_FnExactEdgeAdd.j2 k y0 y1 y2 y3) (laws_FnExactEdgeAdd.j2 (k + 1) y0 y1 y2 y3))
  | 0 => ⟨fun _ _ _ _ _ _ _ _ _ _ _ _ r h => by simp [laws_FnExactEdgeAdd.j0] at h, fun _ _ _ _ _ _ _ _ _ r h => by simp [laws_FnExactEdgeAdd.j1] at h, fun _ _ _ _ r h => by simp [laws_FnExactEdgeAdd.j2] at h⟩
  | k + 1 => by
    obtain ⟨ih0, ih1, ih2⟩ := laws_FnExactEdgeAdd.mono_l k
    refine ⟨?_, ?_, ?_⟩
    · intro y0 y1 y2 y3 y4 y5 y6 y7 y8 y9 y10 y11
      unfold laws_FnExactEdgeAdd.j0
      repeat' first
      | (with_reducible exact ih0 _ _ _ _ _ _ _ _ _ _ _ _)
      | (with_reducible exact ih1 _ _ _ _ _ _ _ _ _)
      | (with_reducible exact ih2 _ _ _ _)
      | (with_reducible exact laws_eqEdge.mono _ _ _ _ _)
      | (with_reducible exact laws_heldEdge.mono _ _ _ _)
      | (with_reducible exact laws_markEdge.mono _ _ _ _)
      | (with_reducible exact laws_szEdge.mono _ _ _ _)
      | (with_reducible exact laws_toEdge.mono _ _ _)
      | (with_reducible exact spec_EdgeAdd.mono _ _ _ _)
      | (with_reducible exact LeO.refl _)
      | (with_reducible exact LeO.none _)
      | (with_reducible refine LeO.ite ?_ ?_)
      | (with_reducible refine LeO.bind ?_ (fun _ => ?_))
      | exact ih0 _ _ _ _ _ _ _ _ _ _ _ _
      | exact ih1 _ _ _ _ _ _ _ _ _
      | exact ih2 _ _ _ _
      | exact laws_eqEdge.mono _ _ _ _ _
      | exact laws_heldEdge.mono _ _ _ _
      | exact laws_markEdge.mono _ _ _ _
      | exact laws_szEdge.mono _ _ _ _
      | exact laws_toEdge.mono _ _ _
      | exact spec_EdgeAdd.mono _ _ _ _
      | exact LeO.none _
      | refine LeO.ite ?_ ?_
      | refine LeO.bind ?_ (fun _ => ?_)
    · intro y0 y1 y2 y3 y4 y5 y6 y7 y8
      unfold laws_FnExactEdgeAdd.j1
      repeat' first
      | (with_reducible exact ih0 _ _ _ _ _ _ _ _ _ _ _ _)
      | (with_reducible exact ih1 _ _ _ _ _ _ _ _ _)
      | (with_reducible exact ih2 _ _ _ _)
      | (with_reducible exact laws_eqEdge.mono _ _ _ _ _)
      | (with_reducible exact laws_heldEdge.mono _ _ _ _)
      | (with_reducible exact laws_markEdge.mono _ _ _ _)
      | (with_reducible exact laws_szEdge.mono _ _ _ _)
      | (with_reducible exact laws_toEdge.mono _ _ _)
      | (with_reducible exact spec_EdgeAdd.mono _ _ _ _)
      | (with_reducible exact LeO.refl _)
      | (with_reducible exact LeO.none _)
      | (with_reducible refine LeO.ite ?_ ?_)
      | (with_reducible refine LeO.bind ?_ (fun _ => ?_))
      | exact ih0 _ _ _ _ _ _ _ _ _ _ _ _
      | exact ih1 _ _ _ _ _ _ _ _ _
      | exact ih2 _ _ _ _
      | exact laws_eqEdge.mono _ _ _ _ _
      | exact laws_heldEdge.mono _ _ _ _
      | exact laws_markEdge.mono _ _ _ _
      | exact laws_szEdge.mono _ _ _ _
      | exact laws_toEdge.mono _ _ _
      | exact spec_EdgeAdd.mono _ _ _ _
      | exact LeO.none _
      | refine LeO.ite ?_ ?_
      | refine LeO.bind ?_ (fun _ => ?_)
    · intro y0 y1 y2 y3
      unfold laws_FnExactEdgeAdd.j2
      repeat' first
      | (with_reducible exact ih0 _ _ _ _ _ _ _ _ _ _ _ _)
      | (with_reducible exact ih1 _ _ _ _ _ _ _ _ _)
      | (with_reducible exact ih2 _ _ _ _)
      | (with_reducible exact laws_eqEdge.mono _ _ _ _ _)
      | (with_reducible exact laws_heldEdge.mono _ _ _ _)
      | (with_reducible exact laws_markEdge.mono _ _ _ _)
      | (with_reducible exact laws_szEdge.mono _ _ _ _)
      | (with_reducible exact laws_toEdge.mono _ _ _)
      | (with_reducible exact spec_EdgeAdd.mono _ _ _ _)
      | (with_reducible exact LeO.refl _)
      | (with_reducible exact LeO.none _)
      | (with_reducible refine LeO.ite ?_ ?_)
      | (with_reducible refine LeO.bind ?_ (fun _ => ?_))
      | exact ih0 _ _ _ _ _ _ _ _ _ _ _ _
      | exact ih1 _ _ _ _ _ _ _ _ _
      | exact ih2 _ _ _ _
      | exact laws_eqEdge.mono _ _ _ _ _
      | exact laws_heldEdge.mono _ _ _ _
      | exact laws_markEdge.mono _ _ _ _
      | exact laws_szEdge.mono _ _ _ _
      | exact laws_toEdge.mono _ _ _
      | exact spec_EdgeAdd.mono _ _ _ _
      | exact LeO.none _
      | refine LeO.ite ?_ ?_
      | refine LeO.bind ?_ (fun _ => ?_)
theorem laws_FnExactEdgeAdd.mono : ∀ a0 a1 a2 k, LeO (laws_FnExactEdgeAdd.f k a0 a1 a2) (laws_FnExactEdgeAdd.f (k + 1) a0 a1 a2) := by
  intro a0 a1 a2 k
  obtain ⟨ih0, ih1, ih2⟩ := laws_FnExactEdgeAdd.mono_l k
  unfold laws_FnExactEdgeAdd.f
  repeat' first
      | (with_reducible exact ih0 _ _ _ _ _ _ _ _ _ _ _ _)
      | (with_reducible exact ih1 _ _ _ _ _ _ _ _ _)
      | (with_reducible exact ih2 _ _ _ _)
      | (with_reducible exact laws_eqEdge.mono _ _ _ _ _)
      | (with_reducible exact laws_heldEdge.mono _ _ _ _)
      | (with_reducible exact laws_markEdge.mono _ _ _ _)
      | (with_reducible exact laws_szEdge.mono _ _ _ _)
      | (with_reducible exact laws_toEdge.mono _ _ _)
      | (with_reducible exact spec_EdgeAdd.mono _ _ _ _)
      | (with_reducible exact LeO.refl _)
      | (with_reducible exact LeO.none _)
      | (with_reducible refine LeO.ite ?_ ?_)
      | (with_reducible refine LeO.bind ?_ (fun _ => ?_))
      | exact ih0 _ _ _ _ _ _ _ _ _ _ _ _
      | exact ih1 _ _ _ _ _ _ _ _ _
      | exact ih2 _ _ _ _
      | exact laws_eqEdge.mono _ _ _ _ _
      | exact laws_heldEdge.mono _ _ _ _
      | exact laws_markEdge.mono _ _ _ _
      | exact laws_szEdge.mono _ _ _ _
      | exact laws_toEdge.mono _ _ _
      | exact spec_EdgeAdd.mono _ _ _ _
      | exact LeO.none _
      | refine LeO.ite ?_ ?_
      | refine LeO.bind ?_ (fun _ => ?_)
set_option maxHeartbeats 8000000 in
set_option maxRecDepth 100000 in
theorem laws_FnExactEdgeAdd.calls (k : Nat) (a0_0 : Int) (A0_1 : Option Addr) (c0_1 : Nat) (l0_1 : List ByteArray) (a1 : ByteArray) (r : Bool) (w : World) (hr0_1 : Kd.C Kd.string w A0_1 l0_1.length l0_1) (hc0_1 : l0_1.length ≤ c0_1) (h : laws_FnExactEdgeAdd.f k a0_0 l0_1 a1 = some r) :
    Calls Try.prog 7 #[.agg #[.int .i64 a0_0, .slice A0_1 l0_1.length c0_1], .string a1] w fun e w' => e = .returned (.bool r) ∧ Below w.heap.size w w' := by
  have hu59 := Try.underlying59
  have hu61 := Try.underlying61
  have HR0_1 := Aside0.mk hr0_1
  have HC0_1 := Aside0.mk hc0_1
  clear hr0_1 hc0_1
  have HB := Aside0.mk (Below.refl w.heap.size w)
  have H : (if (a1.size : Int) > 1048576 then (some true) else ((laws_szEdge.f k a0_0 l0_1 1048576).bind fun t602 => (if t602 < 0 then (some true) else ((laws_toEdge.f k a0_0 l0_1).bind fun bt603 => ((spec_EdgeAdd.f k bt603.1 bt603.2 a1).bind fun bt607 => ((laws_toEdge.f k a0_0 l0_1).bind fun bt613 => ((impl_EdgeAdd.f bt613.1 bt613.2 a1).bind fun bt618 => ((laws_eqEdge.f k bt618.1 bt618.2.1 bt607.1 bt607.2.1).bind fun t624 => (if t624 = true then (laws_FnExactEdgeAdd.j0 k a1 bt607.2.2 bt618.2.2 (bt618.2.2 != bt607.2.2) a0_0 l0_1 bt607.1 bt607.2.1 bt613.1 bt613.2 bt618.1 bt618.2.1) else (laws_FnExactEdgeAdd.j0 k a1 bt607.2.2 bt618.2.2 true a0_0 l0_1 bt607.1 bt607.2.1 bt613.1 bt613.2 bt618.1 bt618.2.1)))))))))) = some r := h
  clear h
  by_cases c3 : (a1.size : Int) > 1048576
  · rw [if_pos c3] at H
    have c3b0 : decide (1048576 < (a1.size : Int)) = true := decide_eq_true c3
    have c3b1 : decide (1048576 < a1.size) = true := decide_eq_true (by omega)
    clear c3
    obtain rfl := Option.some.inj H
    go_enter Try.func7, Try.ntmps7
    go_wp2_with (first | ((with_reducible refine gate_dst (N := 2) rfl ?_); refine box_event ?hg (N := 2) ?hd (cs := #[.int .i64 a0_0, .slice A0_1 l0_1.length c0_1]) (t := 59) ?hr ?_; (case hd => rfl); (case hg => rfl); (case hr => first | (go_simp; done) | (go_simp; rfl)); intro gb601 hg w4 hbox hb; have n0_ := Aside0.mk (below_step (by repeat (first | (with_reducible first | exact HB.out | apply below_alloc | apply pw_below_drewN | apply below_drew1) | exact HB.out)) hb); have n1_ := Aside0.mk (hbox); have n2_ := Aside0.mk ((by rw [hg]; exact (below_size (by repeat (first | (with_reducible first | exact HB.out | apply below_alloc | apply pw_below_drewN | apply below_drew1) | exact HB.out))) : w.heap.size ≤ gb601)); have n3_ := Aside0.mk ((by rw [hg]; exact (below_size (by repeat (first | (with_reducible first | exact HB.out | apply below_alloc | apply pw_below_drewN | apply below_drew1) | exact HB.out))) : w.heap.size ≤ gb601)); clear HB; have HB := n0_; have BK601 := n1_; have GW601 := n2_; have GE601 := n3_; clear n0_ n1_ n2_ n3_; clear hb hbox hg))
    go_ret
    exact ⟨by first | rfl | (simp [errW_none, errW_some] <;> rfl) | (simp [*, errW_none, errW_some] <;> rfl), by repeat (first | (with_reducible first | exact HB.out | apply below_alloc | apply pw_below_drewN | apply below_drew1 | refine below_set ?_ GE601.out) | exact HB.out)⟩
  · rw [if_neg c3] at H
    have c3b0 : decide (1048576 < (a1.size : Int)) = false := decide_eq_false c3
    have c3b1 : decide (1048576 < a1.size) = false := decide_eq_false (by omega)
    clear c3
    replace H := Option.bind_eq_some_iff.mp H
    obtain ⟨t602, A50, H⟩ := H
    replace H : (if t602 < 0 then (some true) else ((laws_toEdge.f k a0_0 l0_1).bind fun bt603 => ((spec_EdgeAdd.f k bt603.1 bt603.2 a1).bind fun bt607 => ((laws_toEdge.f k a0_0 l0_1).bind fun bt613 => ((impl_EdgeAdd.f bt613.1 bt613.2 a1).bind fun bt618 => ((laws_eqEdge.f k bt618.1 bt618.2.1 bt607.1 bt607.2.1).bind fun t624 => (if t624 = true then (laws_FnExactEdgeAdd.j0 k a1 bt607.2.2 bt618.2.2 (bt618.2.2 != bt607.2.2) a0_0 l0_1 bt607.1 bt607.2.1 bt613.1 bt613.2 bt618.1 bt618.2.1) else (laws_FnExactEdgeAdd.j0 k a1 bt607.2.2 bt618.2.2 true a0_0 l0_1 bt607.1 bt607.2.1 bt613.1 bt613.2 bt618.1 bt618.2.1)))))))) = some r := H
    have A5 := Aside0.mk A50
    clear A50
    by_cases c6 : t602 < 0
    · rw [if_pos c6] at H
      have c6b0 : decide (t602 < 0) = true := decide_eq_true c6
      clear c6
      obtain rfl := Option.some.inj H
      go_enter Try.func7, Try.ntmps7
      go_wp2_with (first | ((with_reducible refine gate_dst (N := 2) rfl ?_); refine box_event ?hg (N := 2) ?hd (cs := #[.int .i64 a0_0, .slice A0_1 l0_1.length c0_1]) (t := 59) ?hr ?_; (case hd => rfl); (case hg => rfl); (case hr => first | (go_simp; done) | (go_simp; rfl)); intro gb601 hg w7 hbox hb; have n0_ := Aside0.mk (below_step (by repeat (first | (with_reducible first | exact HB.out | apply below_alloc | apply pw_below_drewN | apply below_drew1) | exact HB.out)) hb); have n1_ := Aside0.mk (hbox); have n2_ := Aside0.mk ((by rw [hg]; exact (below_size (by repeat (first | (with_reducible first | exact HB.out | apply below_alloc | apply pw_below_drewN | apply below_drew1) | exact HB.out))) : w.heap.size ≤ gb601)); have n3_ := Aside0.mk ((by rw [hg]; exact (below_size (by repeat (first | (with_reducible first | exact HB.out | apply below_alloc | apply pw_below_drewN | apply below_drew1) | exact HB.out))) : w.heap.size ≤ gb601)); clear HB; have HB := n0_; have BK601 := n1_; have GW601 := n2_; have GE601 := n3_; clear n0_ n1_ n2_ n3_; clear hb hbox hg; have hcz8_0 : w7.cell? ⟨gb601, 0, none⟩ = some (.int .i64 a0_0) := (blk_cell BK601.out 0).trans rfl; have hcz8_1 : w7.cell? ⟨gb601, 1, none⟩ = some (.slice A0_1 l0_1.length c0_1) := (blk_cell BK601.out 1).trans rfl; have hfz8_0 := blk_frozen BK601.out 0; have hfz8_1 := blk_frozen BK601.out 1) | ((with_reducible refine gate_callee (f := 44) rfl ?_); refine goesL_ (some 21) rfl rfl Try.func44 (by kernel_rfl) rfl #[.agg #[.int .i64 a0_0, .slice A0_1 l0_1.length c0_1], .int .i64 1048576] rfl (by (try simp only [List.map_toArray, List.map_cons, List.map_nil]); first | done | rfl | (simp only [List.length_drop, List.length_take]; rfl)) ?_; (with_reducible refine (laws_szEdge.calls k a0_0 _ _ l0_1 1048576 t602 _ ?side1 ?side2 A5.out).mono ?_); (case side1 => repeat (first | exact (Kd.C_below HR0_1.out HB.out) | (with_reducible refine Kd.C_alloc ?_ _) | (with_reducible refine Kd.C_drewN ?_ _) | (with_reducible refine Kd.C_drew ?_))); (case side2 => exact HC0_1.out); rintro e w9 ⟨rfl, hb⟩; refine ⟨_, rfl, ?_⟩; have n0_ := Aside0.mk (blk_below (g := gb601) (o := .cells #[.int .i64 a0_0, .slice A0_1 l0_1.length c0_1] 59 (0, 0)) (by (with_reducible repeat (first | refine blk_drewN ?_ _ | refine blk_drew ?_ | refine blk_alloc ?_ _)); exact BK601.out) hb); have n1_ := Aside0.mk (below_step (by repeat (first | (with_reducible first | exact HB.out | apply below_alloc | apply pw_below_drewN | apply below_drew1 | refine below_set ?_ GE601.out) | exact HB.out)) hb); clear BK601; clear HB; have BK601 := n0_; have HB := n1_; clear n0_ n1_; (try clear hb); (try clear hb2); (try clear hk); (try clear hi)))
      go_ret
      exact ⟨by first | rfl | (simp [errW_none, errW_some] <;> rfl) | (simp [*, errW_none, errW_some] <;> rfl), by repeat (first | (with_reducible first | exact HB.out | apply below_alloc | apply pw_below_drewN | apply below_drew1 | refine below_set ?_ GE601.out) | exact HB.out)⟩
    · rw [if_neg c6] at H
      have c6b0 : decide (t602 < 0) = false := decide_eq_false c6
      clear c6
      replace H := Option.bind_eq_some_iff.mp H
      obtain ⟨⟨t603, t604⟩, A100, H⟩ := H
      replace H : ((spec_EdgeAdd.f k t603 t604 a1).bind fun bt607 => ((laws_toEdge.f k a0_0 l0_1).bind fun bt613 => ((impl_EdgeAdd.f bt613.1 bt613.2 a1).bind fun bt618 => ((laws_eqEdge.f k bt618.1 bt618.2.1 bt607.1 bt607.2.1).bind fun t624 => (if t624 = true then (laws_FnExactEdgeAdd.j0 k a1 bt607.2.2 bt618.2.2 (bt618.2.2 != bt607.2.2) a0_0 l0_1 bt607.1 bt607.2.1 bt613.1 bt613.2 bt618.1 bt618.2.1) else (laws_FnExactEdgeAdd.j0 k a1 bt607.2.2 bt618.2.2 true a0_0 l0_1 bt607.1 bt607.2.1 bt613.1 bt613.2 bt618.1 bt618.2.1)))))) = some r := H
      have A10 := Aside0.mk A100
      clear A100
      replace H := Option.bind_eq_some_iff.mp H
      obtain ⟨⟨t607, t608, t611⟩, A110, H⟩ := H
      replace H : ((laws_toEdge.f k a0_0 l0_1).bind fun bt613 => ((impl_EdgeAdd.f bt613.1 bt613.2 a1).bind fun bt618 => ((laws_eqEdge.f k bt618.1 bt618.2.1 t607 t608).bind fun t624 => (if t624 = true then (laws_FnExactEdgeAdd.j0 k a1 t611 bt618.2.2 (bt618.2.2 != t611) a0_0 l0_1 t607 t608 bt613.1 bt613.2 bt618.1 bt618.2.1) else (laws_FnExactEdgeAdd.j0 k a1 t611 bt618.2.2 true a0_0 l0_1 t607 t608 bt613.1 bt613.2 bt618.1 bt618.2.1))))) = some r := H
      have A11 := Aside0.mk A110
      clear A110
      replace H := Option.bind_eq_some_iff.mp H
      obtain ⟨⟨t613, t614⟩, A120, H⟩ := H
      replace H : ((impl_EdgeAdd.f t613 t614 a1).bind fun bt618 => ((laws_eqEdge.f k bt618.1 bt618.2.1 t607 t608).bind fun t624 => (if t624 = true then (laws_FnExactEdgeAdd.j0 k a1 t611 bt618.2.2 (bt618.2.2 != t611) a0_0 l0_1 t607 t608 t613 t614 bt618.1 bt618.2.1) else (laws_FnExactEdgeAdd.j0 k a1 t611 bt618.2.2 true a0_0 l0_1 t607 t608 t613 t614 bt618.1 bt618.2.1)))) = some r := H
      have A12 := Aside0.mk A120
      clear A120
      replace H := Option.bind_eq_some_iff.mp H
      obtain ⟨⟨t618, t619, t622⟩, A130, H⟩ := H
      replace H : ((laws_eqEdge.f k t618 t619 t607 t608).bind fun t624 => (if t624 = true then (laws_FnExactEdgeAdd.j0 k a1 t611 t622 (t622 != t611) a0_0 l0_1 t607 t608 t613 t614 t618 t619) else (laws_FnExactEdgeAdd.j0 k a1 t611 t622 true a0_0 l0_1 t607 t608 t613 t614 t618 t619))) = some r := H
      have A13 := Aside0.mk A130
      clear A130
      have HC14 := Aside0.mk H
      clear H
      go_enter Try.func7, Try.ntmps7
      go_upto_region 10 with (first | ((with_reducible refine gate_dst (N := 2) rfl ?_); refine box_event ?hg (N := 2) ?hd (cs := #[.int .i64 a0_0, .slice A0_1 l0_1.length c0_1]) (t := 59) ?hr ?_; (case hd => rfl); (case hg => rfl); (case hr => first | (go_simp; done) | (go_simp; rfl)); intro gb601 hg w15 hbox hb; have n0_ := Aside0.mk (below_step (by repeat (first | (with_reducible first | exact HB.out | apply below_alloc | apply pw_below_drewN | apply below_drew1) | exact HB.out)) hb); have n1_ := Aside0.mk (hbox); have n2_ := Aside0.mk ((by rw [hg]; exact (below_size (by repeat (first | (with_reducible first | exact HB.out | apply below_alloc | apply pw_below_drewN | apply below_drew1) | exact HB.out))) : w.heap.size ≤ gb601)); have n3_ := Aside0.mk ((by rw [hg]; exact (below_size (by repeat (first | (with_reducible first | exact HB.out | apply below_alloc | apply pw_below_drewN | apply below_drew1) | exact HB.out))) : w.heap.size ≤ gb601)); clear HB; have HB := n0_; have BK601 := n1_; have GW601 := n2_; have GE601 := n3_; clear n0_ n1_ n2_ n3_; clear hb hbox hg; have hcz16_0 : w15.cell? ⟨gb601, 0, none⟩ = some (.int .i64 a0_0) := (blk_cell BK601.out 0).trans rfl; have hcz16_1 : w15.cell? ⟨gb601, 1, none⟩ = some (.slice A0_1 l0_1.length c0_1) := (blk_cell BK601.out 1).trans rfl; have hfz16_0 := blk_frozen BK601.out 0; have hfz16_1 := blk_frozen BK601.out 1) | ((with_reducible refine gate_callee (f := 44) rfl ?_); refine goesL_ (some 21) rfl rfl Try.func44 (by kernel_rfl) rfl #[.agg #[.int .i64 a0_0, .slice A0_1 l0_1.length c0_1], .int .i64 1048576] rfl (by (try simp only [List.map_toArray, List.map_cons, List.map_nil]); first | done | rfl | (simp only [List.length_drop, List.length_take]; rfl)) ?_; (with_reducible refine (laws_szEdge.calls k a0_0 _ _ l0_1 1048576 t602 _ ?side1 ?side2 A5.out).mono ?_); (case side1 => repeat (first | exact (Kd.C_below HR0_1.out HB.out) | (with_reducible refine Kd.C_alloc ?_ _) | (with_reducible refine Kd.C_drewN ?_ _) | (with_reducible refine Kd.C_drew ?_))); (case side2 => exact HC0_1.out); rintro e w17 ⟨rfl, hb⟩; refine ⟨_, rfl, ?_⟩; have n0_ := Aside0.mk (blk_below (g := gb601) (o := .cells #[.int .i64 a0_0, .slice A0_1 l0_1.length c0_1] 59 (0, 0)) (by (with_reducible repeat (first | refine blk_drewN ?_ _ | refine blk_drew ?_ | refine blk_alloc ?_ _)); exact BK601.out) hb); have n1_ := Aside0.mk (below_step (by repeat (first | (with_reducible first | exact HB.out | apply below_alloc | apply pw_below_drewN | apply below_drew1 | refine below_set ?_ GE601.out) | exact HB.out)) hb); clear BK601; clear HB; have BK601 := n0_; have HB := n1_; clear n0_ n1_; (try clear hb); (try clear hb2); (try clear hk); (try clear hi); have hcz18_0 : w17.cell? ⟨gb601, 0, none⟩ = some (.int .i64 a0_0) := (blk_cell BK601.out 0).trans rfl; have hcz18_1 : w17.cell? ⟨gb601, 1, none⟩ = some (.slice A0_1 l0_1.length c0_1) := (blk_cell BK601.out 1).trans rfl; have hfz18_0 := blk_frozen BK601.out 0; have hfz18_1 := blk_frozen BK601.out 1) | ((with_reducible refine gate_callee (f := 46) rfl ?_); refine goesL_ (some 26) rfl rfl Try.func46 (by kernel_rfl) rfl #[.agg #[.int .i64 a0_0, .slice A0_1 l0_1.length c0_1]] rfl (by (try simp only [List.map_toArray, List.map_cons, List.map_nil]); first | done | rfl | (simp only [List.length_drop, List.length_take]; rfl)) ?_; (with_reducible refine (laws_toEdge.calls k a0_0 _ _ l0_1 t603 t604 _ ?side1 ?side2 A10.out).mono ?_); (case side1 => repeat (first | exact (Kd.C_below HR0_1.out HB.out) | (with_reducible refine Kd.C_alloc ?_ _) | (with_reducible refine Kd.C_drewN ?_ _) | (with_reducible refine Kd.C_drew ?_))); (case side2 => exact HC0_1.out); rintro e w19 ⟨v605, rfl, ho0, hb⟩; refine ⟨_, rfl, ?_⟩; have n0_ := Aside0.mk (Kd.R_lower ho0 (below_size (by repeat (first | (with_reducible first | exact HB.out | apply below_alloc | apply pw_below_drewN | apply below_drew1 | refine below_set ?_ GE601.out) | exact HB.out)))); have n1_ := Aside0.mk (blk_below (g := gb601) (o := .cells #[.int .i64 a0_0, .slice A0_1 l0_1.length c0_1] 59 (0, 0)) (by (with_reducible repeat (first | refine blk_drewN ?_ _ | refine blk_drew ?_ | refine blk_alloc ?_ _)); exact BK601.out) hb); have n2_ := Aside0.mk (below_step (by repeat (first | (with_reducible first | exact HB.out | apply below_alloc | apply pw_below_drewN | apply below_drew1 | refine below_set ?_ GE601.out) | exact HB.out)) hb); clear BK601; clear HB; have HO606 := n0_; have BK601 := n1_; have HB := n2_; clear n0_ n1_ n2_; (try clear hb); (try clear hb2); (try clear hk); (try clear hi); (try clear ho0); obtain ⟨Ao20, co20, eo20⟩ := Kd.R_slice HO606.out; subst eo20) | ((with_reducible refine gate_callee (f := 45) rfl ?_); refine goesL_ (some 28) rfl rfl Try.func45 (by kernel_rfl) rfl #[.agg #[.int .i64 t603, .slice Ao20 t604.length co20], .string a1] rfl (by (try simp only [List.map_toArray, List.map_cons, List.map_nil]); first | done | rfl | (simp only [List.length_drop, List.length_take]; rfl)) ?_; (with_reducible refine (spec_EdgeAdd.calls k t603 _ _ t604 a1 t607 t608 t611 _ ?side1 ?side2 A11.out).mono ?_); (case side1 => repeat (first | exact (Kd.R_reads' HO606.out).2.2 | (with_reducible refine Kd.C_alloc ?_ _) | (with_reducible refine Kd.C_drewN ?_ _) | (with_reducible refine Kd.C_drew ?_))); (case side2 => exact (Kd.R_reads' HO606.out).2.1); rintro e w21 ⟨v609, rfl, ho0, hb⟩; refine ⟨_, rfl, ?_⟩; have n0_ := Aside0.mk (Kd.R_elder' (by (with_reducible repeat (first | apply Kd.R_alloc | apply Kd.R_drewN | apply Kd.R_drew)); exact HO606.out) (Kd.R_base ho0) hb); have n1_ := Aside0.mk (Kd.R_lower (Kd.R_new' ho0 (Kd.R_lt (by (with_reducible repeat (first | apply Kd.R_alloc | apply Kd.R_drewN | apply Kd.R_drew)); exact HO606.out))) (below_size (by repeat (first | (with_reducible first | exact HB.out | apply below_alloc | apply pw_below_drewN | apply below_drew1 | refine below_set ?_ GE601.out) | exact HB.out)))); have n2_ := Aside0.mk (blk_below (g := gb601) (o := .cells #[.int .i64 a0_0, .slice A0_1 l0_1.length c0_1] 59 (0, 0)) (by (with_reducible repeat (first | refine blk_drewN ?_ _ | refine blk_drew ?_ | refine blk_alloc ?_ _)); exact BK601.out) hb); have n3_ := Aside0.mk (below_step (by repeat (first | (with_reducible first | exact HB.out | apply below_alloc | apply pw_below_drewN | apply below_drew1 | refine below_set ?_ GE601.out) | exact HB.out)) hb); clear HO606; clear BK601; clear HB; have HO606 := n0_; have HO610 := n1_; have BK601 := n2_; have HB := n3_; clear n0_ n1_ n2_ n3_; (try clear hb); (try clear hb2); (try clear hk); (try clear hi); (try clear ho0)) | ((with_reducible refine gate_dst (N := 6) rfl ?_); refine box_event ?hg (N := 6) ?hd (cs := #[.int .i64 0, .slice none 0 0]) (t := 61) ?hr ?_; (case hd => rfl); (case hg => rfl); (case hr => first | (go_simp; done) | (go_simp; rfl)); intro gb612 hg w22 hbox hb; have n0_ := Aside0.mk (Kd.R_below (by (with_reducible repeat (first | apply Kd.R_alloc | apply Kd.R_drewN | apply Kd.R_drew)); exact HO606.out) hb); have n1_ := Aside0.mk (Kd.R_below (by (with_reducible repeat (first | apply Kd.R_alloc | apply Kd.R_drewN | apply Kd.R_drew)); exact HO610.out) hb); have n2_ := Aside0.mk (blk_below (g := gb601) (o := .cells #[.int .i64 a0_0, .slice A0_1 l0_1.length c0_1] 59 (0, 0)) (by (with_reducible repeat (first | refine blk_drewN ?_ _ | refine blk_drew ?_ | refine blk_alloc ?_ _)); exact BK601.out) hb); have n3_ := Aside0.mk (below_step (by repeat (first | (with_reducible first | exact HB.out | apply below_alloc | apply pw_below_drewN | apply below_drew1 | refine below_set ?_ GE601.out) | exact HB.out)) hb); have n4_ := Aside0.mk (hbox); have n5_ := Aside0.mk ((by rw [hg]; exact (below_size (by repeat (first | (with_reducible first | exact HB.out | apply below_alloc | apply pw_below_drewN | apply below_drew1 | refine below_set ?_ GE601.out) | exact HB.out))) : w.heap.size ≤ gb612)); have n6_ := Aside0.mk ((by rw [hg]; exact (below_size (by repeat (first | (with_reducible first | exact HB.out | apply below_alloc | apply pw_below_drewN | apply below_drew1 | refine below_set ?_ GE601.out) | exact HB.out))) : w.heap.size ≤ gb612)); have n7_ := Aside0.mk ((by rw [hg]; exact Nat.ne_of_lt (blk_lt (g := gb601) (o := .cells #[.int .i64 a0_0, .slice A0_1 l0_1.length c0_1] 59 (0, 0)) (by (with_reducible repeat (first | refine blk_drewN ?_ _ | refine blk_drew ?_ | refine blk_alloc ?_ _)); exact BK601.out)) : gb601 ≠ gb612)); have n8_ := Aside0.mk ((by rw [hg]; exact Nat.ne_of_gt (blk_lt (g := gb601) (o := .cells #[.int .i64 a0_0, .slice A0_1 l0_1.length c0_1] 59 (0, 0)) (by (with_reducible repeat (first | refine blk_drewN ?_ _ | refine blk_drew ?_ | refine blk_alloc ?_ _)); exact BK601.out)) : gb612 ≠ gb601)); clear HO606; clear HO610; clear BK601; clear HB; have HO606 := n0_; have HO610 := n1_; have BK601 := n2_; have HB := n3_; have BK612 := n4_; have GW612 := n5_; have GE612 := n6_; have NB601_612 := n7_; have NB612_601 := n8_; clear n0_ n1_ n2_ n3_ n4_ n5_ n6_ n7_ n8_; clear hb hbox hg; have hnb23 := NB612_601.out; have hnc23 := NB601_612.out; have hcz24_0 : w22.cell? ⟨gb612, 0, none⟩ = some (.int .i64 0) := (blk_cell BK612.out 0).trans rfl; have hcz24_1 : w22.cell? ⟨gb612, 1, none⟩ = some (.slice none 0 0) := (blk_cell BK612.out 1).trans rfl; have hfz24_0 := blk_frozen BK612.out 0; have hfz24_1 := blk_frozen BK612.out 1; obtain ⟨Ao25, co25, eo25⟩ := Kd.R_slice HO610.out; subst eo25; have hcz26_0 : w22.cell? ⟨gb601, 0, none⟩ = some (.int .i64 a0_0) := (blk_cell BK601.out 0).trans rfl; have hcz26_1 : w22.cell? ⟨gb601, 1, none⟩ = some (.slice A0_1 l0_1.length c0_1) := (blk_cell BK601.out 1).trans rfl; have hfz26_0 := blk_frozen BK601.out 0; have hfz26_1 := blk_frozen BK601.out 1) | ((with_reducible refine gate_callee (f := 46) rfl ?_); refine goesL_ (some 32) rfl rfl Try.func46 (by kernel_rfl) rfl #[.agg #[.int .i64 a0_0, .slice A0_1 l0_1.length c0_1]] rfl (by (try simp only [List.map_toArray, List.map_cons, List.map_nil]); first | done | rfl | (simp only [List.length_drop, List.length_take]; rfl)) ?_; (with_reducible refine (laws_toEdge.calls k a0_0 _ _ l0_1 t613 t614 _ ?side1 ?side2 A12.out).mono ?_); (case side1 => exact Kd.C_below HR0_1.out (by repeat (first | (with_reducible first | exact HB.out | apply below_alloc | apply pw_below_drewN | apply below_drew1 | refine below_set ?_ GE601.out | refine below_set ?_ GE612.out) | exact HB.out))); (case side2 => exact HC0_1.out); rintro e w27 ⟨v615, rfl, ho0, hb⟩; refine ⟨_, rfl, ?_⟩; have n0_ := Aside0.mk (Kd.R_elder' (by (with_reducible repeat (first | apply Kd.R_alloc | apply Kd.R_drewN | apply Kd.R_drew)); exact (Kd.R_mono (Kd.R_far (p := ⟨gb612, 1, none⟩) (Kd.R_far (p := ⟨gb612, 0, none⟩) (Kd.R_types HO606.out BK612.out (by decide)) (fun _ hk => hk.2) (.int .i64 t607)) (fun _ hk => hk.2) (.slice Ao25 t608.length co25)) (fun _ h_ => h_.1))) (Kd.R_base ho0) hb); have n1_ := Aside0.mk (Kd.R_elder' (by (with_reducible repeat (first | apply Kd.R_alloc | apply Kd.R_drewN | apply Kd.R_drew)); exact (Kd.R_mono (Kd.R_far (p := ⟨gb612, 1, none⟩) (Kd.R_far (p := ⟨gb612, 0, none⟩) (Kd.R_types HO610.out BK612.out (by decide)) (fun _ hk => hk.2) (.int .i64 t607)) (fun _ hk => hk.2) (.slice Ao25 t608.length co25)) (fun _ h_ => h_.1))) (Kd.R_base ho0) hb); have n2_ := Aside0.mk (Kd.R_lower (Kd.R_new' (Kd.R_new' ho0 (Kd.R_lt (by (with_reducible repeat (first | apply Kd.R_alloc | apply Kd.R_drewN | apply Kd.R_drew)); exact (Kd.R_mono (Kd.R_far (p := ⟨gb612, 1, none⟩) (Kd.R_far (p := ⟨gb612, 0, none⟩) (Kd.R_types HO606.out BK612.out (by decide)) (fun _ hk => hk.2) (.int .i64 t607)) (fun _ hk => hk.2) (.slice Ao25 t608.length co25)) (fun _ h_ => h_.1))))) (Kd.R_lt (by (with_reducible repeat (first | apply Kd.R_alloc | apply Kd.R_drewN | apply Kd.R_drew)); exact (Kd.R_mono (Kd.R_far (p := ⟨gb612, 1, none⟩) (Kd.R_far (p := ⟨gb612, 0, none⟩) (Kd.R_types HO610.out BK612.out (by decide)) (fun _ hk => hk.2) (.int .i64 t607)) (fun _ hk => hk.2) (.slice Ao25 t608.length co25)) (fun _ h_ => h_.1))))) (below_size (by repeat (first | (with_reducible first | exact HB.out | apply below_alloc | apply pw_below_drewN | apply below_drew1 | refine below_set ?_ GE601.out | refine below_set ?_ GE612.out) | exact HB.out)))); have n3_ := Aside0.mk (blk_below (g := gb601) (o := .cells #[.int .i64 a0_0, .slice A0_1 l0_1.length c0_1] 59 (0, 0)) (by (with_reducible repeat (first | refine blk_drewN ?_ _ | refine blk_drew ?_ | refine blk_alloc ?_ _)); refine blk_far ?_ NB601_612.out _; (with_reducible repeat (first | refine blk_drewN ?_ _ | refine blk_drew ?_ | refine blk_alloc ?_ _)); refine blk_far ?_ NB601_612.out _; (with_reducible repeat (first | refine blk_drewN ?_ _ | refine blk_drew ?_ | refine blk_alloc ?_ _)); exact BK601.out) hb); have n4_ := Aside0.mk (blk_below (g := gb612) (o := .cells #[.int .i64 t607, .slice Ao25 t608.length co25] 61 (0, 0)) (by (with_reducible repeat (first | refine blk_drewN ?_ _ | refine blk_drew ?_ | refine blk_alloc ?_ _)); refine blk_put (cs := #[.int .i64 t607, .slice none 0 0]) ?_ 1 _ rfl; (with_reducible repeat (first | refine blk_drewN ?_ _ | refine blk_drew ?_ | refine blk_alloc ?_ _)); refine blk_put (cs := #[.int .i64 0, .slice none 0 0]) ?_ 0 _ rfl; (with_reducible repeat (first | refine blk_drewN ?_ _ | refine blk_drew ?_ | refine blk_alloc ?_ _)); exact BK612.out) hb); have n5_ := Aside0.mk (below_step (by repeat (first | (with_reducible first | exact HB.out | apply below_alloc | apply pw_below_drewN | apply below_drew1 | refine below_set ?_ GE601.out | refine below_set ?_ GE612.out) | exact HB.out)) hb); clear HO606; clear HO610; clear BK601; clear BK612; clear HB; have HO606 := n0_; have HO610 := n1_; have HO616 := n2_; have BK601 := n3_; have BK612 := n4_; have HB := n5_; clear n0_ n1_ n2_ n3_ n4_ n5_; (try clear hb); (try clear hb2); (try clear hk); (try clear hi); (try clear ho0)) | ((with_reducible refine gate_dst (N := 8) rfl ?_); refine box_event ?hg (N := 8) ?hd (cs := #[.int .i64 0, .slice none 0 0]) (t := 61) ?hr ?_; (case hd => rfl); (case hg => rfl); (case hr => first | (go_simp; done) | (go_simp; rfl)); intro gb617 hg w28 hbox hb; have n0_ := Aside0.mk (Kd.R_below (by (with_reducible repeat (first | apply Kd.R_alloc | apply Kd.R_drewN | apply Kd.R_drew)); exact HO606.out) hb); have n1_ := Aside0.mk (Kd.R_below (by (with_reducible repeat (first | apply Kd.R_alloc | apply Kd.R_drewN | apply Kd.R_drew)); exact HO610.out) hb); have n2_ := Aside0.mk (Kd.R_below (by (with_reducible repeat (first | apply Kd.R_alloc | apply Kd.R_drewN | apply Kd.R_drew)); exact HO616.out) hb); have n3_ := Aside0.mk (blk_below (g := gb601) (o := .cells #[.int .i64 a0_0, .slice A0_1 l0_1.length c0_1] 59 (0, 0)) (by (with_reducible repeat (first | refine blk_drewN ?_ _ | refine blk_drew ?_ | refine blk_alloc ?_ _)); exact BK601.out) hb); have n4_ := Aside0.mk (blk_below (g := gb612) (o := .cells #[.int .i64 t607, .slice Ao25 t608.length co25] 61 (0, 0)) (by (with_reducible repeat (first | refine blk_drewN ?_ _ | refine blk_drew ?_ | refine blk_alloc ?_ _)); exact BK612.out) hb); have n5_ := Aside0.mk (below_step (by repeat (first | (with_reducible first | exact HB.out | apply below_alloc | apply pw_below_drewN | apply below_drew1 | refine below_set ?_ GE601.out | refine below_set ?_ GE612.out) | exact HB.out)) hb); have n6_ := Aside0.mk (hbox); have n7_ := Aside0.mk ((by rw [hg]; exact (below_size (by repeat (first | (with_reducible first | exact HB.out | apply below_alloc | apply pw_below_drewN | apply below_drew1 | refine below_set ?_ GE601.out | refine below_set ?_ GE612.out) | exact HB.out))) : w.heap.size ≤ gb617)); have n8_ := Aside0.mk ((by rw [hg]; exact (below_size (by repeat (first | (with_reducible first | exact HB.out | apply below_alloc | apply pw_below_drewN | apply below_drew1 | refine below_set ?_ GE601.out | refine below_set ?_ GE612.out) | exact HB.out))) : w.heap.size ≤ gb617)); have n9_ := Aside0.mk ((by rw [hg]; exact Nat.ne_of_lt (blk_lt (g := gb601) (o := .cells #[.int .i64 a0_0, .slice A0_1 l0_1.length c0_1] 59 (0, 0)) (by (with_reducible repeat (first | refine blk_drewN ?_ _ | refine blk_drew ?_ | refine blk_alloc ?_ _)); exact BK601.out)) : gb601 ≠ gb617)); have n10_ := Aside0.mk ((by rw [hg]; exact Nat.ne_of_gt (blk_lt (g := gb601) (o := .cells #[.int .i64 a0_0, .slice A0_1 l0_1.length c0_1] 59 (0, 0)) (by (with_reducible repeat (first | refine blk_drewN ?_ _ | refine blk_drew ?_ | refine blk_alloc ?_ _)); exact BK601.out)) : gb617 ≠ gb601)); have n11_ := Aside0.mk ((by rw [hg]; exact Nat.ne_of_lt (blk_lt (g := gb612) (o := .cells #[.int .i64 t607, .slice Ao25 t608.length co25] 61 (0, 0)) (by (with_reducible repeat (first | refine blk_drewN ?_ _ | refine blk_drew ?_ | refine blk_alloc ?_ _)); exact BK612.out)) : gb612 ≠ gb617)); have n12_ := Aside0.mk ((by rw [hg]; exact Nat.ne_of_gt (blk_lt (g := gb612) (o := .cells #[.int .i64 t607, .slice Ao25 t608.length co25] 61 (0, 0)) (by (with_reducible repeat (first | refine blk_drewN ?_ _ | refine blk_drew ?_ | refine blk_alloc ?_ _)); exact BK612.out)) : gb617 ≠ gb612)); clear HO606; clear HO610; clear HO616; clear BK601; clear BK612; clear HB; have HO606 := n0_; have HO610 := n1_; have HO616 := n2_; have BK601 := n3_; have BK612 := n4_; have HB := n5_; have BK617 := n6_; have GW617 := n7_; have GE617 := n8_; have NB601_617 := n9_; have NB617_601 := n10_; have NB612_617 := n11_; have NB617_612 := n12_; clear n0_ n1_ n2_ n3_ n4_ n5_ n6_ n7_ n8_ n9_ n10_ n11_ n12_; clear hb hbox hg; have hnb29 := NB617_601.out; have hnc29 := NB601_617.out; have hnb30 := NB617_612.out; have hnc30 := NB612_617.out; have hcz31_0 : w28.cell? ⟨gb617, 0, none⟩ = some (.int .i64 0) := (blk_cell BK617.out 0).trans rfl; have hcz31_1 : w28.cell? ⟨gb617, 1, none⟩ = some (.slice none 0 0) := (blk_cell BK617.out 1).trans rfl; have hfz31_0 := blk_frozen BK617.out 0; have hfz31_1 := blk_frozen BK617.out 1; obtain ⟨Ao32, co32, eo32⟩ := Kd.R_slice HO616.out; subst eo32) | ((with_reducible refine gate_callee (f := 47) rfl ?_); refine goesL_ (some 36) rfl rfl Try.func47 (by kernel_rfl) rfl #[.agg #[.int .i64 t613, .slice Ao32 t614.length co32], .string a1] rfl (by (try simp only [List.map_toArray, List.map_cons, List.map_nil]); first | done | rfl | (simp only [List.length_drop, List.length_take]; rfl)) ?_; (with_reducible refine (impl_EdgeAdd.calls t613 _ _ t614 a1 t618 t619 t622 _ ?side1 ?side2 A13.out).mono ?_); (case side1 => refine (Kd.R_reads' (e := 9) (base := w.heap.size) (ok := fun k_ => ((True ∧ some k_ ≠ (.slice Ao20 t604.length co20 : Value).ownBlock) ∧ some k_ ≠ (.slice Ao25 t608.length co25 : Value).ownBlock)) (n := t614.length) (c := co32) ?_).2.2; exact (by (with_reducible repeat (first | apply Kd.R_alloc | apply Kd.R_drewN | apply Kd.R_drew)); exact (Kd.R_mono (Kd.R_far (p := ⟨gb617, 1, none⟩) (Kd.R_far (p := ⟨gb617, 0, none⟩) (Kd.R_types HO616.out BK617.out (by decide)) (fun _ hk => hk.2) (.int .i64 t613)) (fun _ hk => hk.2) (.slice Ao32 t614.length co32)) (fun _ h_ => h_.1)))); (case side2 => exact (Kd.R_reads' HO616.out).2.1); rintro e w33 ⟨v620, rfl, ho0, hb⟩; refine ⟨_, rfl, ?_⟩; have n0_ := Aside0.mk (Kd.R_elder' (by (with_reducible repeat (first | apply Kd.R_alloc | apply Kd.R_drewN | apply Kd.R_drew)); exact (Kd.R_mono (Kd.R_far (p := ⟨gb617, 1, none⟩) (Kd.R_far (p := ⟨gb617, 0, none⟩) (Kd.R_types HO606.out BK617.out (by decide)) (fun _ hk => hk.2) (.int .i64 t613)) (fun _ hk => hk.2) (.slice Ao32 t614.length co32)) (fun _ h_ => h_.1))) (Kd.R_base ho0) hb); have n1_ := Aside0.mk (Kd.R_elder' (by (with_reducible repeat (first | apply Kd.R_alloc | apply Kd.R_drewN | apply Kd.R_drew)); exact (Kd.R_mono (Kd.R_far (p := ⟨gb617, 1, none⟩) (Kd.R_far (p := ⟨gb617, 0, none⟩) (Kd.R_types HO610.out BK617.out (by decide)) (fun _ hk => hk.2) (.int .i64 t613)) (fun _ hk => hk.2) (.slice Ao32 t614.length co32)) (fun _ h_ => h_.1))) (Kd.R_base ho0) hb); have n2_ := Aside0.mk (Kd.R_elder' (by (with_reducible repeat (first | apply Kd.R_alloc | apply Kd.R_drewN | apply Kd.R_drew)); exact (Kd.R_mono (Kd.R_far (p := ⟨gb617, 1, none⟩) (Kd.R_far (p := ⟨gb617, 0, none⟩) (Kd.R_types HO616.out BK617.out (by decide)) (fun _ hk => hk.2) (.int .i64 t613)) (fun _ hk => hk.2) (.slice Ao32 t614.length co32)) (fun _ h_ => h_.1))) (Kd.R_base ho0) hb); have n3_ := Aside0.mk (Kd.R_lower (Kd.R_new' (Kd.R_new' (Kd.R_new' ho0 (Kd.R_lt (by (with_reducible repeat (first | apply Kd.R_alloc | apply Kd.R_drewN | apply Kd.R_drew)); exact (Kd.R_mono (Kd.R_far (p := ⟨gb617, 1, none⟩) (Kd.R_far (p := ⟨gb617, 0, none⟩) (Kd.R_types HO606.out BK617.out (by decide)) (fun _ hk => hk.2) (.int .i64 t613)) (fun _ hk => hk.2) (.slice Ao32 t614.length co32)) (fun _ h_ => h_.1))))) (Kd.R_lt (by (with_reducible repeat (first | apply Kd.R_alloc | apply Kd.R_drewN | apply Kd.R_drew)); exact (Kd.R_mono (Kd.R_far (p := ⟨gb617, 1, none⟩) (Kd.R_far (p := ⟨gb617, 0, none⟩) (Kd.R_types HO610.out BK617.out (by decide)) (fun _ hk => hk.2) (.int .i64 t613)) (fun _ hk => hk.2) (.slice Ao32 t614.length co32)) (fun _ h_ => h_.1))))) (Kd.R_lt (by (with_reducible repeat (first | apply Kd.R_alloc | apply Kd.R_drewN | apply Kd.R_drew)); exact (Kd.R_mono (Kd.R_far (p := ⟨gb617, 1, none⟩) (Kd.R_far (p := ⟨gb617, 0, none⟩) (Kd.R_types HO616.out BK617.out (by decide)) (fun _ hk => hk.2) (.int .i64 t613)) (fun _ hk => hk.2) (.slice Ao32 t614.length co32)) (fun _ h_ => h_.1))))) (below_size (by repeat (first | (with_reducible first | exact HB.out | apply below_alloc | apply pw_below_drewN | apply below_drew1 | refine below_set ?_ GE601.out | refine below_set ?_ GE612.out | refine below_set ?_ GE617.out) | exact HB.out)))); have n4_ := Aside0.mk (blk_below (g := gb601) (o := .cells #[.int .i64 a0_0, .slice A0_1 l0_1.length c0_1] 59 (0, 0)) (by (with_reducible repeat (first | refine blk_drewN ?_ _ | refine blk_drew ?_ | refine blk_alloc ?_ _)); refine blk_far ?_ NB601_617.out _; (with_reducible repeat (first | refine blk_drewN ?_ _ | refine blk_drew ?_ | refine blk_alloc ?_ _)); refine blk_far ?_ NB601_617.out _; (with_reducible repeat (first | refine blk_drewN ?_ _ | refine blk_drew ?_ | refine blk_alloc ?_ _)); exact BK601.out) hb); have n5_ := Aside0.mk (blk_below (g := gb612) (o := .cells #[.int .i64 t607, .slice Ao25 t608.length co25] 61 (0, 0)) (by (with_reducible repeat (first | refine blk_drewN ?_ _ | refine blk_drew ?_ | refine blk_alloc ?_ _)); refine blk_far ?_ NB612_617.out _; (with_reducible repeat (first | refine blk_drewN ?_ _ | refine blk_drew ?_ | refine blk_alloc ?_ _)); refine blk_far ?_ NB612_617.out _; (with_reducible repeat (first | refine blk_drewN ?_ _ | refine blk_drew ?_ | refine blk_alloc ?_ _)); exact BK612.out) hb); have n6_ := Aside0.mk (blk_below (g := gb617) (o := .cells #[.int .i64 t613, .slice Ao32 t614.length co32] 61 (0, 0)) (by (with_reducible repeat (first | refine blk_drewN ?_ _ | refine blk_drew ?_ | refine blk_alloc ?_ _)); refine blk_put (cs := #[.int .i64 t613, .slice none 0 0]) ?_ 1 _ rfl; (with_reducible repeat (first | refine blk_drewN ?_ _ | refine blk_drew ?_ | refine blk_alloc ?_ _)); refine blk_put (cs := #[.int .i64 0, .slice none 0 0]) ?_ 0 _ rfl; (with_reducible repeat (first | refine blk_drewN ?_ _ | refine blk_drew ?_ | refine blk_alloc ?_ _)); exact BK617.out) hb); have n7_ := Aside0.mk (below_step (by repeat (first | (with_reducible first | exact HB.out | apply below_alloc | apply pw_below_drewN | apply below_drew1 | refine below_set ?_ GE601.out | refine below_set ?_ GE612.out | refine below_set ?_ GE617.out) | exact HB.out)) hb); clear HO606; clear HO610; clear HO616; clear BK601; clear BK612; clear BK617; clear HB; have HO606 := n0_; have HO610 := n1_; have HO616 := n2_; have HO621 := n3_; have BK601 := n4_; have BK612 := n5_; have BK617 := n6_; have HB := n7_; clear n0_ n1_ n2_ n3_ n4_ n5_ n6_ n7_; (try clear hb); (try clear hb2); (try clear hk); (try clear hi); (try clear ho0)) | ((with_reducible refine gate_dst (N := 9) rfl ?_); refine box_event ?hg (N := 9) ?hd (cs := #[.int .i64 0, .slice none 0 0]) (t := 61) ?hr ?_; (case hd => rfl); (case hg => rfl); (case hr => first | (go_simp; done) | (go_simp; rfl)); intro gb623 hg w34 hbox hb; have n0_ := Aside0.mk (Kd.R_below (by (with_reducible repeat (first | apply Kd.R_alloc | apply Kd.R_drewN | apply Kd.R_drew)); exact HO606.out) hb); have n1_ := Aside0.mk (Kd.R_below (by (with_reducible repeat (first | apply Kd.R_alloc | apply Kd.R_drewN | apply Kd.R_drew)); exact HO610.out) hb); have n2_ := Aside0.mk (Kd.R_below (by (with_reducible repeat (first | apply Kd.R_alloc | apply Kd.R_drewN | apply Kd.R_drew)); exact HO616.out) hb); have n3_ := Aside0.mk (Kd.R_below (by (with_reducible repeat (first | apply Kd.R_alloc | apply Kd.R_drewN | apply Kd.R_drew)); exact HO621.out) hb); have n4_ := Aside0.mk (blk_below (g := gb601) (o := .cells #[.int .i64 a0_0, .slice A0_1 l0_1.length c0_1] 59 (0, 0)) (by (with_reducible repeat (first | refine blk_drewN ?_ _ | refine blk_drew ?_ | refine blk_alloc ?_ _)); exact BK601.out) hb); have n5_ := Aside0.mk (blk_below (g := gb612) (o := .cells #[.int .i64 t607, .slice Ao25 t608.length co25] 61 (0, 0)) (by (with_reducible repeat (first | refine blk_drewN ?_ _ | refine blk_drew ?_ | refine blk_alloc ?_ _)); exact BK612.out) hb); have n6_ := Aside0.mk (blk_below (g := gb617) (o := .cells #[.int .i64 t613, .slice Ao32 t614.length co32] 61 (0, 0)) (by (with_reducible repeat (first | refine blk_drewN ?_ _ | refine blk_drew ?_ | refine blk_alloc ?_ _)); exact BK617.out) hb); have n7_ := Aside0.mk (below_step (by repeat (first | (with_reducible first | exact HB.out | apply below_alloc | apply pw_below_drewN | apply below_drew1 | refine below_set ?_ GE601.out | refine below_set ?_ GE612.out | refine below_set ?_ GE617.out) | exact HB.out)) hb); have n8_ := Aside0.mk (hbox); have n9_ := Aside0.mk ((by rw [hg]; exact (below_size (by repeat (first | (with_reducible first | exact HB.out | apply below_alloc | apply pw_below_drewN | apply below_drew1 | refine below_set ?_ GE601.out | refine below_set ?_ GE612.out | refine below_set ?_ GE617.out) | exact HB.out))) : w.heap.size ≤ gb623)); have n10_ := Aside0.mk ((by rw [hg]; exact (below_size (by repeat (first | (with_reducible first | exact HB.out | apply below_alloc | apply pw_below_drewN | apply below_drew1 | refine below_set ?_ GE601.out | refine below_set ?_ GE612.out | refine below_set ?_ GE617.out) | exact HB.out))) : w.heap.size ≤ gb623)); have n11_ := Aside0.mk ((by rw [hg]; exact Nat.ne_of_lt (blk_lt (g := gb601) (o := .cells #[.int .i64 a0_0, .slice A0_1 l0_1.length c0_1] 59 (0, 0)) (by (with_reducible repeat (first | refine blk_drewN ?_ _ | refine blk_drew ?_ | refine blk_alloc ?_ _)); exact BK601.out)) : gb601 ≠ gb623)); have n12_ := Aside0.mk ((by rw [hg]; exact Nat.ne_of_gt (blk_lt (g := gb601) (o := .cells #[.int .i64 a0_0, .slice A0_1 l0_1.length c0_1] 59 (0, 0)) (by (with_reducible repeat (first | refine blk_drewN ?_ _ | refine blk_drew ?_ | refine blk_alloc ?_ _)); exact BK601.out)) : gb623 ≠ gb601)); have n13_ := Aside0.mk ((by rw [hg]; exact Nat.ne_of_lt (blk_lt (g := gb612) (o := .cells #[.int .i64 t607, .slice Ao25 t608.length co25] 61 (0, 0)) (by (with_reducible repeat (first | refine blk_drewN ?_ _ | refine blk_drew ?_ | refine blk_alloc ?_ _)); exact BK612.out)) : gb612 ≠ gb623)); have n14_ := Aside0.mk ((by rw [hg]; exact Nat.ne_of_gt (blk_lt (g := gb612) (o := .cells #[.int .i64 t607, .slice Ao25 t608.length co25] 61 (0, 0)) (by (with_reducible repeat (first | refine blk_drewN ?_ _ | refine blk_drew ?_ | refine blk_alloc ?_ _)); exact BK612.out)) : gb623 ≠ gb612)); have n15_ := Aside0.mk ((by rw [hg]; exact Nat.ne_of_lt (blk_lt (g := gb617) (o := .cells #[.int .i64 t613, .slice Ao32 t614.length co32] 61 (0, 0)) (by (with_reducible repeat (first | refine blk_drewN ?_ _ | refine blk_drew ?_ | refine blk_alloc ?_ _)); exact BK617.out)) : gb617 ≠ gb623)); have n16_ := Aside0.mk ((by rw [hg]; exact Nat.ne_of_gt (blk_lt (g := gb617) (o := .cells #[.int .i64 t613, .slice Ao32 t614.length co32] 61 (0, 0)) (by (with_reducible repeat (first | refine blk_drewN ?_ _ | refine blk_drew ?_ | refine blk_alloc ?_ _)); exact BK617.out)) : gb623 ≠ gb617)); clear HO606; clear HO610; clear HO616; clear HO621; clear BK601; clear BK612; clear BK617; clear HB; have HO606 := n0_; have HO610 := n1_; have HO616 := n2_; have HO621 := n3_; have BK601 := n4_; have BK612 := n5_; have BK617 := n6_; have HB := n7_; have BK623 := n8_; have GW623 := n9_; have GE623 := n10_; have NB601_623 := n11_; have NB623_601 := n12_; have NB612_623 := n13_; have NB623_612 := n14_; have NB617_623 := n15_; have NB623_617 := n16_; clear n0_ n1_ n2_ n3_ n4_ n5_ n6_ n7_ n8_ n9_ n10_ n11_ n12_ n13_ n14_ n15_ n16_; clear hb hbox hg; have hnb35 := NB623_601.out; have hnc35 := NB601_623.out; have hnb36 := NB623_612.out; have hnc36 := NB612_623.out; have hnb37 := NB623_617.out; have hnc37 := NB617_623.out; have hcz38_0 : w34.cell? ⟨gb623, 0, none⟩ = some (.int .i64 0) := (blk_cell BK623.out 0).trans rfl; have hcz38_1 : w34.cell? ⟨gb623, 1, none⟩ = some (.slice none 0 0) := (blk_cell BK623.out 1).trans rfl; have hfz38_0 := blk_frozen BK623.out 0; have hfz38_1 := blk_frozen BK623.out 1; obtain ⟨Ao39, co39, eo39⟩ := Kd.R_slice HO621.out; subst eo39))
      (try simp only [Act.put, List.setIfInBounds_toArray, List.set_cons_zero, List.set_cons_succ])
      go_cut [47] (fun v47 wc => ∃ (kq : Nat) (x47_13 : Bool), v47 = .bool x47_13 ∧ Aside0 (laws_FnExactEdgeAdd.j0 kq a1 t611 t622 x47_13 a0_0 l0_1 t607 t608 t613 t614 t618 t619 = some r) ∧ Aside0 (kq ≤ k) ∧ Aside0 (Kd.R Kd.string 9 wc w.heap.size (fun k_ => some k_ ≠ ((.slice Ao32 t614.length co32) : Value).ownBlock ∧ some k_ ≠ ((.slice Ao39 t619.length co39) : Value).ownBlock) (.slice Ao25 t608.length co25) t608) ∧ Aside0 (Kd.R Kd.string 9 wc w.heap.size (fun k_ => some k_ ≠ ((.slice Ao25 t608.length co25) : Value).ownBlock ∧ some k_ ≠ ((.slice Ao39 t619.length co39) : Value).ownBlock) (.slice Ao32 t614.length co32) t614) ∧ Aside0 (Kd.R Kd.string 9 wc w.heap.size (fun k_ => some k_ ≠ ((.slice Ao25 t608.length co25) : Value).ownBlock ∧ some k_ ≠ ((.slice Ao32 t614.length co32) : Value).ownBlock) (.slice Ao39 t619.length co39) t619) ∧ Aside0 (wc.heap[gb601]? = some (.cells #[.int .i64 a0_0, (.slice A0_1 l0_1.length c0_1)] 59 (0, 0))) ∧ Aside0 (wc.heap[gb612]? = some (.cells #[.int .i64 t607, (.slice Ao25 t608.length co25)] 61 (0, 0))) ∧ Aside0 (wc.heap[gb617]? = some (.cells #[.int .i64 t613, (.slice Ao32 t614.length co32)] 61 (0, 0))) ∧ Aside0 (wc.heap[gb623]? = some (.cells #[.int .i64 t618, (.slice Ao39 t619.length co39)] 61 (0, 0))) ∧ Aside0 (Below w.heap.size w wc))
      case first =>
        have H := HC14.out
        clear HC14
        replace H := Option.bind_eq_some_iff.mp H
        obtain ⟨t624, A400, H⟩ := H
        replace H : (if t624 = true then (laws_FnExactEdgeAdd.j0 k a1 t611 t622 (t622 != t611) a0_0 l0_1 t607 t608 t613 t614 t618 t619) else (laws_FnExactEdgeAdd.j0 k a1 t611 t622 true a0_0 l0_1 t607 t608 t613 t614 t618 t619)) = some r := H
        have A40 := Aside0.mk A400
        clear A400
        by_cases c41 : t624 = true
        · subst c41
          have H1 : (laws_FnExactEdgeAdd.j0 k a1 t611 t622 (t622 != t611) a0_0 l0_1 t607 t608 t613 t614 t618 t619) = some r := by rw [if_pos rfl] at H; exact H
          clear H
          have H := H1
          clear H1
          have H' := Aside0.mk H
          clear H
          have hnb42 := NB623_601.out
          have hnc42 := NB601_623.out
          have hnb43 := NB623_612.out
          have hnc43 := NB612_623.out
          have hnb44 := NB623_617.out
          have hnc44 := NB617_623.out
          have hcz45_0 : w34.cell? ⟨gb623, 0, none⟩ = some (.int .i64 0) := (blk_cell BK623.out 0).trans rfl
          have hcz45_1 : w34.cell? ⟨gb623, 1, none⟩ = some (.slice none 0 0) := (blk_cell BK623.out 1).trans rfl
          have hfz45_0 := blk_frozen BK623.out 0
          have hfz45_1 := blk_frozen BK623.out 1
          have hnb46 := NB612_601.out
          have hnc46 := NB601_612.out
          have hnb47 := NB612_617.out
          have hnc47 := NB617_612.out
          have hcz48_0 : w34.cell? ⟨gb612, 0, none⟩ = some (.int .i64 t607) := (blk_cell BK612.out 0).trans rfl
          have hcz48_1 : w34.cell? ⟨gb612, 1, none⟩ = some (.slice Ao25 t608.length co25) := (blk_cell BK612.out 1).trans rfl
          have hfz48_0 := blk_frozen BK612.out 0
          have hfz48_1 := blk_frozen BK612.out 1
          go_wp2_with (first | ((with_reducible refine gate_callee (f := 48) rfl ?_); refine goesL_ (some 41) rfl rfl Try.func48 (by kernel_rfl) rfl #[.agg #[.int .i64 t618, .slice Ao39 t619.length co39], .agg #[.int .i64 t607, .slice Ao25 t608.length co25]] rfl (by (try simp only [List.map_toArray, List.map_cons, List.map_nil]); first | done | rfl | (simp only [List.length_drop, List.length_take]; rfl)) ?_; (with_reducible refine (laws_eqEdge.calls k t618 _ _ t619 t607 _ _ t608 true _ ?side1 ?side2 ?side3 ?side4 A40.out).mono ?_); (case side1 => refine (Kd.R_reads' (e := 9) (base := w.heap.size) (ok := fun k_ => (((True ∧ some k_ ≠ (.slice Ao20 t604.length co20 : Value).ownBlock) ∧ some k_ ≠ (.slice Ao25 t608.length co25 : Value).ownBlock) ∧ some k_ ≠ (.slice Ao32 t614.length co32 : Value).ownBlock)) (n := t619.length) (c := co39) ?_).2.2; exact (by (with_reducible repeat (first | apply Kd.R_alloc | apply Kd.R_drewN | apply Kd.R_drew)); exact (Kd.R_mono (Kd.R_far (p := ⟨gb623, 1, none⟩) (Kd.R_far (p := ⟨gb623, 0, none⟩) (Kd.R_types HO621.out BK623.out (by decide)) (fun _ hk => hk.2) (.int .i64 t618)) (fun _ hk => hk.2) (.slice Ao39 t619.length co39)) (fun _ h_ => h_.1)))); (case side2 => exact (Kd.R_reads' HO621.out).2.1); (case side3 => refine (Kd.R_reads' (e := 9) (base := w.heap.size) (ok := fun k_ => (((True ∧ some k_ ≠ (.slice Ao20 t604.length co20 : Value).ownBlock) ∧ some k_ ≠ (.slice Ao32 t614.length co32 : Value).ownBlock) ∧ some k_ ≠ (.slice Ao39 t619.length co39 : Value).ownBlock)) (n := t608.length) (c := co25) ?_).2.2; exact (by (with_reducible repeat (first | apply Kd.R_alloc | apply Kd.R_drewN | apply Kd.R_drew)); exact (Kd.R_mono (Kd.R_far (p := ⟨gb623, 1, none⟩) (Kd.R_far (p := ⟨gb623, 0, none⟩) (Kd.R_types HO610.out BK623.out (by decide)) (fun _ hk => hk.2) (.int .i64 t618)) (fun _ hk => hk.2) (.slice Ao39 t619.length co39)) (fun _ h_ => h_.1)))); (case side4 => exact (Kd.R_reads' HO610.out).2.1); rintro e w49 ⟨rfl, hb⟩; refine ⟨_, rfl, ?_⟩; have n0_ := Aside0.mk (Kd.R_below (by (with_reducible repeat (first | apply Kd.R_alloc | apply Kd.R_drewN | apply Kd.R_drew)); exact (Kd.R_mono (Kd.R_far (p := ⟨gb623, 1, none⟩) (Kd.R_far (p := ⟨gb623, 0, none⟩) (Kd.R_types HO606.out BK623.out (by decide)) (fun _ hk => hk.2) (.int .i64 t618)) (fun _ hk => hk.2) (.slice Ao39 t619.length co39)) (fun _ h_ => h_.1))) hb); have n1_ := Aside0.mk (Kd.R_below (by (with_reducible repeat (first | apply Kd.R_alloc | apply Kd.R_drewN | apply Kd.R_drew)); exact (Kd.R_mono (Kd.R_far (p := ⟨gb623, 1, none⟩) (Kd.R_far (p := ⟨gb623, 0, none⟩) (Kd.R_types HO610.out BK623.out (by decide)) (fun _ hk => hk.2) (.int .i64 t618)) (fun _ hk => hk.2) (.slice Ao39 t619.length co39)) (fun _ h_ => h_.1))) hb); have n2_ := Aside0.mk (Kd.R_below (by (with_reducible repeat (first | apply Kd.R_alloc | apply Kd.R_drewN | apply Kd.R_drew)); exact (Kd.R_mono (Kd.R_far (p := ⟨gb623, 1, none⟩) (Kd.R_far (p := ⟨gb623, 0, none⟩) (Kd.R_types HO616.out BK623.out (by decide)) (fun _ hk => hk.2) (.int .i64 t618)) (fun _ hk => hk.2) (.slice Ao39 t619.length co39)) (fun _ h_ => h_.1))) hb); have n3_ := Aside0.mk (Kd.R_below (by (with_reducible repeat (first | apply Kd.R_alloc | apply Kd.R_drewN | apply Kd.R_drew)); exact (Kd.R_mono (Kd.R_far (p := ⟨gb623, 1, none⟩) (Kd.R_far (p := ⟨gb623, 0, none⟩) (Kd.R_types HO621.out BK623.out (by decide)) (fun _ hk => hk.2) (.int .i64 t618)) (fun _ hk => hk.2) (.slice Ao39 t619.length co39)) (fun _ h_ => h_.1))) hb); have n4_ := Aside0.mk (blk_below (g := gb601) (o := .cells #[.int .i64 a0_0, .slice A0_1 l0_1.length c0_1] 59 (0, 0)) (by (with_reducible repeat (first | refine blk_drewN ?_ _ | refine blk_drew ?_ | refine blk_alloc ?_ _)); refine blk_far ?_ NB601_623.out _; (with_reducible repeat (first | refine blk_drewN ?_ _ | refine blk_drew ?_ | refine blk_alloc ?_ _)); refine blk_far ?_ NB601_623.out _; (with_reducible repeat (first | refine blk_drewN ?_ _ | refine blk_drew ?_ | refine blk_alloc ?_ _)); exact BK601.out) hb); have n5_ := Aside0.mk (blk_below (g := gb612) (o := .cells #[.int .i64 t607, .slice Ao25 t608.length co25] 61 (0, 0)) (by (with_reducible repeat (first | refine blk_drewN ?_ _ | refine blk_drew ?_ | refine blk_alloc ?_ _)); refine blk_far ?_ NB612_623.out _; (with_reducible repeat (first | refine blk_drewN ?_ _ | refine blk_drew ?_ | refine blk_alloc ?_ _)); refine blk_far ?_ NB612_623.out _; (with_reducible repeat (first | refine blk_drewN ?_ _ | refine blk_drew ?_ | refine blk_alloc ?_ _)); exact BK612.out) hb); have n6_ := Aside0.mk (blk_below (g := gb617) (o := .cells #[.int .i64 t613, .slice Ao32 t614.length co32] 61 (0, 0)) (by (with_reducible repeat (first | refine blk_drewN ?_ _ | refine blk_drew ?_ | refine blk_alloc ?_ _)); refine blk_far ?_ NB617_623.out _; (with_reducible repeat (first | refine blk_drewN ?_ _ | refine blk_drew ?_ | refine blk_alloc ?_ _)); refine blk_far ?_ NB617_623.out _; (with_reducible repeat (first | refine blk_drewN ?_ _ | refine blk_drew ?_ | refine blk_alloc ?_ _)); exact BK617.out) hb); have n7_ := Aside0.mk (blk_below (g := gb623) (o := .cells #[.int .i64 t618, .slice Ao39 t619.length co39] 61 (0, 0)) (by (with_reducible repeat (first | refine blk_drewN ?_ _ | refine blk_drew ?_ | refine blk_alloc ?_ _)); refine blk_put (cs := #[.int .i64 t618, .slice none 0 0]) ?_ 1 _ rfl; (with_reducible repeat (first | refine blk_drewN ?_ _ | refine blk_drew ?_ | refine blk_alloc ?_ _)); refine blk_put (cs := #[.int .i64 0, .slice none 0 0]) ?_ 0 _ rfl; (with_reducible repeat (first | refine blk_drewN ?_ _ | refine blk_drew ?_ | refine blk_alloc ?_ _)); exact BK623.out) hb); have n8_ := Aside0.mk (below_step (by repeat (first | (with_reducible first | exact HB.out | apply below_alloc | apply pw_below_drewN | apply below_drew1 | refine below_set ?_ GE601.out | refine below_set ?_ GE612.out | refine below_set ?_ GE617.out | refine below_set ?_ GE623.out) | exact HB.out)) hb); clear HO606; clear HO610; clear HO616; clear HO621; clear BK601; clear BK612; clear BK617; clear BK623; clear HB; have HO606 := n0_; have HO610 := n1_; have HO616 := n2_; have HO621 := n3_; have BK601 := n4_; have BK612 := n5_; have BK617 := n6_; have BK623 := n7_; have HB := n8_; clear n0_ n1_ n2_ n3_ n4_ n5_ n6_ n7_ n8_; (try clear hb); (try clear hb2); (try clear hk); (try clear hi)))
          go_meet
          case rel => exact ⟨_, ((t622 != t611)), (by first | rfl | (simp; done) | (simp [*]; done)), H', ⟨by first | omega | exact Nat.le_refl _⟩, ⟨by (with_reducible repeat (first | apply Kd.R_alloc | apply Kd.R_drewN | apply Kd.R_drew)); exact Kd.R_mono HO610.out (fun _ hk => ⟨hk.1.2, hk.2⟩)⟩, ⟨by (with_reducible repeat (first | apply Kd.R_alloc | apply Kd.R_drewN | apply Kd.R_drew)); exact Kd.R_mono HO616.out (fun _ hk => ⟨hk.1.2, hk.2⟩)⟩, ⟨by (with_reducible repeat (first | apply Kd.R_alloc | apply Kd.R_drewN | apply Kd.R_drew)); exact Kd.R_mono HO621.out (fun _ hk => ⟨hk.1.2, hk.2⟩)⟩, ⟨by (with_reducible repeat (first | refine blk_drewN ?_ _ | refine blk_drew ?_ | refine blk_alloc ?_ _)); exact BK601.out⟩, ⟨by (with_reducible repeat (first | refine blk_drewN ?_ _ | refine blk_drew ?_ | refine blk_alloc ?_ _)); exact BK612.out⟩, ⟨by (with_reducible repeat (first | refine blk_drewN ?_ _ | refine blk_drew ?_ | refine blk_alloc ?_ _)); exact BK617.out⟩, ⟨by (with_reducible repeat (first | refine blk_drewN ?_ _ | refine blk_drew ?_ | refine blk_alloc ?_ _)); exact BK623.out⟩, ⟨by repeat (first | (with_reducible first | exact HB.out | apply below_alloc | apply pw_below_drewN | apply below_drew1 | refine below_set ?_ GE601.out | refine below_set ?_ GE612.out | refine below_set ?_ GE617.out | refine below_set ?_ GE623.out) | exact HB.out)⟩⟩
        · replace c41 := Bool.eq_false_iff.mpr c41
          subst c41
          have H1 : (laws_FnExactEdgeAdd.j0 k a1 t611 t622 true a0_0 l0_1 t607 t608 t613 t614 t618 t619) = some r := by rw [if_neg (show ¬ (false = true) by decide)] at H; exact H
          clear H
          have H := H1
          clear H1
          have H' := Aside0.mk H
          clear H
          have hnb50 := NB623_601.out
          have hnc50 := NB601_623.out
          have hnb51 := NB623_612.out
          have hnc51 := NB612_623.out
          have hnb52 := NB623_617.out
          have hnc52 := NB617_623.out
          have hcz53_0 : w34.cell? ⟨gb623, 0, none⟩ = some (.int .i64 0) := (blk_cell BK623.out 0).trans rfl
          have hcz53_1 : w34.cell? ⟨gb623, 1, none⟩ = some (.slice none 0 0) := (blk_cell BK623.out 1).trans rfl
          have hfz53_0 := blk_frozen BK623.out 0
          have hfz53_1 := blk_frozen BK623.out 1
          have hnb54 := NB612_601.out
          have hnc54 := NB601_612.out
          have hnb55 := NB612_617.out
          have hnc55 := NB617_612.out
          have hcz56_0 : w34.cell? ⟨gb612, 0, none⟩ = some (.int .i64 t607) := (blk_cell BK612.out 0).trans rfl
          have hcz56_1 : w34.cell? ⟨gb612, 1, none⟩ = some (.slice Ao25 t608.length co25) := (blk_cell BK612.out 1).trans rfl
          have hfz56_0 := blk_frozen BK612.out 0
          have hfz56_1 := blk_frozen BK612.out 1
          go_wp2_with (first | ((with_reducible refine gate_callee (f := 48) rfl ?_); refine goesL_ (some 41) rfl rfl Try.func48 (by kernel_rfl) rfl #[.agg #[.int .i64 t618, .slice Ao39 t619.length co39], .agg #[.int .i64 t607, .slice Ao25 t608.length co25]] rfl (by (try simp only [List.map_toArray, List.map_cons, List.map_nil]); first | done | rfl | (simp only [List.length_drop, List.length_take]; rfl)) ?_; (with_reducible refine (laws_eqEdge.calls k t618 _ _ t619 t607 _ _ t608 false _ ?side1 ?side2 ?side3 ?side4 A40.out).mono ?_); (case side1 => refine (Kd.R_reads' (e := 9) (base := w.heap.size) (ok := fun k_ => (((True ∧ some k_ ≠ (.slice Ao20 t604.length co20 : Value).ownBlock) ∧ some k_ ≠ (.slice Ao25 t608.length co25 : Value).ownBlock) ∧ some k_ ≠ (.slice Ao32 t614.length co32 : Value).ownBlock)) (n := t619.length) (c := co39) ?_).2.2; exact (by (with_reducible repeat (first | apply Kd.R_alloc | apply Kd.R_drewN | apply Kd.R_drew)); exact (Kd.R_mono (Kd.R_far (p := ⟨gb623, 1, none⟩) (Kd.R_far (p := ⟨gb623, 0, none⟩) (Kd.R_types HO621.out BK623.out (by decide)) (fun _ hk => hk.2) (.int .i64 t618)) (fun _ hk => hk.2) (.slice Ao39 t619.length co39)) (fun _ h_ => h_.1)))); (case side2 => exact (Kd.R_reads' HO621.out).2.1); (case side3 => refine (Kd.R_reads' (e := 9) (base := w.heap.size) (ok := fun k_ => (((True ∧ some k_ ≠ (.slice Ao20 t604.length co20 : Value).ownBlock) ∧ some k_ ≠ (.slice Ao32 t614.length co32 : Value).ownBlock) ∧ some k_ ≠ (.slice Ao39 t619.length co39 : Value).ownBlock)) (n := t608.length) (c := co25) ?_).2.2; exact (by (with_reducible repeat (first | apply Kd.R_alloc | apply Kd.R_drewN | apply Kd.R_drew)); exact (Kd.R_mono (Kd.R_far (p := ⟨gb623, 1, none⟩) (Kd.R_far (p := ⟨gb623, 0, none⟩) (Kd.R_types HO610.out BK623.out (by decide)) (fun _ hk => hk.2) (.int .i64 t618)) (fun _ hk => hk.2) (.slice Ao39 t619.length co39)) (fun _ h_ => h_.1)))); (case side4 => exact (Kd.R_reads' HO610.out).2.1); rintro e w57 ⟨rfl, hb⟩; refine ⟨_, rfl, ?_⟩; have n0_ := Aside0.mk (Kd.R_below (by (with_reducible repeat (first | apply Kd.R_alloc | apply Kd.R_drewN | apply Kd.R_drew)); exact (Kd.R_mono (Kd.R_far (p := ⟨gb623, 1, none⟩) (Kd.R_far (p := ⟨gb623, 0, none⟩) (Kd.R_types HO606.out BK623.out (by decide)) (fun _ hk => hk.2) (.int .i64 t618)) (fun _ hk => hk.2) (.slice Ao39 t619.length co39)) (fun _ h_ => h_.1))) hb); have n1_ := Aside0.mk (Kd.R_below (by (with_reducible repeat (first | apply Kd.R_alloc | apply Kd.R_drewN | apply Kd.R_drew)); exact (Kd.R_mono (Kd.R_far (p := ⟨gb623, 1, none⟩) (Kd.R_far (p := ⟨gb623, 0, none⟩) (Kd.R_types HO610.out BK623.out (by decide)) (fun _ hk => hk.2) (.int .i64 t618)) (fun _ hk => hk.2) (.slice Ao39 t619.length co39)) (fun _ h_ => h_.1))) hb); have n2_ := Aside0.mk (Kd.R_below (by (with_reducible repeat (first | apply Kd.R_alloc | apply Kd.R_drewN | apply Kd.R_drew)); exact (Kd.R_mono (Kd.R_far (p := ⟨gb623, 1, none⟩) (Kd.R_far (p := ⟨gb623, 0, none⟩) (Kd.R_types HO616.out BK623.out (by decide)) (fun _ hk => hk.2) (.int .i64 t618)) (fun _ hk => hk.2) (.slice Ao39 t619.length co39)) (fun _ h_ => h_.1))) hb); have n3_ := Aside0.mk (Kd.R_below (by (with_reducible repeat (first | apply Kd.R_alloc | apply Kd.R_drewN | apply Kd.R_drew)); exact (Kd.R_mono (Kd.R_far (p := ⟨gb623, 1, none⟩) (Kd.R_far (p := ⟨gb623, 0, none⟩) (Kd.R_types HO621.out BK623.out (by decide)) (fun _ hk => hk.2) (.int .i64 t618)) (fun _ hk => hk.2) (.slice Ao39 t619.length co39)) (fun _ h_ => h_.1))) hb); have n4_ := Aside0.mk (blk_below (g := gb601) (o := .cells #[.int .i64 a0_0, .slice A0_1 l0_1.length c0_1] 59 (0, 0)) (by (with_reducible repeat (first | refine blk_drewN ?_ _ | refine blk_drew ?_ | refine blk_alloc ?_ _)); refine blk_far ?_ NB601_623.out _; (with_reducible repeat (first | refine blk_drewN ?_ _ | refine blk_drew ?_ | refine blk_alloc ?_ _)); refine blk_far ?_ NB601_623.out _; (with_reducible repeat (first | refine blk_drewN ?_ _ | refine blk_drew ?_ | refine blk_alloc ?_ _)); exact BK601.out) hb); have n5_ := Aside0.mk (blk_below (g := gb612) (o := .cells #[.int .i64 t607, .slice Ao25 t608.length co25] 61 (0, 0)) (by (with_reducible repeat (first | refine blk_drewN ?_ _ | refine blk_drew ?_ | refine blk_alloc ?_ _)); refine blk_far ?_ NB612_623.out _; (with_reducible repeat (first | refine blk_drewN ?_ _ | refine blk_drew ?_ | refine blk_alloc ?_ _)); refine blk_far ?_ NB612_623.out _; (with_reducible repeat (first | refine blk_drewN ?_ _ | refine blk_drew ?_ | refine blk_alloc ?_ _)); exact BK612.out) hb); have n6_ := Aside0.mk (blk_below (g := gb617) (o := .cells #[.int .i64 t613, .slice Ao32 t614.length co32] 61 (0, 0)) (by (with_reducible repeat (first | refine blk_drewN ?_ _ | refine blk_drew ?_ | refine blk_alloc ?_ _)); refine blk_far ?_ NB617_623.out _; (with_reducible repeat (first | refine blk_drewN ?_ _ | refine blk_drew ?_ | refine blk_alloc ?_ _)); refine blk_far ?_ NB617_623.out _; (with_reducible repeat (first | refine blk_drewN ?_ _ | refine blk_drew ?_ | refine blk_alloc ?_ _)); exact BK617.out) hb); have n7_ := Aside0.mk (blk_below (g := gb623) (o := .cells #[.int .i64 t618, .slice Ao39 t619.length co39] 61 (0, 0)) (by (with_reducible repeat (first | refine blk_drewN ?_ _ | refine blk_drew ?_ | refine blk_alloc ?_ _)); refine blk_put (cs := #[.int .i64 t618, .slice none 0 0]) ?_ 1 _ rfl; (with_reducible repeat (first | refine blk_drewN ?_ _ | refine blk_drew ?_ | refine blk_alloc ?_ _)); refine blk_put (cs := #[.int .i64 0, .slice none 0 0]) ?_ 0 _ rfl; (with_reducible repeat (first | refine blk_drewN ?_ _ | refine blk_drew ?_ | refine blk_alloc ?_ _)); exact BK623.out) hb); have n8_ := Aside0.mk (below_step (by repeat (first | (with_reducible first | exact HB.out | apply below_alloc | apply pw_below_drewN | apply below_drew1 | refine below_set ?_ GE601.out | refine below_set ?_ GE612.out | refine below_set ?_ GE617.out | refine below_set ?_ GE623.out) | exact HB.out)) hb); clear HO606; clear HO610; clear HO616; clear HO621; clear BK601; clear BK612; clear BK617; clear BK623; clear HB; have HO606 := n0_; have HO610 := n1_; have HO616 := n2_; have HO621 := n3_; have BK601 := n4_; have BK612 := n5_; have BK617 := n6_; have BK623 := n7_; have HB := n8_; clear n0_ n1_ n2_ n3_ n4_ n5_ n6_ n7_ n8_; (try clear hb); (try clear hb2); (try clear hk); (try clear hi)))
          go_meet
          case rel => exact ⟨_, (true), (by first | rfl | (simp; done) | (simp [*]; done)), H', ⟨by first | omega | exact Nat.le_refl _⟩, ⟨by (with_reducible repeat (first | apply Kd.R_alloc | apply Kd.R_drewN | apply Kd.R_drew)); exact Kd.R_mono HO610.out (fun _ hk => ⟨hk.1.2, hk.2⟩)⟩, ⟨by (with_reducible repeat (first | apply Kd.R_alloc | apply Kd.R_drewN | apply Kd.R_drew)); exact Kd.R_mono HO616.out (fun _ hk => ⟨hk.1.2, hk.2⟩)⟩, ⟨by (with_reducible repeat (first | apply Kd.R_alloc | apply Kd.R_drewN | apply Kd.R_drew)); exact Kd.R_mono HO621.out (fun _ hk => ⟨hk.1.2, hk.2⟩)⟩, ⟨by (with_reducible repeat (first | refine blk_drewN ?_ _ | refine blk_drew ?_ | refine blk_alloc ?_ _)); exact BK601.out⟩, ⟨by (with_reducible repeat (first | refine blk_drewN ?_ _ | refine blk_drew ?_ | refine blk_alloc ?_ _)); exact BK612.out⟩, ⟨by (with_reducible repeat (first | refine blk_drewN ?_ _ | refine blk_drew ?_ | refine blk_alloc ?_ _)); exact BK617.out⟩, ⟨by (with_reducible repeat (first | refine blk_drewN ?_ _ | refine blk_drew ?_ | refine blk_alloc ?_ _)); exact BK623.out⟩, ⟨by repeat (first | (with_reducible first | exact HB.out | apply below_alloc | apply pw_below_drewN | apply below_drew1 | refine below_set ?_ GE601.out | refine below_set ?_ GE612.out | refine below_set ?_ GE617.out | refine below_set ?_ GE623.out) | exact HB.out)⟩⟩
      case rest =>
        clear HC14
        try clear c2
        try clear p2
        try clear c3
        try clear c3b0
        try clear c3b1
        try clear c4
        try clear c5
        try clear c6
        try clear c6b0
        try clear c7
        try clear c23
        try clear c29
        try clear c30
        try clear c35
        try clear c36
        try clear c37
        try clear c41
        try clear c42
        try clear c43
        try clear c44
        try clear c45
        try clear c46
        try clear c47
        try clear c48
        try clear c50
        try clear c51
        try clear c52
        try clear c54
        try clear c55
        try clear hcz16_0
        try clear hcz16_1
        try clear hcz18_0
        try clear hcz18_1
        try clear hcz24_0
        try clear hcz24_1
        try clear hcz26_0
        try clear hcz26_1
        try clear hcz31_0
        try clear hcz31_1
        try clear hcz38_0
        try clear hcz38_1
        try clear hcz45_0
        try clear hcz45_1
        try clear hcz48_0
        try clear hcz48_1
        try clear hcz53_0
        try clear hcz53_1
        try clear hcz56_0
        try clear hcz56_1
        try clear hcz8_0
        try clear hcz8_1
        try clear hfz16_0
        try clear hfz16_1
        try clear hfz18_0
        try clear hfz18_1
        try clear hfz24_0
        try clear hfz24_1
        try clear hfz26_0
        try clear hfz26_1
        try clear hfz31_0
        try clear hfz31_1
        try clear hfz38_0
        try clear hfz38_1
        try clear hfz45_0
        try clear hfz45_1
        try clear hfz48_0
        try clear hfz48_1
        try clear hfz53_0
        try clear hfz53_1
        try clear hfz56_0
        try clear hfz56_1
        try clear hfz8_0
        try clear hfz8_1
        obtain ⟨kq, x47_13, rfl, HA, HJ13, HO_613001, HO_618001, HO_624001, BK601, BK612, BK617, BK623, HB⟩ := hcut
        cases kq with
        | zero => exact absurd HA.out (by simp [laws_FnExactEdgeAdd.j0])
        | succ kj13 =>
          have H := HA.out
          clear HA
          simp only [laws_FnExactEdgeAdd.j0] at H
          by_cases c58 : x47_13 = true
          · subst c58
            have H1 : (none) = some r := by rw [if_pos rfl] at H; exact H
            clear H
            have H := H1
            clear H1
            exact absurd H (by simp)
          · replace c58 := Bool.eq_false_iff.mpr c58
            subst c58
            have H1 : ((laws_toEdge.f kj13 a0_0 l0_1).bind fun bt625 => ((laws_eqEdge.f kj13 t613 t614 bt625.1 bt625.2).bind fun t629 => (if t629 = true then ((laws_markEdge.f kj13 t613 t614 1).bind fun bt630 => (if bt630.1 < 0 then (laws_FnExactEdgeAdd.j1 kj13 a1 t611 true a0_0 l0_1 t607 t608 t618 t619) else ((laws_eqEdge.f kj13 t618 t619 t607 t608).bind fun t632 => (if t632 = true then (laws_FnExactEdgeAdd.j1 kj13 a1 t611 (t622 != t611) a0_0 l0_1 t607 t608 t618 t619) else (laws_FnExactEdgeAdd.j1 kj13 a1 t611 true a0_0 l0_1 t607 t608 t618 t619))))) else (none)))) = some r := by rw [if_neg (show ¬ (false = true) by decide)] at H; exact H
            clear H
            have H := H1
            clear H1
            replace H := Option.bind_eq_some_iff.mp H
            obtain ⟨⟨t625, t626⟩, A590, H⟩ := H
            replace H : ((laws_eqEdge.f kj13 t613 t614 t625 t626).bind fun t629 => (if t629 = true then ((laws_markEdge.f kj13 t613 t614 1).bind fun bt630 => (if bt630.1 < 0 then (laws_FnExactEdgeAdd.j1 kj13 a1 t611 true a0_0 l0_1 t607 t608 t618 t619) else ((laws_eqEdge.f kj13 t618 t619 t607 t608).bind fun t632 => (if t632 = true then (laws_FnExactEdgeAdd.j1 kj13 a1 t611 (t622 != t611) a0_0 l0_1 t607 t608 t618 t619) else (laws_FnExactEdgeAdd.j1 kj13 a1 t611 true a0_0 l0_1 t607 t608 t618 t619))))) else (none))) = some r := H
            have A59 := Aside0.mk A590
            clear A590
            replace H := Option.bind_eq_some_iff.mp H
            obtain ⟨t629, A600, H⟩ := H
            replace H : (if t629 = true then ((laws_markEdge.f kj13 t613 t614 1).bind fun bt630 => (if bt630.1 < 0 then (laws_FnExactEdgeAdd.j1 kj13 a1 t611 true a0_0 l0_1 t607 t608 t618 t619) else ((laws_eqEdge.f kj13 t618 t619 t607 t608).bind fun t632 => (if t632 = true then (laws_FnExactEdgeAdd.j1 kj13 a1 t611 (t622 != t611) a0_0 l0_1 t607 t608 t618 t619) else (laws_FnExactEdgeAdd.j1 kj13 a1 t611 true a0_0 l0_1 t607 t608 t618 t619))))) else (none)) = some r := H
            have A60 := Aside0.mk A600
            clear A600
            by_cases c61 : t629 = true
            · subst c61
              have H1 : ((laws_markEdge.f kj13 t613 t614 1).bind fun bt630 => (if bt630.1 < 0 then (laws_FnExactEdgeAdd.j1 kj13 a1 t611 true a0_0 l0_1 t607 t608 t618 t619) else ((laws_eqEdge.f kj13 t618 t619 t607 t608).bind fun t632 => (if t632 = true then (laws_FnExactEdgeAdd.j1 kj13 a1 t611 (t622 != t611) a0_0 l0_1 t607 t608 t618 t619) else (laws_FnExactEdgeAdd.j1 kj13 a1 t611 true a0_0 l0_1 t607 t608 t618 t619))))) = some r := by rw [if_pos rfl] at H; exact H
              clear H
              have H := H1
              clear H1
              replace H := Option.bind_eq_some_iff.mp H
              obtain ⟨⟨t630, t631⟩, A620, H⟩ := H
              replace H : (if t630 < 0 then (laws_FnExactEdgeAdd.j1 kj13 a1 t611 true a0_0 l0_1 t607 t608 t618 t619) else ((laws_eqEdge.f kj13 t618 t619 t607 t608).bind fun t632 => (if t632 = true then (laws_FnExactEdgeAdd.j1 kj13 a1 t611 (t622 != t611) a0_0 l0_1 t607 t608 t618 t619) else (laws_FnExactEdgeAdd.j1 kj13 a1 t611 true a0_0 l0_1 t607 t608 t618 t619)))) = some r := H
              have A62 := Aside0.mk A620
              clear A620
              have HC63 := Aside0.mk H
              clear H
              try go_wp2
              have n0_ := Aside0.mk (Kd.R_drew HO_613001.out)
              have n1_ := Aside0.mk (Kd.R_drew HO_618001.out)
              have n2_ := Aside0.mk (Kd.R_drew HO_624001.out)
              have n3_ := Aside0.mk (blk_drew BK601.out)
              have n4_ := Aside0.mk (blk_drew BK612.out)
              have n5_ := Aside0.mk (blk_drew BK617.out)
              have n6_ := Aside0.mk (blk_drew BK623.out)
              have n7_ := Aside0.mk (below_drew1 HB.out)
              clear HO_613001
              clear HO_618001
              clear HO_624001
              clear BK601
              clear BK612
              clear BK617
              clear BK623
              clear HB
              have HO_613001 := n0_
              have HO_618001 := n1_
              have HO_624001 := n2_
              have BK601 := n3_
              have BK612 := n4_
              have BK617 := n5_
              have BK623 := n6_
              have HB := n7_
              clear n0_ n1_ n2_ n3_ n4_ n5_ n6_ n7_
              refine start_ (n := 5) (S := fun w' => w'.cell? ⟨gb617, 0, none⟩ = some (.int .i64 t613) ∧ w'.cell? ⟨gb617, 1, none⟩ = some (.slice Ao32 t614.length co32) ∧ w'.cell? ⟨gb601, 0, none⟩ = some (.int .i64 a0_0) ∧ w'.cell? ⟨gb601, 1, none⟩ = some (.slice A0_1 l0_1.length c0_1)) (ds := []) #[false, false, false, false, false] (by kernel_rfl) rfl rfl ⟨(blk_cell BK617.out 0).trans rfl, (blk_cell BK617.out 1).trans rfl, (blk_cell BK601.out 0).trans rfl, (blk_cell BK601.out 1).trans rfl⟩ (fun hHeld => ?_)
              generalize wc.drew = w64 at HO_613001 HO_618001 HO_624001 BK601 BK612 BK617 BK623 HB hHeld ⊢
              refine take_ (i := 0) (N := some 48) (v := ?_) (a' := ?_) #[true, false, false, false, false] rfl rfl (by kernel_rfl) (fun _ _ _ h => h) (Or.inl ⟨by rfl, ?_⟩) hHeld ?_ ?_
              rotate_left
              · rintro w' ⟨s0, s1, s2, s3⟩
                go_simp
                with_reducible rfl
              rotate_left
              · simp only [Act.put, List.setIfInBounds_toArray, List.set_cons_zero, List.set_cons_succ, i64_w, i32_w]
                rfl
              refine take_ (i := 1) (N := some 49) (v := ?_) (a' := ?_) #[true, true, false, false, false] rfl rfl (by kernel_rfl) (fun _ _ _ h => h) (Or.inl ⟨by rfl, ?_⟩) hHeld ?_ ?_
              rotate_left
              · rintro w' ⟨s0, s1, s2, s3⟩
                go_simp
                with_reducible rfl
              rotate_left
              · simp only [Act.put, List.setIfInBounds_toArray, List.set_cons_zero, List.set_cons_succ, i64_w, i32_w]
                rfl
              refine one_ (i := 2) (N := some 50) #[true, true, true, false, false] rfl rfl (by kernel_rfl) (by decide) (fun K hK => ?_)
              refine goes_ Try.func46 (by kernel_rfl) rfl #[.agg #[.int .i64 a0_0, .slice A0_1 l0_1.length c0_1]] (by rfl) rfl rfl (by (try simp only [List.map_toArray, List.map_cons, List.map_nil]); first | done | rfl | (simp only [List.length_drop, List.length_take]; rfl)) ?_
              with_reducible refine (laws_toEdge.calls kj13 a0_0 _ _ l0_1 t625 t626 _ ?side1 ?side2 A59.out).mono ?_
              (case side1 => repeat (first | exact (Kd.C_below HR0_1.out HB.out) | (with_reducible refine Kd.C_alloc ?_ _) | (with_reducible refine Kd.C_drewN ?_ _) | (with_reducible refine Kd.C_drew ?_)))
              (case side2 => exact HC0_1.out)
              rintro e w65 ⟨v627, rfl, ho0, hb⟩
              refine ⟨_, rfl, ?_⟩
              have n0_ := Aside0.mk (Kd.R_elder' (by (with_reducible repeat (first | apply Kd.R_alloc | apply Kd.R_drewN | apply Kd.R_drew)); exact HO_613001.out) (Kd.R_base ho0) hb)
              have n1_ := Aside0.mk (Kd.R_elder' (by (with_reducible repeat (first | apply Kd.R_alloc | apply Kd.R_drewN | apply Kd.R_drew)); exact HO_618001.out) (Kd.R_base ho0) hb)
              have n2_ := Aside0.mk (Kd.R_elder' (by (with_reducible repeat (first | apply Kd.R_alloc | apply Kd.R_drewN | apply Kd.R_drew)); exact HO_624001.out) (Kd.R_base ho0) hb)
              have n3_ := Aside0.mk (Kd.R_lower (Kd.R_new' (Kd.R_new' (Kd.R_new' ho0 (Kd.R_lt (by (with_reducible repeat (first | apply Kd.R_alloc | apply Kd.R_drewN | apply Kd.R_drew)); exact HO_613001.out))) (Kd.R_lt (by (with_reducible repeat (first | apply Kd.R_alloc | apply Kd.R_drewN | apply Kd.R_drew)); exact HO_618001.out))) (Kd.R_lt (by (with_reducible repeat (first | apply Kd.R_alloc | apply Kd.R_drewN | apply Kd.R_drew)); exact HO_624001.out))) (below_size (by repeat (first | (with_reducible first | exact HB.out | apply below_alloc | apply pw_below_drewN | apply below_drew1 | refine below_set ?_ GE601.out | refine below_set ?_ GE612.out | refine below_set ?_ GE617.out | refine below_set ?_ GE623.out) | exact HB.out))))
              have n4_ := Aside0.mk (blk_below (g := gb601) (o := .cells #[.int .i64 a0_0, .slice A0_1 l0_1.length c0_1] 59 (0, 0)) (by (with_reducible repeat (first | refine blk_drewN ?_ _ | refine blk_drew ?_ | refine blk_alloc ?_ _)); exact BK601.out) hb)
              have n5_ := Aside0.mk (blk_below (g := gb612) (o := .cells #[.int .i64 t607, .slice Ao25 t608.length co25] 61 (0, 0)) (by (with_reducible repeat (first | refine blk_drewN ?_ _ | refine blk_drew ?_ | refine blk_alloc ?_ _)); exact BK612.out) hb)
              have n6_ := Aside0.mk (blk_below (g := gb617) (o := .cells #[.int .i64 t613, .slice Ao32 t614.length co32] 61 (0, 0)) (by (with_reducible repeat (first | refine blk_drewN ?_ _ | refine blk_drew ?_ | refine blk_alloc ?_ _)); exact BK617.out) hb)
              have n7_ := Aside0.mk (blk_below (g := gb623) (o := .cells #[.int .i64 t618, .slice Ao39 t619.length co39] 61 (0, 0)) (by (with_reducible repeat (first | refine blk_drewN ?_ _ | refine blk_drew ?_ | refine blk_alloc ?_ _)); exact BK623.out) hb)
              have n8_ := Aside0.mk (below_step (by repeat (first | (with_reducible first | exact HB.out | apply below_alloc | apply pw_below_drewN | apply below_drew1 | refine below_set ?_ GE601.out | refine below_set ?_ GE612.out | refine below_set ?_ GE617.out | refine below_set ?_ GE623.out) | exact HB.out)) hb)
              clear HO_613001
              clear HO_618001
              clear HO_624001
              clear BK601
              clear BK612
              clear BK617
              clear BK623
              clear HB
              have HO_613001 := n0_
              have HO_618001 := n1_
              have HO_624001 := n2_
              have HO628 := n3_
              have BK601 := n4_
              have BK612 := n5_
              have BK617 := n6_
              have BK623 := n7_
              have HB := n8_
              clear n0_ n1_ n2_ n3_ n4_ n5_ n6_ n7_ n8_
              (try clear hb)
              (try clear hb2)
              (try clear hk)
              (try clear hi)
              (try clear ho0)
              obtain ⟨Ao66, co66, eo66⟩ := Kd.R_slice HO628.out
              (first | subst eo66 | (injection eo66 with f1_ f2_ f3_; have f4_ := f1_.symm; have f5_ := f3_.symm; clear f1_ f2_ f3_; subst f4_; subst f5_))
              refine hK.out _ _ ⟨(blk_cell BK617.out 0).trans rfl, (blk_cell BK617.out 1).trans rfl, (blk_cell BK601.out 0).trans rfl, (blk_cell BK601.out 1).trans rfl⟩ (fun hHeld => ?_)
              clear hK K
              refine norm_ (a' := ?_) ?_ ?_
              rotate_left
              · show Act.put _ (some 50) _ = _
                simp only [Act.put, List.setIfInBounds_toArray, List.set_cons_zero, List.set_cons_succ, i64_w, i32_w]
                rfl
              refine one_ (i := 3) (N := some 51) #[true, true, true, true, false] rfl rfl (by kernel_rfl) (by decide) (fun K hK => ?_)
              refine goes_ Try.func48 (by kernel_rfl) rfl #[.agg #[.int .i64 t613, .slice Ao32 t614.length co32], .agg #[.int .i64 t625, .slice Ao66 t626.length co66]] (by rfl) rfl rfl (by (try simp only [List.map_toArray, List.map_cons, List.map_nil]); first | done | rfl | (simp only [List.length_drop, List.length_take]; rfl)) ?_
              with_reducible refine (laws_eqEdge.calls kj13 t613 _ _ t614 t625 _ _ t626 true _ ?side1 ?side2 ?side3 ?side4 A60.out).mono ?_
              (case side1 => repeat (first | exact (Kd.R_reads' HO_618001.out).2.2 | (with_reducible refine Kd.C_alloc ?_ _) | (with_reducible refine Kd.C_drewN ?_ _) | (with_reducible refine Kd.C_drew ?_)))
              (case side2 => exact (Kd.R_reads' HO_618001.out).2.1)
              (case side3 => repeat (first | exact (Kd.R_reads' HO628.out).2.2 | (with_reducible refine Kd.C_alloc ?_ _) | (with_reducible refine Kd.C_drewN ?_ _) | (with_reducible refine Kd.C_drew ?_)))
              (case side4 => exact (Kd.R_reads' HO628.out).2.1)
              rintro e w67 ⟨rfl, hb⟩
              refine ⟨_, rfl, ?_⟩
              have n0_ := Aside0.mk (Kd.R_below (by (with_reducible repeat (first | apply Kd.R_alloc | apply Kd.R_drewN | apply Kd.R_drew)); exact HO_613001.out) hb)
              have n1_ := Aside0.mk (Kd.R_below (by (with_reducible repeat (first | apply Kd.R_alloc | apply Kd.R_drewN | apply Kd.R_drew)); exact HO_618001.out) hb)
              have n2_ := Aside0.mk (Kd.R_below (by (with_reducible repeat (first | apply Kd.R_alloc | apply Kd.R_drewN | apply Kd.R_drew)); exact HO_624001.out) hb)
              have n3_ := Aside0.mk (Kd.R_below (by (with_reducible repeat (first | apply Kd.R_alloc | apply Kd.R_drewN | apply Kd.R_drew)); exact HO628.out) hb)
              have n4_ := Aside0.mk (blk_below (g := gb601) (o := .cells #[.int .i64 a0_0, .slice A0_1 l0_1.length c0_1] 59 (0, 0)) (by (with_reducible repeat (first | refine blk_drewN ?_ _ | refine blk_drew ?_ | refine blk_alloc ?_ _)); exact BK601.out) hb)
              have n5_ := Aside0.mk (blk_below (g := gb612) (o := .cells #[.int .i64 t607, .slice Ao25 t608.length co25] 61 (0, 0)) (by (with_reducible repeat (first | refine blk_drewN ?_ _ | refine blk_drew ?_ | refine blk_alloc ?_ _)); exact BK612.out) hb)
              have n6_ := Aside0.mk (blk_below (g := gb617) (o := .cells #[.int .i64 t613, .slice Ao32 t614.length co32] 61 (0, 0)) (by (with_reducible repeat (first | refine blk_drewN ?_ _ | refine blk_drew ?_ | refine blk_alloc ?_ _)); exact BK617.out) hb)
              have n7_ := Aside0.mk (blk_below (g := gb623) (o := .cells #[.int .i64 t618, .slice Ao39 t619.length co39] 61 (0, 0)) (by (with_reducible repeat (first | refine blk_drewN ?_ _ | refine blk_drew ?_ | refine blk_alloc ?_ _)); exact BK623.out) hb)
              have n8_ := Aside0.mk (below_step (by repeat (first | (with_reducible first | exact HB.out | apply below_alloc | apply pw_below_drewN | apply below_drew1 | refine below_set ?_ GE601.out | refine below_set ?_ GE612.out | refine below_set ?_ GE617.out | refine below_set ?_ GE623.out) | exact HB.out)) hb)
              clear HO_613001
              clear HO_618001
              clear HO_624001
              clear HO628
              clear BK601
              clear BK612
              clear BK617
              clear BK623
              clear HB
              have HO_613001 := n0_
              have HO_618001 := n1_
              have HO_624001 := n2_
              have HO628 := n3_
              have BK601 := n4_
              have BK612 := n5_
              have BK617 := n6_
              have BK623 := n7_
              have HB := n8_
              clear n0_ n1_ n2_ n3_ n4_ n5_ n6_ n7_ n8_
              (try clear hb)
              (try clear hb2)
              (try clear hk)
              (try clear hi)
              refine hK.out _ _ ⟨(blk_cell BK617.out 0).trans rfl, (blk_cell BK617.out 1).trans rfl, (blk_cell BK601.out 0).trans rfl, (blk_cell BK601.out 1).trans rfl⟩ (fun hHeld => ?_)
              clear hK K
              refine norm_ (a' := ?_) ?_ ?_
              rotate_left
              · show Act.put _ (some 51) _ = _
                simp only [Act.put, List.setIfInBounds_toArray, List.set_cons_zero, List.set_cons_succ, i64_w, i32_w]
                rfl
              refine pure_ (i := 4) (N := some 52) (v := ?_) (a' := ?_) #[true, true, true, true, true] rfl rfl (by kernel_rfl) (fun _ _ _ h => h) (Or.inl ⟨by rfl, ?_⟩) ?_ ?_
              rotate_left
              · intro w'
                go_simp
                with_reducible rfl
              rotate_left
              · simp only [Act.put, List.setIfInBounds_toArray, List.set_cons_zero, List.set_cons_succ, i64_w, i32_w]
                rfl
              refine done_ (by kernel_rfl) ?_
              have hnb68 := NB617_601.out
              have hnc68 := NB601_617.out
              have hnb69 := NB617_612.out
              have hnc69 := NB612_617.out
              have hnb70 := NB617_623.out
              have hnc70 := NB623_617.out
              have hcz71_0 : w67.cell? ⟨gb617, 0, none⟩ = some (.int .i64 t613) := (blk_cell BK617.out 0).trans rfl
              have hcz71_1 : w67.cell? ⟨gb617, 1, none⟩ = some (.slice Ao32 t614.length co32) := (blk_cell BK617.out 1).trans rfl
              have hfz71_0 := blk_frozen BK617.out 0
              have hfz71_1 := blk_frozen BK617.out 1
              go_upto_region 16 with (first | ((with_reducible refine gate_callee (f := 49) rfl ?_); refine goesL_ (some 55) rfl rfl Try.func49 (by kernel_rfl) rfl #[.agg #[.int .i64 t613, .slice Ao32 t614.length co32], .int .i64 1] rfl (by (try simp only [List.map_toArray, List.map_cons, List.map_nil]); first | done | rfl | (simp only [List.length_drop, List.length_take]; rfl)) ?_; (with_reducible refine (laws_markEdge.calls kj13 t613 (fun k_ => some k_ = (.slice Ao32 t614.length co32 : Value).ownBlock) (.slice Ao32 t614.length co32) t614 1 t630 t631 w _ ?side1 ?side2 A62.out).mono ?_); (case side1 => repeat (first | (with_reducible first | exact HB.out | apply below_alloc | apply pw_below_drewN | apply below_drew1 | refine below_set ?_ GE601.out | refine below_set ?_ GE612.out | refine below_set ?_ GE617.out | refine below_set ?_ GE623.out) | exact HB.out)); (case side2 => exact Kd.R_tight rfl HO_618001.out); rintro e w72 ⟨rfl, hy0, hb, hkp⟩; refine ⟨_, rfl, ?_⟩; have n0_ := Aside0.mk (Kd.R_mono (ok' := fun k_ => some k_ ≠ (.slice Ao32 t614.length co32 : Value).ownBlock ∧ some k_ ≠ (.slice Ao39 t619.length co39 : Value).ownBlock ∧ some k_ ≠ (.slice Ao66 t626.length co66 : Value).ownBlock) (Kd.R_keptB (HO_613001.out) hkp (fun k_ hk_ hs_ => (hk_.1.1) hs_)) (fun k_ hk_ => ⟨hk_.1.1.1, hk_.1.1.2, hk_.1.2⟩)); have n1_ := Aside0.mk (Kd.R_reok rfl hy0 (fun k_ e_ => HO_618001.out.1 k_ e_)); have n2_ := Aside0.mk (Kd.R_mono (ok' := fun k_ => some k_ ≠ (.slice Ao25 t608.length co25 : Value).ownBlock ∧ some k_ ≠ (.slice Ao32 t614.length co32 : Value).ownBlock ∧ some k_ ≠ (.slice Ao66 t626.length co66 : Value).ownBlock) (Kd.R_keptB (HO_624001.out) hkp (fun k_ hk_ hs_ => (hk_.1.2) hs_)) (fun k_ hk_ => ⟨hk_.1.1.1, hk_.1.1.2, hk_.1.2⟩)); have n3_ := Aside0.mk (blk_kept (by (with_reducible repeat (first | refine blk_drewN ?_ _ | refine blk_drew ?_ | refine blk_alloc ?_ _)); exact BK601.out) hkp (fun hs_ => (fun e_ => (Kd.R_ne HO_618001.out BK601.out (by decide)) e_) hs_)); have n4_ := Aside0.mk (blk_kept (by (with_reducible repeat (first | refine blk_drewN ?_ _ | refine blk_drew ?_ | refine blk_alloc ?_ _)); exact BK612.out) hkp (fun hs_ => (fun e_ => (Kd.R_ne HO_618001.out BK612.out (by decide)) e_) hs_)); have n5_ := Aside0.mk (blk_kept (by (with_reducible repeat (first | refine blk_drewN ?_ _ | refine blk_drew ?_ | refine blk_alloc ?_ _)); exact BK617.out) hkp (fun hs_ => (fun e_ => (Kd.R_ne HO_618001.out BK617.out (by decide)) e_) hs_)); have n6_ := Aside0.mk (blk_kept (by (with_reducible repeat (first | refine blk_drewN ?_ _ | refine blk_drew ?_ | refine blk_alloc ?_ _)); exact BK623.out) hkp (fun hs_ => (fun e_ => (Kd.R_ne HO_618001.out BK623.out (by decide)) e_) hs_)); have n7_ := Aside0.mk (Kd.R_mono (ok' := fun k_ => some k_ ≠ (.slice Ao25 t608.length co25 : Value).ownBlock ∧ some k_ ≠ (.slice Ao32 t614.length co32 : Value).ownBlock ∧ some k_ ≠ (.slice Ao39 t619.length co39 : Value).ownBlock) (Kd.R_keptB (HO628.out) hkp (fun k_ hk_ hs_ => (hk_.1.2) hs_)) (fun k_ hk_ => ⟨hk_.1.1.1.2, hk_.1.1.2, hk_.1.2⟩)); have n8_ := Aside0.mk (hb); clear HO_613001; clear HO_618001; clear HO_624001; clear BK601; clear BK612; clear BK617; clear BK623; clear HO628; clear HB; have HO_613001 := n0_; have HO_618001 := n1_; have HO_624001 := n2_; have BK601 := n3_; have BK612 := n4_; have BK617 := n5_; have BK623 := n6_; have HO628 := n7_; have HB := n8_; clear n0_ n1_ n2_ n3_ n4_ n5_ n6_ n7_ n8_; (try clear hb); (try clear hkp); (try clear hy0)))
              (try simp only [Act.put, List.setIfInBounds_toArray, List.set_cons_zero, List.set_cons_succ])
              go_cut [68] (fun v68 wc => ∃ (kq : Nat) (x68_62 : Bool), v68 = .bool x68_62 ∧ Aside0 (laws_FnExactEdgeAdd.j1 kq a1 t611 x68_62 a0_0 l0_1 t607 t608 t618 t619 = some r) ∧ Aside0 (kq ≤ kj13) ∧ Aside0 (Kd.R Kd.string 9 wc w.heap.size (fun k_ => some k_ ≠ ((.slice Ao32 t614.length co32) : Value).ownBlock ∧ some k_ ≠ ((.slice Ao39 t619.length co39) : Value).ownBlock) (.slice Ao25 t608.length co25) t608) ∧ Aside0 (Kd.R Kd.string 9 wc w.heap.size (fun k_ => some k_ ≠ ((.slice Ao25 t608.length co25) : Value).ownBlock ∧ some k_ ≠ ((.slice Ao39 t619.length co39) : Value).ownBlock) (.slice Ao32 t614.length co32) t631) ∧ Aside0 (Kd.R Kd.string 9 wc w.heap.size (fun k_ => some k_ ≠ ((.slice Ao25 t608.length co25) : Value).ownBlock ∧ some k_ ≠ ((.slice Ao32 t614.length co32) : Value).ownBlock) (.slice Ao39 t619.length co39) t619) ∧ Aside0 (wc.heap[gb601]? = some (.cells #[.int .i64 a0_0, (.slice A0_1 l0_1.length c0_1)] 59 (0, 0))) ∧ Aside0 (wc.heap[gb612]? = some (.cells #[.int .i64 t607, (.slice Ao25 t608.length co25)] 61 (0, 0))) ∧ Aside0 (wc.heap[gb617]? = some (.cells #[.int .i64 t613, (.slice Ao32 t614.length co32)] 61 (0, 0))) ∧ Aside0 (wc.heap[gb623]? = some (.cells #[.int .i64 t618, (.slice Ao39 t619.length co39)] 61 (0, 0))) ∧ Aside0 (Below w.heap.size w wc))
              case first =>
                have H := HC63.out
                clear HC63
                by_cases c73 : t630 < 0
                · rw [if_pos c73] at H
                  have c73b0 : decide (t630 < 0) = true := decide_eq_true c73
                  clear c73
                  (first | rw [c73b0] | (simp only [i64_w, i32_w]; rw [c73b0]) | skip)
                  have H' := Aside0.mk H
                  clear H
                  go_wp2
                  go_meet
                  case rel => exact ⟨_, (true), (by first | rfl | (simp; done) | (simp [*]; done)), H', ⟨by have := HJ13.out; first | omega | exact Nat.le_refl _⟩, ⟨by (with_reducible repeat (first | apply Kd.R_alloc | apply Kd.R_drewN | apply Kd.R_drew)); exact Kd.R_mono HO_613001.out (fun _ hk => ⟨hk.1, hk.2.1⟩)⟩, ⟨by (with_reducible repeat (first | apply Kd.R_alloc | apply Kd.R_drewN | apply Kd.R_drew)); exact Kd.R_mono HO_618001.out (fun _ hk => ⟨hk.1.1, hk.1.2⟩)⟩, ⟨by (with_reducible repeat (first | apply Kd.R_alloc | apply Kd.R_drewN | apply Kd.R_drew)); exact Kd.R_mono HO_624001.out (fun _ hk => ⟨hk.1, hk.2.1⟩)⟩, ⟨by (with_reducible repeat (first | refine blk_drewN ?_ _ | refine blk_drew ?_ | refine blk_alloc ?_ _)); exact BK601.out⟩, ⟨by (with_reducible repeat (first | refine blk_drewN ?_ _ | refine blk_drew ?_ | refine blk_alloc ?_ _)); exact BK612.out⟩, ⟨by (with_reducible repeat (first | refine blk_drewN ?_ _ | refine blk_drew ?_ | refine blk_alloc ?_ _)); exact BK617.out⟩, ⟨by (with_reducible repeat (first | refine blk_drewN ?_ _ | refine blk_drew ?_ | refine blk_alloc ?_ _)); exact BK623.out⟩, ⟨by repeat (first | (with_reducible first | exact HB.out | apply below_alloc | apply pw_below_drewN | apply below_drew1 | refine below_set ?_ GE601.out | refine below_set ?_ GE612.out | refine below_set ?_ GE617.out | refine below_set ?_ GE623.out) | exact HB.out)⟩⟩
                · rw [if_neg c73] at H
                  have c73b0 : decide (t630 < 0) = false := decide_eq_false c73
                  clear c73
                  (first | rw [c73b0] | (simp only [i64_w, i32_w]; rw [c73b0]) | skip)
                  replace H := Option.bind_eq_some_iff.mp H
                  obtain ⟨t632, A740, H⟩ := H
                  replace H : (if t632 = true then (laws_FnExactEdgeAdd.j1 kj13 a1 t611 (t622 != t611) a0_0 l0_1 t607 t608 t618 t619) else (laws_FnExactEdgeAdd.j1 kj13 a1 t611 true a0_0 l0_1 t607 t608 t618 t619)) = some r := H
                  have A74 := Aside0.mk A740
                  clear A740
                  by_cases c75 : t632 = true
                  · subst c75
                    have H1 : (laws_FnExactEdgeAdd.j1 kj13 a1 t611 (t622 != t611) a0_0 l0_1 t607 t608 t618 t619) = some r := by rw [if_pos rfl] at H; exact H
                    clear H
                    have H := H1
                    clear H1
                    have H' := Aside0.mk H
                    clear H
                    have hnb76 := NB623_601.out
                    have hnc76 := NB601_623.out
                    have hnb77 := NB623_612.out
                    have hnc77 := NB612_623.out
                    have hnb78 := NB623_617.out
                    have hnc78 := NB617_623.out
                    have hcz79_0 : w72.cell? ⟨gb623, 0, none⟩ = some (.int .i64 t618) := (blk_cell BK623.out 0).trans rfl
                    have hcz79_1 : w72.cell? ⟨gb623, 1, none⟩ = some (.slice Ao39 t619.length co39) := (blk_cell BK623.out 1).trans rfl
                    have hfz79_0 := blk_frozen BK623.out 0
                    have hfz79_1 := blk_frozen BK623.out 1
                    have hnb80 := NB612_601.out
                    have hnc80 := NB601_612.out
                    have hnb81 := NB612_617.out
                    have hnc81 := NB617_612.out
                    have hcz82_0 : w72.cell? ⟨gb612, 0, none⟩ = some (.int .i64 t607) := (blk_cell BK612.out 0).trans rfl
                    have hcz82_1 : w72.cell? ⟨gb612, 1, none⟩ = some (.slice Ao25 t608.length co25) := (blk_cell BK612.out 1).trans rfl
                    have hfz82_0 := blk_frozen BK612.out 0
                    have hfz82_1 := blk_frozen BK612.out 1
                    go_wp2_with (first | (go_at_call 48; (with_reducible refine (laws_eqEdge.calls kj13 t618 _ _ t619 t607 _ _ t608 true _ ?side1 ?side2 ?side3 ?side4 A74.out).mono ?_); (case side1 => repeat (first | exact (Kd.R_reads' HO_624001.out).2.2 | (with_reducible refine Kd.C_alloc ?_ _) | (with_reducible refine Kd.C_drewN ?_ _) | (with_reducible refine Kd.C_drew ?_))); (case side2 => exact (Kd.R_reads' HO_624001.out).2.1); (case side3 => repeat (first | exact (Kd.R_reads' HO_613001.out).2.2 | (with_reducible refine Kd.C_alloc ?_ _) | (with_reducible refine Kd.C_drewN ?_ _) | (with_reducible refine Kd.C_drew ?_))); (case side4 => exact (Kd.R_reads' HO_613001.out).2.1); rintro e w83 ⟨rfl, hb⟩; have n0_ := Aside0.mk (Kd.R_below (by (with_reducible repeat (first | apply Kd.R_alloc | apply Kd.R_drewN | apply Kd.R_drew)); exact HO_613001.out) hb); have n1_ := Aside0.mk (Kd.R_below (by (with_reducible repeat (first | apply Kd.R_alloc | apply Kd.R_drewN | apply Kd.R_drew)); exact HO_618001.out) hb); have n2_ := Aside0.mk (Kd.R_below (by (with_reducible repeat (first | apply Kd.R_alloc | apply Kd.R_drewN | apply Kd.R_drew)); exact HO_624001.out) hb); have n3_ := Aside0.mk (Kd.R_below (by (with_reducible repeat (first | apply Kd.R_alloc | apply Kd.R_drewN | apply Kd.R_drew)); exact HO628.out) hb); have n4_ := Aside0.mk (blk_below (g := gb601) (o := .cells #[.int .i64 a0_0, .slice A0_1 l0_1.length c0_1] 59 (0, 0)) (by (with_reducible repeat (first | refine blk_drewN ?_ _ | refine blk_drew ?_ | refine blk_alloc ?_ _)); exact BK601.out) hb); have n5_ := Aside0.mk (blk_below (g := gb612) (o := .cells #[.int .i64 t607, .slice Ao25 t608.length co25] 61 (0, 0)) (by (with_reducible repeat (first | refine blk_drewN ?_ _ | refine blk_drew ?_ | refine blk_alloc ?_ _)); exact BK612.out) hb); have n6_ := Aside0.mk (blk_below (g := gb617) (o := .cells #[.int .i64 t613, .slice Ao32 t614.length co32] 61 (0, 0)) (by (with_reducible repeat (first | refine blk_drewN ?_ _ | refine blk_drew ?_ | refine blk_alloc ?_ _)); exact BK617.out) hb); have n7_ := Aside0.mk (blk_below (g := gb623) (o := .cells #[.int .i64 t618, .slice Ao39 t619.length co39] 61 (0, 0)) (by (with_reducible repeat (first | refine blk_drewN ?_ _ | refine blk_drew ?_ | refine blk_alloc ?_ _)); exact BK623.out) hb); have n8_ := Aside0.mk (below_step (by repeat (first | (with_reducible first | exact HB.out | apply below_alloc | apply pw_below_drewN | apply below_drew1 | refine below_set ?_ GE601.out | refine below_set ?_ GE612.out | refine below_set ?_ GE617.out | refine below_set ?_ GE623.out) | exact HB.out)) hb); clear HO_613001; clear HO_618001; clear HO_624001; clear HO628; clear BK601; clear BK612; clear BK617; clear BK623; clear HB; have HO_613001 := n0_; have HO_618001 := n1_; have HO_624001 := n2_; have HO628 := n3_; have BK601 := n4_; have BK612 := n5_; have BK617 := n6_; have BK623 := n7_; have HB := n8_; clear n0_ n1_ n2_ n3_ n4_ n5_ n6_ n7_ n8_; (try clear hb); (try clear hb2); (try clear hk); (try clear hi)))
                    go_meet
                    case rel => exact ⟨_, ((t622 != t611)), (by first | rfl | (simp; done) | (simp [*]; done)), H', ⟨by have := HJ13.out; first | omega | exact Nat.le_refl _⟩, ⟨by (with_reducible repeat (first | apply Kd.R_alloc | apply Kd.R_drewN | apply Kd.R_drew)); exact Kd.R_mono HO_613001.out (fun _ hk => ⟨hk.1, hk.2.1⟩)⟩, ⟨by (with_reducible repeat (first | apply Kd.R_alloc | apply Kd.R_drewN | apply Kd.R_drew)); exact Kd.R_mono HO_618001.out (fun _ hk => ⟨hk.1.1, hk.1.2⟩)⟩, ⟨by (with_reducible repeat (first | apply Kd.R_alloc | apply Kd.R_drewN | apply Kd.R_drew)); exact Kd.R_mono HO_624001.out (fun _ hk => ⟨hk.1, hk.2.1⟩)⟩, ⟨by (with_reducible repeat (first | refine blk_drewN ?_ _ | refine blk_drew ?_ | refine blk_alloc ?_ _)); exact BK601.out⟩, ⟨by (with_reducible repeat (first | refine blk_drewN ?_ _ | refine blk_drew ?_ | refine blk_alloc ?_ _)); exact BK612.out⟩, ⟨by (with_reducible repeat (first | refine blk_drewN ?_ _ | refine blk_drew ?_ | refine blk_alloc ?_ _)); exact BK617.out⟩, ⟨by (with_reducible repeat (first | refine blk_drewN ?_ _ | refine blk_drew ?_ | refine blk_alloc ?_ _)); exact BK623.out⟩, ⟨by repeat (first | (with_reducible first | exact HB.out | apply below_alloc | apply pw_below_drewN | apply below_drew1 | refine below_set ?_ GE601.out | refine below_set ?_ GE612.out | refine below_set ?_ GE617.out | refine below_set ?_ GE623.out) | exact HB.out)⟩⟩
                  · replace c75 := Bool.eq_false_iff.mpr c75
                    subst c75
                    have H1 : (laws_FnExactEdgeAdd.j1 kj13 a1 t611 true a0_0 l0_1 t607 t608 t618 t619) = some r := by rw [if_neg (show ¬ (false = true) by decide)] at H; exact H
                    clear H
                    have H := H1
                    clear H1
                    have H' := Aside0.mk H
                    clear H
                    have hnb84 := NB623_601.out
                    have hnc84 := NB601_623.out
                    have hnb85 := NB623_612.out
                    have hnc85 := NB612_623.out
                    have hnb86 := NB623_617.out
                    have hnc86 := NB617_623.out
                    have hcz87_0 : w72.cell? ⟨gb623, 0, none⟩ = some (.int .i64 t618) := (blk_cell BK623.out 0).trans rfl
                    have hcz87_1 : w72.cell? ⟨gb623, 1, none⟩ = some (.slice Ao39 t619.length co39) := (blk_cell BK623.out 1).trans rfl
                    have hfz87_0 := blk_frozen BK623.out 0
                    have hfz87_1 := blk_frozen BK623.out 1
                    have hnb88 := NB612_601.out
                    have hnc88 := NB601_612.out
                    have hnb89 := NB612_617.out
                    have hnc89 := NB617_612.out
                    have hcz90_0 : w72.cell? ⟨gb612, 0, none⟩ = some (.int .i64 t607) := (blk_cell BK612.out 0).trans rfl
                    have hcz90_1 : w72.cell? ⟨gb612, 1, none⟩ = some (.slice Ao25 t608.length co25) := (blk_cell BK612.out 1).trans rfl
                    have hfz90_0 := blk_frozen BK612.out 0
                    have hfz90_1 := blk_frozen BK612.out 1
                    go_wp2_with (first | (go_at_call 48; (with_reducible refine (laws_eqEdge.calls kj13 t618 _ _ t619 t607 _ _ t608 false _ ?side1 ?side2 ?side3 ?side4 A74.out).mono ?_); (case side1 => repeat (first | exact (Kd.R_reads' HO_624001.out).2.2 | (with_reducible refine Kd.C_alloc ?_ _) | (with_reducible refine Kd.C_drewN ?_ _) | (with_reducible refine Kd.C_drew ?_))); (case side2 => exact (Kd.R_reads' HO_624001.out).2.1); (case side3 => repeat (first | exact (Kd.R_reads' HO_613001.out).2.2 | (with_reducible refine Kd.C_alloc ?_ _) | (with_reducible refine Kd.C_drewN ?_ _) | (with_reducible refine Kd.C_drew ?_))); (case side4 => exact (Kd.R_reads' HO_613001.out).2.1); rintro e w91 ⟨rfl, hb⟩; have n0_ := Aside0.mk (Kd.R_below (by (with_reducible repeat (first | apply Kd.R_alloc | apply Kd.R_drewN | apply Kd.R_drew)); exact HO_613001.out) hb); have n1_ := Aside0.mk (Kd.R_below (by (with_reducible repeat (first | apply Kd.R_alloc | apply Kd.R_drewN | apply Kd.R_drew)); exact HO_618001.out) hb); have n2_ := Aside0.mk (Kd.R_below (by (with_reducible repeat (first | apply Kd.R_alloc | apply Kd.R_drewN | apply Kd.R_drew)); exact HO_624001.out) hb); have n3_ := Aside0.mk (Kd.R_below (by (with_reducible repeat (first | apply Kd.R_alloc | apply Kd.R_drewN | apply Kd.R_drew)); exact HO628.out) hb); have n4_ := Aside0.mk (blk_below (g := gb601) (o := .cells #[.int .i64 a0_0, .slice A0_1 l0_1.length c0_1] 59 (0, 0)) (by (with_reducible repeat (first | refine blk_drewN ?_ _ | refine blk_drew ?_ | refine blk_alloc ?_ _)); exact BK601.out) hb); have n5_ := Aside0.mk (blk_below (g := gb612) (o := .cells #[.int .i64 t607, .slice Ao25 t608.length co25] 61 (0, 0)) (by (with_reducible repeat (first | refine blk_drewN ?_ _ | refine blk_drew ?_ | refine blk_alloc ?_ _)); exact BK612.out) hb); have n6_ := Aside0.mk (blk_below (g := gb617) (o := .cells #[.int .i64 t613, .slice Ao32 t614.length co32] 61 (0, 0)) (by (with_reducible repeat (first | refine blk_drewN ?_ _ | refine blk_drew ?_ | refine blk_alloc ?_ _)); exact BK617.out) hb); have n7_ := Aside0.mk (blk_below (g := gb623) (o := .cells #[.int .i64 t618, .slice Ao39 t619.length co39] 61 (0, 0)) (by (with_reducible repeat (first | refine blk_drewN ?_ _ | refine blk_drew ?_ | refine blk_alloc ?_ _)); exact BK623.out) hb); have n8_ := Aside0.mk (below_step (by repeat (first | (with_reducible first | exact HB.out | apply below_alloc | apply pw_below_drewN | apply below_drew1 | refine below_set ?_ GE601.out | refine below_set ?_ GE612.out | refine below_set ?_ GE617.out | refine below_set ?_ GE623.out) | exact HB.out)) hb); clear HO_613001; clear HO_618001; clear HO_624001; clear HO628; clear BK601; clear BK612; clear BK617; clear BK623; clear HB; have HO_613001 := n0_; have HO_618001 := n1_; have HO_624001 := n2_; have HO628 := n3_; have BK601 := n4_; have BK612 := n5_; have BK617 := n6_; have BK623 := n7_; have HB := n8_; clear n0_ n1_ n2_ n3_ n4_ n5_ n6_ n7_ n8_; (try clear hb); (try clear hb2); (try clear hk); (try clear hi)))
                    go_meet
                    case rel => exact ⟨_, (true), (by first | rfl | (simp; done) | (simp [*]; done)), H', ⟨by have := HJ13.out; first | omega | exact Nat.le_refl _⟩, ⟨by (with_reducible repeat (first | apply Kd.R_alloc | apply Kd.R_drewN | apply Kd.R_drew)); exact Kd.R_mono HO_613001.out (fun _ hk => ⟨hk.1, hk.2.1⟩)⟩, ⟨by (with_reducible repeat (first | apply Kd.R_alloc | apply Kd.R_drewN | apply Kd.R_drew)); exact Kd.R_mono HO_618001.out (fun _ hk => ⟨hk.1.1, hk.1.2⟩)⟩, ⟨by (with_reducible repeat (first | apply Kd.R_alloc | apply Kd.R_drewN | apply Kd.R_drew)); exact Kd.R_mono HO_624001.out (fun _ hk => ⟨hk.1, hk.2.1⟩)⟩, ⟨by (with_reducible repeat (first | refine blk_drewN ?_ _ | refine blk_drew ?_ | refine blk_alloc ?_ _)); exact BK601.out⟩, ⟨by (with_reducible repeat (first | refine blk_drewN ?_ _ | refine blk_drew ?_ | refine blk_alloc ?_ _)); exact BK612.out⟩, ⟨by (with_reducible repeat (first | refine blk_drewN ?_ _ | refine blk_drew ?_ | refine blk_alloc ?_ _)); exact BK617.out⟩, ⟨by (with_reducible repeat (first | refine blk_drewN ?_ _ | refine blk_drew ?_ | refine blk_alloc ?_ _)); exact BK623.out⟩, ⟨by repeat (first | (with_reducible first | exact HB.out | apply below_alloc | apply pw_below_drewN | apply below_drew1 | refine below_set ?_ GE601.out | refine below_set ?_ GE612.out | refine below_set ?_ GE617.out | refine below_set ?_ GE623.out) | exact HB.out)⟩⟩
              case rest =>
                clear HC63
                try clear c2
                try clear p2
                try clear c3
                try clear c3b0
                try clear c3b1
                try clear c4
                try clear c5
                try clear c6
                try clear c6b0
                try clear c7
                try clear c8
                try clear c23
                try clear c29
                try clear c30
                try clear c35
                try clear c36
                try clear c37
                try clear c41
                try clear c42
                try clear c43
                try clear c44
                try clear c45
                try clear c46
                try clear c47
                try clear c48
                try clear c49
                try clear c50
                try clear c51
                try clear c52
                try clear c54
                try clear c55
                try clear c58
                try clear c61
                try clear c68
                try clear c69
                try clear c70
                try clear c73
                try clear c73b0
                try clear c75
                try clear c76
                try clear c77
                try clear c78
                try clear c80
                try clear c81
                try clear c84
                try clear c85
                try clear c86
                try clear c88
                try clear c89
                try clear hcz16_0
                try clear hcz16_1
                try clear hcz18_0
                try clear hcz18_1
                try clear hcz24_0
                try clear hcz24_1
                try clear hcz26_0
                try clear hcz26_1
                try clear hcz31_0
                try clear hcz31_1
                try clear hcz38_0
                try clear hcz38_1
                try clear hcz45_0
                try clear hcz45_1
                try clear hcz48_0
                try clear hcz48_1
                try clear hcz53_0
                try clear hcz53_1
                try clear hcz56_0
                try clear hcz56_1
                try clear hcz71_0
                try clear hcz71_1
                try clear hcz79_0
                try clear hcz79_1
                try clear hcz82_0
                try clear hcz82_1
                try clear hcz87_0
                try clear hcz87_1
                try clear hcz8_0
                try clear hcz8_1
                try clear hcz90_0
                try clear hcz90_1
                try clear hfz16_0
                try clear hfz16_1
                try clear hfz18_0
                try clear hfz18_1
                try clear hfz24_0
                try clear hfz24_1
                try clear hfz26_0
                try clear hfz26_1
                try clear hfz31_0
                try clear hfz31_1
                try clear hfz38_0
                try clear hfz38_1
                try clear hfz45_0
                try clear hfz45_1
                try clear hfz48_0
                try clear hfz48_1
                try clear hfz53_0
                try clear hfz53_1
                try clear hfz56_0
                try clear hfz56_1
                try clear hfz71_0
                try clear hfz71_1
                try clear hfz79_0
                try clear hfz79_1
                try clear hfz82_0
                try clear hfz82_1
                try clear hfz87_0
                try clear hfz87_1
                try clear hfz8_0
                try clear hfz8_1
                try clear hfz90_0
                try clear hfz90_1
                try clear p2
                obtain ⟨kq, x68_62, rfl, HA, HJ62, HO_613001, HO_618001, HO_624001, BK601, BK612, BK617, BK623, HB⟩ := hcut
                have hl618001_62 := (Kd.R_reads' HO_618001.out).1
                rw [hl618001_62] at HO_618001
                (try simp only [hl618001_62])
                (try simp only [hl618001_62] at BK601)
                (try simp only [hl618001_62] at BK612)
                (try simp only [hl618001_62] at BK617)
                (try simp only [hl618001_62] at BK623)
                (try simp only [hl618001_62] at HO_613001)
                (try simp only [hl618001_62] at HO_624001)
                cases kq with
                | zero => exact absurd HA.out (by simp [laws_FnExactEdgeAdd.j1])
                | succ kj62 =>
                  have H := HA.out
                  clear HA
                  simp only [laws_FnExactEdgeAdd.j1] at H
                  by_cases c92 : x68_62 = true
                  · subst c92
                    have H1 : (none) = some r := by rw [if_pos rfl] at H; exact H
                    clear H
                    have H := H1
                    clear H1
                    exact absurd H (by simp)
                  · replace c92 := Bool.eq_false_iff.mpr c92
                    subst c92
                    have H1 : ((laws_markEdge.f kj62 t618 t619 1).bind fun bt633 => ((laws_heldEdge.f kj62 t618 bt633.2 1).bind fun t635 => (if t635 < 0 then (none) else (if t635 = bt633.1 then ((laws_toEdge.f kj62 a0_0 l0_1).bind fun bt636 => ((impl_EdgeAdd.f bt636.1 bt636.2 a1).bind fun bt640 => ((laws_eqEdge.f kj62 bt640.1 bt640.2.1 t607 t608).bind fun t646 => (if t646 = true then (laws_FnExactEdgeAdd.j2 kj62 bt633.1 (bt640.2.2 != t611) t618 bt633.2) else (laws_FnExactEdgeAdd.j2 kj62 bt633.1 true t618 bt633.2))))) else (none))))) = some r := by rw [if_neg (show ¬ (false = true) by decide)] at H; exact H
                    clear H
                    have H := H1
                    clear H1
                    replace H := Option.bind_eq_some_iff.mp H
                    obtain ⟨⟨t633, t634⟩, A930, H⟩ := H
                    replace H : ((laws_heldEdge.f kj62 t618 t634 1).bind fun t635 => (if t635 < 0 then (none) else (if t635 = t633 then ((laws_toEdge.f kj62 a0_0 l0_1).bind fun bt636 => ((impl_EdgeAdd.f bt636.1 bt636.2 a1).bind fun bt640 => ((laws_eqEdge.f kj62 bt640.1 bt640.2.1 t607 t608).bind fun t646 => (if t646 = true then (laws_FnExactEdgeAdd.j2 kj62 t633 (bt640.2.2 != t611) t618 t634) else (laws_FnExactEdgeAdd.j2 kj62 t633 true t618 t634))))) else (none)))) = some r := H
                    have A93 := Aside0.mk A930
                    clear A930
                    replace H := Option.bind_eq_some_iff.mp H
                    obtain ⟨t635, A940, H⟩ := H
                    replace H : (if t635 < 0 then (none) else (if t635 = t633 then ((laws_toEdge.f kj62 a0_0 l0_1).bind fun bt636 => ((impl_EdgeAdd.f bt636.1 bt636.2 a1).bind fun bt640 => ((laws_eqEdge.f kj62 bt640.1 bt640.2.1 t607 t608).bind fun t646 => (if t646 = true then (laws_FnExactEdgeAdd.j2 kj62 t633 (bt640.2.2 != t611) t618 t634) else (laws_FnExactEdgeAdd.j2 kj62 t633 true t618 t634))))) else (none))) = some r := H
                    have A94 := Aside0.mk A940
                    clear A940
                    by_cases c95 : t635 < 0
                    · rw [if_pos c95] at H
                      exact absurd H (by simp)
                    · rw [if_neg c95] at H
                      have c95b0 : decide (t635 < 0) = false := decide_eq_false c95
                      clear c95
                      by_cases c96 : t635 = t633
                      · rw [if_pos c96] at H
                        have c96b0 : (t635 == t633) = true := beq_iff_eq.mpr c96
                        have c96b1 : (t635 != t633) = false := bne_eq_false_iff_eq.mpr c96
                        clear c96
                        replace H := Option.bind_eq_some_iff.mp H
                        obtain ⟨⟨t636, t637⟩, A970, H⟩ := H
                        replace H : ((impl_EdgeAdd.f t636 t637 a1).bind fun bt640 => ((laws_eqEdge.f kj62 bt640.1 bt640.2.1 t607 t608).bind fun t646 => (if t646 = true then (laws_FnExactEdgeAdd.j2 kj62 t633 (bt640.2.2 != t611) t618 t634) else (laws_FnExactEdgeAdd.j2 kj62 t633 true t618 t634)))) = some r := H
                        have A97 := Aside0.mk A970
                        clear A970
                        replace H := Option.bind_eq_some_iff.mp H
                        obtain ⟨⟨t640, t641, t644⟩, A980, H⟩ := H
                        replace H : ((laws_eqEdge.f kj62 t640 t641 t607 t608).bind fun t646 => (if t646 = true then (laws_FnExactEdgeAdd.j2 kj62 t633 (t644 != t611) t618 t634) else (laws_FnExactEdgeAdd.j2 kj62 t633 true t618 t634))) = some r := H
                        have A98 := Aside0.mk A980
                        clear A980
                        have HC99 := Aside0.mk H
                        clear H
                        have hnb100 := NB623_601.out
                        have hnc100 := NB601_623.out
                        have hnb101 := NB623_612.out
                        have hnc101 := NB612_623.out
                        have hnb102 := NB623_617.out
                        have hnc102 := NB617_623.out
                        have hcz103_0 : wc.cell? ⟨gb623, 0, none⟩ = some (.int .i64 t618) := (blk_cell BK623.out 0).trans rfl
                        have hcz103_1 : wc.cell? ⟨gb623, 1, none⟩ = some (.slice Ao39 t619.length co39) := (blk_cell BK623.out 1).trans rfl
                        have hfz103_0 := blk_frozen BK623.out 0
                        have hfz103_1 := blk_frozen BK623.out 1
                        go_upto_region 27 with (first | ((with_reducible refine gate_callee (f := 49) rfl ?_); refine goesL_ (some 71) rfl rfl Try.func49 (by kernel_rfl) rfl #[.agg #[.int .i64 t618, .slice Ao39 t619.length co39], .int .i64 1] rfl (by (try simp only [List.map_toArray, List.map_cons, List.map_nil]); first | done | rfl | (simp only [List.length_drop, List.length_take]; rfl)) ?_; (with_reducible refine (laws_markEdge.calls kj62 t618 (fun k_ => some k_ = (.slice Ao39 t619.length co39 : Value).ownBlock) (.slice Ao39 t619.length co39) t619 1 t633 t634 w _ ?side1 ?side2 A93.out).mono ?_); (case side1 => repeat (first | (with_reducible first | exact HB.out | apply below_alloc | apply pw_below_drewN | apply below_drew1 | refine below_set ?_ GE601.out | refine below_set ?_ GE612.out | refine below_set ?_ GE617.out | refine below_set ?_ GE623.out) | exact HB.out)); (case side2 => exact Kd.R_tight rfl HO_624001.out); rintro e w104 ⟨rfl, hy0, hb, hkp⟩; refine ⟨_, rfl, ?_⟩; have n0_ := Aside0.mk (Kd.R_mono (ok' := fun k_ => some k_ ≠ (.slice Ao32 t631.length co32 : Value).ownBlock ∧ some k_ ≠ (.slice Ao39 t619.length co39 : Value).ownBlock) (Kd.R_keptB (HO_613001.out) hkp (fun k_ hk_ hs_ => (hk_.2) hs_)) (fun k_ hk_ => ⟨hk_.1.1, hk_.1.2⟩)); have n1_ := Aside0.mk (Kd.R_mono (ok' := fun k_ => some k_ ≠ (.slice Ao25 t608.length co25 : Value).ownBlock ∧ some k_ ≠ (.slice Ao39 t619.length co39 : Value).ownBlock) (Kd.R_keptB (HO_618001.out) hkp (fun k_ hk_ hs_ => (hk_.2) hs_)) (fun k_ hk_ => ⟨hk_.1.1, hk_.1.2⟩)); have n2_ := Aside0.mk (Kd.R_reok rfl hy0 (fun k_ e_ => HO_624001.out.1 k_ e_)); have n3_ := Aside0.mk (blk_kept (by (with_reducible repeat (first | refine blk_drewN ?_ _ | refine blk_drew ?_ | refine blk_alloc ?_ _)); exact BK601.out) hkp (fun hs_ => (fun e_ => (Kd.R_ne HO_624001.out BK601.out (by decide)) e_) hs_)); have n4_ := Aside0.mk (blk_kept (by (with_reducible repeat (first | refine blk_drewN ?_ _ | refine blk_drew ?_ | refine blk_alloc ?_ _)); exact BK612.out) hkp (fun hs_ => (fun e_ => (Kd.R_ne HO_624001.out BK612.out (by decide)) e_) hs_)); have n5_ := Aside0.mk (blk_kept (by (with_reducible repeat (first | refine blk_drewN ?_ _ | refine blk_drew ?_ | refine blk_alloc ?_ _)); exact BK617.out) hkp (fun hs_ => (fun e_ => (Kd.R_ne HO_624001.out BK617.out (by decide)) e_) hs_)); have n6_ := Aside0.mk (blk_kept (by (with_reducible repeat (first | refine blk_drewN ?_ _ | refine blk_drew ?_ | refine blk_alloc ?_ _)); exact BK623.out) hkp (fun hs_ => (fun e_ => (Kd.R_ne HO_624001.out BK623.out (by decide)) e_) hs_)); have n7_ := Aside0.mk (hb); clear HO_613001; clear HO_618001; clear HO_624001; clear BK601; clear BK612; clear BK617; clear BK623; clear HB; have HO_613001 := n0_; have HO_618001 := n1_; have HO_624001 := n2_; have BK601 := n3_; have BK612 := n4_; have BK617 := n5_; have BK623 := n6_; have HB := n7_; clear n0_ n1_ n2_ n3_ n4_ n5_ n6_ n7_; (try clear hb); (try clear hkp); (try clear hy0); have hcz105_0 : w104.cell? ⟨gb623, 0, none⟩ = some (.int .i64 t618) := (blk_cell BK623.out 0).trans rfl; have hcz105_1 : w104.cell? ⟨gb623, 1, none⟩ = some (.slice Ao39 t619.length co39) := (blk_cell BK623.out 1).trans rfl; have hfz105_0 := blk_frozen BK623.out 0; have hfz105_1 := blk_frozen BK623.out 1) | ((with_reducible refine gate_callee (f := 50) rfl ?_); refine goesL_ (some 74) rfl rfl Try.func50 (by kernel_rfl) rfl #[.agg #[.int .i64 t618, .slice Ao39 t634.length co39], .int .i64 1] rfl (by (try simp only [List.map_toArray, List.map_cons, List.map_nil]); first | done | (rw [show t634.length = t619.length from (Kd.R_reads' HO_624001.out).1.symm] <;> rfl) | rfl | (simp only [List.length_drop, List.length_take]; rfl)) ?_; (with_reducible refine (laws_heldEdge.calls kj62 t618 _ _ t634 1 t635 _ ?side1 ?side2 A94.out).mono ?_); (case side1 => repeat (first | exact (Kd.R_reads' HO_624001.out).2.2 | (with_reducible refine Kd.C_alloc ?_ _) | (with_reducible refine Kd.C_drewN ?_ _) | (with_reducible refine Kd.C_drew ?_))); (case side2 => rw [show t634.length = t619.length from (Kd.R_reads' HO_624001.out).1.symm]; exact (Kd.R_reads' HO_624001.out).2.1); rintro e w106 ⟨rfl, hb⟩; refine ⟨_, rfl, ?_⟩; have n0_ := Aside0.mk (Kd.R_below (by (with_reducible repeat (first | apply Kd.R_alloc | apply Kd.R_drewN | apply Kd.R_drew)); exact HO_613001.out) hb); have n1_ := Aside0.mk (Kd.R_below (by (with_reducible repeat (first | apply Kd.R_alloc | apply Kd.R_drewN | apply Kd.R_drew)); exact HO_618001.out) hb); have n2_ := Aside0.mk (Kd.R_below (by (with_reducible repeat (first | apply Kd.R_alloc | apply Kd.R_drewN | apply Kd.R_drew)); exact HO_624001.out) hb); have n3_ := Aside0.mk (blk_below (g := gb601) (o := .cells #[.int .i64 a0_0, .slice A0_1 l0_1.length c0_1] 59 (0, 0)) (by (with_reducible repeat (first | refine blk_drewN ?_ _ | refine blk_drew ?_ | refine blk_alloc ?_ _)); exact BK601.out) hb); have n4_ := Aside0.mk (blk_below (g := gb612) (o := .cells #[.int .i64 t607, .slice Ao25 t608.length co25] 61 (0, 0)) (by (with_reducible repeat (first | refine blk_drewN ?_ _ | refine blk_drew ?_ | refine blk_alloc ?_ _)); exact BK612.out) hb); have n5_ := Aside0.mk (blk_below (g := gb617) (o := .cells #[.int .i64 t613, .slice Ao32 t631.length co32] 61 (0, 0)) (by (with_reducible repeat (first | refine blk_drewN ?_ _ | refine blk_drew ?_ | refine blk_alloc ?_ _)); exact BK617.out) hb); have n6_ := Aside0.mk (blk_below (g := gb623) (o := .cells #[.int .i64 t618, .slice Ao39 t619.length co39] 61 (0, 0)) (by (with_reducible repeat (first | refine blk_drewN ?_ _ | refine blk_drew ?_ | refine blk_alloc ?_ _)); exact BK623.out) hb); have n7_ := Aside0.mk (below_step (by repeat (first | (with_reducible first | exact HB.out | apply below_alloc | apply pw_below_drewN | apply below_drew1 | refine below_set ?_ GE601.out | refine below_set ?_ GE612.out | refine below_set ?_ GE617.out | refine below_set ?_ GE623.out) | exact HB.out)) hb); clear HO_613001; clear HO_618001; clear HO_624001; clear BK601; clear BK612; clear BK617; clear BK623; clear HB; have HO_613001 := n0_; have HO_618001 := n1_; have HO_624001 := n2_; have BK601 := n3_; have BK612 := n4_; have BK617 := n5_; have BK623 := n6_; have HB := n7_; clear n0_ n1_ n2_ n3_ n4_ n5_ n6_ n7_; (try clear hb); (try clear hb2); (try clear hk); (try clear hi); have hnb107 := NB601_612.out; have hnc107 := NB612_601.out; have hnb108 := NB601_617.out; have hnc108 := NB617_601.out; have hcz109_0 : w106.cell? ⟨gb601, 0, none⟩ = some (.int .i64 a0_0) := (blk_cell BK601.out 0).trans rfl; have hcz109_1 : w106.cell? ⟨gb601, 1, none⟩ = some (.slice A0_1 l0_1.length c0_1) := (blk_cell BK601.out 1).trans rfl; have hfz109_0 := blk_frozen BK601.out 0; have hfz109_1 := blk_frozen BK601.out 1) | ((with_reducible refine gate_callee (f := 46) rfl ?_); refine goesL_ (some 82) rfl rfl Try.func46 (by kernel_rfl) rfl #[.agg #[.int .i64 a0_0, .slice A0_1 l0_1.length c0_1]] rfl (by (try simp only [List.map_toArray, List.map_cons, List.map_nil]); first | done | rfl | (simp only [List.length_drop, List.length_take]; rfl)) ?_; (with_reducible refine (laws_toEdge.calls kj62 a0_0 _ _ l0_1 t636 t637 _ ?side1 ?side2 A97.out).mono ?_); (case side1 => repeat (first | exact (Kd.C_below HR0_1.out HB.out) | (with_reducible refine Kd.C_alloc ?_ _) | (with_reducible refine Kd.C_drewN ?_ _) | (with_reducible refine Kd.C_drew ?_))); (case side2 => exact HC0_1.out); rintro e w110 ⟨v638, rfl, ho0, hb⟩; refine ⟨_, rfl, ?_⟩; have n0_ := Aside0.mk (Kd.R_elder' (by (with_reducible repeat (first | apply Kd.R_alloc | apply Kd.R_drewN | apply Kd.R_drew)); exact HO_613001.out) (Kd.R_base ho0) hb); have n1_ := Aside0.mk (Kd.R_elder' (by (with_reducible repeat (first | apply Kd.R_alloc | apply Kd.R_drewN | apply Kd.R_drew)); exact HO_618001.out) (Kd.R_base ho0) hb); have n2_ := Aside0.mk (Kd.R_elder' (by (with_reducible repeat (first | apply Kd.R_alloc | apply Kd.R_drewN | apply Kd.R_drew)); exact HO_624001.out) (Kd.R_base ho0) hb); have n3_ := Aside0.mk (Kd.R_lower (Kd.R_new' (Kd.R_new' (Kd.R_new' ho0 (Kd.R_lt (by (with_reducible repeat (first | apply Kd.R_alloc | apply Kd.R_drewN | apply Kd.R_drew)); exact HO_613001.out))) (Kd.R_lt (by (with_reducible repeat (first | apply Kd.R_alloc | apply Kd.R_drewN | apply Kd.R_drew)); exact HO_618001.out))) (Kd.R_lt (by (with_reducible repeat (first | apply Kd.R_alloc | apply Kd.R_drewN | apply Kd.R_drew)); exact HO_624001.out))) (below_size (by repeat (first | (with_reducible first | exact HB.out | apply below_alloc | apply pw_below_drewN | apply below_drew1 | refine below_set ?_ GE601.out | refine below_set ?_ GE612.out | refine below_set ?_ GE617.out | refine below_set ?_ GE623.out) | exact HB.out)))); have n4_ := Aside0.mk (blk_below (g := gb601) (o := .cells #[.int .i64 a0_0, .slice A0_1 l0_1.length c0_1] 59 (0, 0)) (by (with_reducible repeat (first | refine blk_drewN ?_ _ | refine blk_drew ?_ | refine blk_alloc ?_ _)); exact BK601.out) hb); have n5_ := Aside0.mk (blk_below (g := gb612) (o := .cells #[.int .i64 t607, .slice Ao25 t608.length co25] 61 (0, 0)) (by (with_reducible repeat (first | refine blk_drewN ?_ _ | refine blk_drew ?_ | refine blk_alloc ?_ _)); exact BK612.out) hb); have n6_ := Aside0.mk (blk_below (g := gb617) (o := .cells #[.int .i64 t613, .slice Ao32 t631.length co32] 61 (0, 0)) (by (with_reducible repeat (first | refine blk_drewN ?_ _ | refine blk_drew ?_ | refine blk_alloc ?_ _)); exact BK617.out) hb); have n7_ := Aside0.mk (blk_below (g := gb623) (o := .cells #[.int .i64 t618, .slice Ao39 t619.length co39] 61 (0, 0)) (by (with_reducible repeat (first | refine blk_drewN ?_ _ | refine blk_drew ?_ | refine blk_alloc ?_ _)); exact BK623.out) hb); have n8_ := Aside0.mk (below_step (by repeat (first | (with_reducible first | exact HB.out | apply below_alloc | apply pw_below_drewN | apply below_drew1 | refine below_set ?_ GE601.out | refine below_set ?_ GE612.out | refine below_set ?_ GE617.out | refine below_set ?_ GE623.out) | exact HB.out)) hb); clear HO_613001; clear HO_618001; clear HO_624001; clear BK601; clear BK612; clear BK617; clear BK623; clear HB; have HO_613001 := n0_; have HO_618001 := n1_; have HO_624001 := n2_; have HO639 := n3_; have BK601 := n4_; have BK612 := n5_; have BK617 := n6_; have BK623 := n7_; have HB := n8_; clear n0_ n1_ n2_ n3_ n4_ n5_ n6_ n7_ n8_; (try clear hb); (try clear hb2); (try clear hk); (try clear hi); (try clear ho0); obtain ⟨Ao111, co111, eo111⟩ := Kd.R_slice HO639.out; subst eo111) | ((with_reducible refine gate_callee (f := 47) rfl ?_); refine goesL_ (some 84) rfl rfl Try.func47 (by kernel_rfl) rfl #[.agg #[.int .i64 t636, .slice Ao111 t637.length co111], .string a1] rfl (by (try simp only [List.map_toArray, List.map_cons, List.map_nil]); first | done | rfl | (simp only [List.length_drop, List.length_take]; rfl)) ?_; (with_reducible refine (impl_EdgeAdd.calls t636 _ _ t637 a1 t640 t641 t644 _ ?side1 ?side2 A98.out).mono ?_); (case side1 => repeat (first | exact (Kd.R_reads' HO639.out).2.2 | (with_reducible refine Kd.C_alloc ?_ _) | (with_reducible refine Kd.C_drewN ?_ _) | (with_reducible refine Kd.C_drew ?_))); (case side2 => exact (Kd.R_reads' HO639.out).2.1); rintro e w112 ⟨v642, rfl, ho0, hb⟩; refine ⟨_, rfl, ?_⟩; have n0_ := Aside0.mk (Kd.R_elder' (by (with_reducible repeat (first | apply Kd.R_alloc | apply Kd.R_drewN | apply Kd.R_drew)); exact HO_613001.out) (Kd.R_base ho0) hb); have n1_ := Aside0.mk (Kd.R_elder' (by (with_reducible repeat (first | apply Kd.R_alloc | apply Kd.R_drewN | apply Kd.R_drew)); exact HO_618001.out) (Kd.R_base ho0) hb); have n2_ := Aside0.mk (Kd.R_elder' (by (with_reducible repeat (first | apply Kd.R_alloc | apply Kd.R_drewN | apply Kd.R_drew)); exact HO_624001.out) (Kd.R_base ho0) hb); have n3_ := Aside0.mk (Kd.R_elder' (by (with_reducible repeat (first | apply Kd.R_alloc | apply Kd.R_drewN | apply Kd.R_drew)); exact HO639.out) (Kd.R_base ho0) hb); have n4_ := Aside0.mk (Kd.R_lower (Kd.R_new' (Kd.R_new' (Kd.R_new' (Kd.R_new' ho0 (Kd.R_lt (by (with_reducible repeat (first | apply Kd.R_alloc | apply Kd.R_drewN | apply Kd.R_drew)); exact HO_613001.out))) (Kd.R_lt (by (with_reducible repeat (first | apply Kd.R_alloc | apply Kd.R_drewN | apply Kd.R_drew)); exact HO_618001.out))) (Kd.R_lt (by (with_reducible repeat (first | apply Kd.R_alloc | apply Kd.R_drewN | apply Kd.R_drew)); exact HO_624001.out))) (Kd.R_lt (by (with_reducible repeat (first | apply Kd.R_alloc | apply Kd.R_drewN | apply Kd.R_drew)); exact HO639.out))) (below_size (by repeat (first | (with_reducible first | exact HB.out | apply below_alloc | apply pw_below_drewN | apply below_drew1 | refine below_set ?_ GE601.out | refine below_set ?_ GE612.out | refine below_set ?_ GE617.out | refine below_set ?_ GE623.out) | exact HB.out)))); have n5_ := Aside0.mk (blk_below (g := gb601) (o := .cells #[.int .i64 a0_0, .slice A0_1 l0_1.length c0_1] 59 (0, 0)) (by (with_reducible repeat (first | refine blk_drewN ?_ _ | refine blk_drew ?_ | refine blk_alloc ?_ _)); exact BK601.out) hb); have n6_ := Aside0.mk (blk_below (g := gb612) (o := .cells #[.int .i64 t607, .slice Ao25 t608.length co25] 61 (0, 0)) (by (with_reducible repeat (first | refine blk_drewN ?_ _ | refine blk_drew ?_ | refine blk_alloc ?_ _)); exact BK612.out) hb); have n7_ := Aside0.mk (blk_below (g := gb617) (o := .cells #[.int .i64 t613, .slice Ao32 t631.length co32] 61 (0, 0)) (by (with_reducible repeat (first | refine blk_drewN ?_ _ | refine blk_drew ?_ | refine blk_alloc ?_ _)); exact BK617.out) hb); have n8_ := Aside0.mk (blk_below (g := gb623) (o := .cells #[.int .i64 t618, .slice Ao39 t619.length co39] 61 (0, 0)) (by (with_reducible repeat (first | refine blk_drewN ?_ _ | refine blk_drew ?_ | refine blk_alloc ?_ _)); exact BK623.out) hb); have n9_ := Aside0.mk (below_step (by repeat (first | (with_reducible first | exact HB.out | apply below_alloc | apply pw_below_drewN | apply below_drew1 | refine below_set ?_ GE601.out | refine below_set ?_ GE612.out | refine below_set ?_ GE617.out | refine below_set ?_ GE623.out) | exact HB.out)) hb); clear HO_613001; clear HO_618001; clear HO_624001; clear HO639; clear BK601; clear BK612; clear BK617; clear BK623; clear HB; have HO_613001 := n0_; have HO_618001 := n1_; have HO_624001 := n2_; have HO639 := n3_; have HO643 := n4_; have BK601 := n5_; have BK612 := n6_; have BK617 := n7_; have BK623 := n8_; have HB := n9_; clear n0_ n1_ n2_ n3_ n4_ n5_ n6_ n7_ n8_ n9_; (try clear hb); (try clear hb2); (try clear hk); (try clear hi); (try clear ho0)) | ((with_reducible refine gate_dst (N := 14) rfl ?_); refine box_event ?hg (N := 14) ?hd (cs := #[.int .i64 0, .slice none 0 0]) (t := 61) ?hr ?_; (case hd => rfl); (case hg => rfl); (case hr => first | (go_simp; done) | (go_simp; rfl)); intro gb645 hg w113 hbox hb; have n0_ := Aside0.mk (Kd.R_below (by (with_reducible repeat (first | apply Kd.R_alloc | apply Kd.R_drewN | apply Kd.R_drew)); exact HO_613001.out) hb); have n1_ := Aside0.mk (Kd.R_below (by (with_reducible repeat (first | apply Kd.R_alloc | apply Kd.R_drewN | apply Kd.R_drew)); exact HO_618001.out) hb); have n2_ := Aside0.mk (Kd.R_below (by (with_reducible repeat (first | apply Kd.R_alloc | apply Kd.R_drewN | apply Kd.R_drew)); exact HO_624001.out) hb); have n3_ := Aside0.mk (Kd.R_below (by (with_reducible repeat (first | apply Kd.R_alloc | apply Kd.R_drewN | apply Kd.R_drew)); exact HO639.out) hb); have n4_ := Aside0.mk (Kd.R_below (by (with_reducible repeat (first | apply Kd.R_alloc | apply Kd.R_drewN | apply Kd.R_drew)); exact HO643.out) hb); have n5_ := Aside0.mk (blk_below (g := gb601) (o := .cells #[.int .i64 a0_0, .slice A0_1 l0_1.length c0_1] 59 (0, 0)) (by (with_reducible repeat (first | refine blk_drewN ?_ _ | refine blk_drew ?_ | refine blk_alloc ?_ _)); exact BK601.out) hb); have n6_ := Aside0.mk (blk_below (g := gb612) (o := .cells #[.int .i64 t607, .slice Ao25 t608.length co25] 61 (0, 0)) (by (with_reducible repeat (first | refine blk_drewN ?_ _ | refine blk_drew ?_ | refine blk_alloc ?_ _)); exact BK612.out) hb); have n7_ := Aside0.mk (blk_below (g := gb617) (o := .cells #[.int .i64 t613, .slice Ao32 t631.length co32] 61 (0, 0)) (by (with_reducible repeat (first | refine blk_drewN ?_ _ | refine blk_drew ?_ | refine blk_alloc ?_ _)); exact BK617.out) hb); have n8_ := Aside0.mk (blk_below (g := gb623) (o := .cells #[.int .i64 t618, .slice Ao39 t619.length co39] 61 (0, 0)) (by (with_reducible repeat (first | refine blk_drewN ?_ _ | refine blk_drew ?_ | refine blk_alloc ?_ _)); exact BK623.out) hb); have n9_ := Aside0.mk (below_step (by repeat (first | (with_reducible first | exact HB.out | apply below_alloc | apply pw_below_drewN | apply below_drew1 | refine below_set ?_ GE601.out | refine below_set ?_ GE612.out | refine below_set ?_ GE617.out | refine below_set ?_ GE623.out) | exact HB.out)) hb); have n10_ := Aside0.mk (hbox); have n11_ := Aside0.mk ((by rw [hg]; exact (below_size (by repeat (first | (with_reducible first | exact HB.out | apply below_alloc | apply pw_below_drewN | apply below_drew1 | refine below_set ?_ GE601.out | refine below_set ?_ GE612.out | refine below_set ?_ GE617.out | refine below_set ?_ GE623.out) | exact HB.out))) : w.heap.size ≤ gb645)); have n12_ := Aside0.mk ((by rw [hg]; exact (below_size (by repeat (first | (with_reducible first | exact HB.out | apply below_alloc | apply pw_below_drewN | apply below_drew1 | refine below_set ?_ GE601.out | refine below_set ?_ GE612.out | refine below_set ?_ GE617.out | refine below_set ?_ GE623.out) | exact HB.out))) : w.heap.size ≤ gb645)); have n13_ := Aside0.mk ((by rw [hg]; exact Nat.ne_of_lt (blk_lt (g := gb601) (o := .cells #[.int .i64 a0_0, .slice A0_1 l0_1.length c0_1] 59 (0, 0)) (by (with_reducible repeat (first | refine blk_drewN ?_ _ | refine blk_drew ?_ | refine blk_alloc ?_ _)); exact BK601.out)) : gb601 ≠ gb645)); have n14_ := Aside0.mk ((by rw [hg]; exact Nat.ne_of_gt (blk_lt (g := gb601) (o := .cells #[.int .i64 a0_0, .slice A0_1 l0_1.length c0_1] 59 (0, 0)) (by (with_reducible repeat (first | refine blk_drewN ?_ _ | refine blk_drew ?_ | refine blk_alloc ?_ _)); exact BK601.out)) : gb645 ≠ gb601)); have n15_ := Aside0.mk ((by rw [hg]; exact Nat.ne_of_lt (blk_lt (g := gb612) (o := .cells #[.int .i64 t607, .slice Ao25 t608.length co25] 61 (0, 0)) (by (with_reducible repeat (first | refine blk_drewN ?_ _ | refine blk_drew ?_ | refine blk_alloc ?_ _)); exact BK612.out)) : gb612 ≠ gb645)); have n16_ := Aside0.mk ((by rw [hg]; exact Nat.ne_of_gt (blk_lt (g := gb612) (o := .cells #[.int .i64 t607, .slice Ao25 t608.length co25] 61 (0, 0)) (by (with_reducible repeat (first | refine blk_drewN ?_ _ | refine blk_drew ?_ | refine blk_alloc ?_ _)); exact BK612.out)) : gb645 ≠ gb612)); have n17_ := Aside0.mk ((by rw [hg]; exact Nat.ne_of_lt (blk_lt (g := gb617) (o := .cells #[.int .i64 t613, .slice Ao32 t631.length co32] 61 (0, 0)) (by (with_reducible repeat (first | refine blk_drewN ?_ _ | refine blk_drew ?_ | refine blk_alloc ?_ _)); exact BK617.out)) : gb617 ≠ gb645)); have n18_ := Aside0.mk ((by rw [hg]; exact Nat.ne_of_gt (blk_lt (g := gb617) (o := .cells #[.int .i64 t613, .slice Ao32 t631.length co32] 61 (0, 0)) (by (with_reducible repeat (first | refine blk_drewN ?_ _ | refine blk_drew ?_ | refine blk_alloc ?_ _)); exact BK617.out)) : gb645 ≠ gb617)); have n19_ := Aside0.mk ((by rw [hg]; exact Nat.ne_of_lt (blk_lt (g := gb623) (o := .cells #[.int .i64 t618, .slice Ao39 t619.length co39] 61 (0, 0)) (by (with_reducible repeat (first | refine blk_drewN ?_ _ | refine blk_drew ?_ | refine blk_alloc ?_ _)); exact BK623.out)) : gb623 ≠ gb645)); have n20_ := Aside0.mk ((by rw [hg]; exact Nat.ne_of_gt (blk_lt (g := gb623) (o := .cells #[.int .i64 t618, .slice Ao39 t619.length co39] 61 (0, 0)) (by (with_reducible repeat (first | refine blk_drewN ?_ _ | refine blk_drew ?_ | refine blk_alloc ?_ _)); exact BK623.out)) : gb645 ≠ gb623)); clear HO_613001; clear HO_618001; clear HO_624001; clear HO639; clear HO643; clear BK601; clear BK612; clear BK617; clear BK623; clear HB; have HO_613001 := n0_; have HO_618001 := n1_; have HO_624001 := n2_; have HO639 := n3_; have HO643 := n4_; have BK601 := n5_; have BK612 := n6_; have BK617 := n7_; have BK623 := n8_; have HB := n9_; have BK645 := n10_; have GW645 := n11_; have GE645 := n12_; have NB601_645 := n13_; have NB645_601 := n14_; have NB612_645 := n15_; have NB645_612 := n16_; have NB617_645 := n17_; have NB645_617 := n18_; have NB623_645 := n19_; have NB645_623 := n20_; clear n0_ n1_ n2_ n3_ n4_ n5_ n6_ n7_ n8_ n9_ n10_ n11_ n12_ n13_ n14_ n15_ n16_ n17_ n18_ n19_ n20_; clear hb hbox hg; have hnb114 := NB645_601.out; have hnc114 := NB601_645.out; have hnb115 := NB645_612.out; have hnc115 := NB612_645.out; have hnb116 := NB645_617.out; have hnc116 := NB617_645.out; have hnb117 := NB645_623.out; have hnc117 := NB623_645.out; have hcz118_0 : w113.cell? ⟨gb645, 0, none⟩ = some (.int .i64 0) := (blk_cell BK645.out 0).trans rfl; have hcz118_1 : w113.cell? ⟨gb645, 1, none⟩ = some (.slice none 0 0) := (blk_cell BK645.out 1).trans rfl; have hfz118_0 := blk_frozen BK645.out 0; have hfz118_1 := blk_frozen BK645.out 1; obtain ⟨Ao119, co119, eo119⟩ := Kd.R_slice HO643.out; subst eo119))
                        (try simp only [Act.put, List.setIfInBounds_toArray, List.set_cons_zero, List.set_cons_succ])
                        go_cut [95] (fun v95 wc => ∃ (kq : Nat) (x95_98 : Bool), v95 = .bool x95_98 ∧ Aside0 (laws_FnExactEdgeAdd.j2 kq t633 x95_98 t618 t634 = some r) ∧ Aside0 (kq ≤ kj62) ∧ Aside0 (Kd.R Kd.string 9 wc w.heap.size (fun k_ => some k_ ≠ ((.slice Ao32 t631.length co32) : Value).ownBlock ∧ some k_ ≠ ((.slice Ao39 t619.length co39) : Value).ownBlock ∧ some k_ ≠ ((.slice Ao119 t641.length co119) : Value).ownBlock) (.slice Ao25 t608.length co25) t608) ∧ Aside0 (Kd.R Kd.string 9 wc w.heap.size (fun k_ => some k_ ≠ ((.slice Ao25 t608.length co25) : Value).ownBlock ∧ some k_ ≠ ((.slice Ao39 t619.length co39) : Value).ownBlock ∧ some k_ ≠ ((.slice Ao119 t641.length co119) : Value).ownBlock) (.slice Ao32 t631.length co32) t631) ∧ Aside0 (Kd.R Kd.string 9 wc w.heap.size (fun k_ => some k_ ≠ ((.slice Ao25 t608.length co25) : Value).ownBlock ∧ some k_ ≠ ((.slice Ao32 t631.length co32) : Value).ownBlock ∧ some k_ ≠ ((.slice Ao119 t641.length co119) : Value).ownBlock) (.slice Ao39 t619.length co39) t634) ∧ Aside0 (Kd.R Kd.string 9 wc w.heap.size (fun k_ => some k_ ≠ ((.slice Ao25 t608.length co25) : Value).ownBlock ∧ some k_ ≠ ((.slice Ao32 t631.length co32) : Value).ownBlock ∧ some k_ ≠ ((.slice Ao39 t619.length co39) : Value).ownBlock) (.slice Ao119 t641.length co119) t641) ∧ Aside0 (wc.heap[gb601]? = some (.cells #[.int .i64 a0_0, (.slice A0_1 l0_1.length c0_1)] 59 (0, 0))) ∧ Aside0 (wc.heap[gb612]? = some (.cells #[.int .i64 t607, (.slice Ao25 t608.length co25)] 61 (0, 0))) ∧ Aside0 (wc.heap[gb617]? = some (.cells #[.int .i64 t613, (.slice Ao32 t631.length co32)] 61 (0, 0))) ∧ Aside0 (wc.heap[gb623]? = some (.cells #[.int .i64 t618, (.slice Ao39 t619.length co39)] 61 (0, 0))) ∧ Aside0 (wc.heap[gb645]? = some (.cells #[.int .i64 t640, (.slice Ao119 t641.length co119)] 61 (0, 0))) ∧ Aside0 (Below w.heap.size w wc))
                        case first =>
                          have H := HC99.out
                          clear HC99
                          replace H := Option.bind_eq_some_iff.mp H
                          obtain ⟨t646, A1200, H⟩ := H
                          replace H : (if t646 = true then (laws_FnExactEdgeAdd.j2 kj62 t633 (t644 != t611) t618 t634) else (laws_FnExactEdgeAdd.j2 kj62 t633 true t618 t634)) = some r := H
                          have A120 := Aside0.mk A1200
                          clear A1200
                          by_cases c121 : t646 = true
                          · subst c121
                            have H1 : (laws_FnExactEdgeAdd.j2 kj62 t633 (t644 != t611) t618 t634) = some r := by rw [if_pos rfl] at H; exact H
                            clear H
                            have H := H1
                            clear H1
                            have H' := Aside0.mk H
                            clear H
                            have hnb122 := NB645_601.out
                            have hnc122 := NB601_645.out
                            have hnb123 := NB645_612.out
                            have hnc123 := NB612_645.out
                            have hnb124 := NB645_617.out
                            have hnc124 := NB617_645.out
                            have hnb125 := NB645_623.out
                            have hnc125 := NB623_645.out
                            have hcz126_0 : w113.cell? ⟨gb645, 0, none⟩ = some (.int .i64 0) := (blk_cell BK645.out 0).trans rfl
                            have hcz126_1 : w113.cell? ⟨gb645, 1, none⟩ = some (.slice none 0 0) := (blk_cell BK645.out 1).trans rfl
                            have hfz126_0 := blk_frozen BK645.out 0
                            have hfz126_1 := blk_frozen BK645.out 1
                            have hnb127 := NB612_601.out
                            have hnc127 := NB601_612.out
                            have hnb128 := NB612_617.out
                            have hnc128 := NB617_612.out
                            have hnb129 := NB612_623.out
                            have hnc129 := NB623_612.out
                            have hcz130_0 : w113.cell? ⟨gb612, 0, none⟩ = some (.int .i64 t607) := (blk_cell BK612.out 0).trans rfl
                            have hcz130_1 : w113.cell? ⟨gb612, 1, none⟩ = some (.slice Ao25 t608.length co25) := (blk_cell BK612.out 1).trans rfl
                            have hfz130_0 := blk_frozen BK612.out 0
                            have hfz130_1 := blk_frozen BK612.out 1
                            go_wp2_with (first | ((with_reducible refine gate_callee (f := 48) rfl ?_); refine goesL_ (some 89) rfl rfl Try.func48 (by kernel_rfl) rfl #[.agg #[.int .i64 t640, .slice Ao119 t641.length co119], .agg #[.int .i64 t607, .slice Ao25 t608.length co25]] rfl (by (try simp only [List.map_toArray, List.map_cons, List.map_nil]); first | done | rfl | (simp only [List.length_drop, List.length_take]; rfl)) ?_; (with_reducible refine (laws_eqEdge.calls kj62 t640 _ _ t641 t607 _ _ t608 true _ ?side1 ?side2 ?side3 ?side4 A120.out).mono ?_); (case side1 => refine (Kd.R_reads' (e := 9) (base := w.heap.size) (ok := fun k_ => ((((True ∧ some k_ ≠ (.slice Ao25 t608.length co25 : Value).ownBlock) ∧ some k_ ≠ (.slice Ao32 t631.length co32 : Value).ownBlock) ∧ some k_ ≠ (.slice Ao39 t619.length co39 : Value).ownBlock) ∧ some k_ ≠ (.slice Ao111 t637.length co111 : Value).ownBlock)) (n := t641.length) (c := co119) ?_).2.2; exact (by (with_reducible repeat (first | apply Kd.R_alloc | apply Kd.R_drewN | apply Kd.R_drew)); exact (Kd.R_mono (Kd.R_far (p := ⟨gb645, 1, none⟩) (Kd.R_far (p := ⟨gb645, 0, none⟩) (Kd.R_types HO643.out BK645.out (by decide)) (fun _ hk => hk.2) (.int .i64 t640)) (fun _ hk => hk.2) (.slice Ao119 t641.length co119)) (fun _ h_ => h_.1)))); (case side2 => exact (Kd.R_reads' HO643.out).2.1); (case side3 => refine (Kd.R_reads' (e := 9) (base := w.heap.size) (ok := fun k_ => (((some k_ ≠ (.slice Ao32 t631.length co32 : Value).ownBlock ∧ some k_ ≠ (.slice Ao39 t619.length co39 : Value).ownBlock) ∧ some k_ ≠ (.slice Ao111 t637.length co111 : Value).ownBlock) ∧ some k_ ≠ (.slice Ao119 t641.length co119 : Value).ownBlock)) (n := t608.length) (c := co25) ?_).2.2; exact (by (with_reducible repeat (first | apply Kd.R_alloc | apply Kd.R_drewN | apply Kd.R_drew)); exact (Kd.R_mono (Kd.R_far (p := ⟨gb645, 1, none⟩) (Kd.R_far (p := ⟨gb645, 0, none⟩) (Kd.R_types HO_613001.out BK645.out (by decide)) (fun _ hk => hk.2) (.int .i64 t640)) (fun _ hk => hk.2) (.slice Ao119 t641.length co119)) (fun _ h_ => h_.1)))); (case side4 => exact (Kd.R_reads' HO_613001.out).2.1); rintro e w131 ⟨rfl, hb⟩; refine ⟨_, rfl, ?_⟩; have n0_ := Aside0.mk (Kd.R_below (by (with_reducible repeat (first | apply Kd.R_alloc | apply Kd.R_drewN | apply Kd.R_drew)); exact (Kd.R_mono (Kd.R_far (p := ⟨gb645, 1, none⟩) (Kd.R_far (p := ⟨gb645, 0, none⟩) (Kd.R_types HO_613001.out BK645.out (by decide)) (fun _ hk => hk.2) (.int .i64 t640)) (fun _ hk => hk.2) (.slice Ao119 t641.length co119)) (fun _ h_ => h_.1))) hb); have n1_ := Aside0.mk (Kd.R_below (by (with_reducible repeat (first | apply Kd.R_alloc | apply Kd.R_drewN | apply Kd.R_drew)); exact (Kd.R_mono (Kd.R_far (p := ⟨gb645, 1, none⟩) (Kd.R_far (p := ⟨gb645, 0, none⟩) (Kd.R_types HO_618001.out BK645.out (by decide)) (fun _ hk => hk.2) (.int .i64 t640)) (fun _ hk => hk.2) (.slice Ao119 t641.length co119)) (fun _ h_ => h_.1))) hb); have n2_ := Aside0.mk (Kd.R_below (by (with_reducible repeat (first | apply Kd.R_alloc | apply Kd.R_drewN | apply Kd.R_drew)); exact (Kd.R_mono (Kd.R_far (p := ⟨gb645, 1, none⟩) (Kd.R_far (p := ⟨gb645, 0, none⟩) (Kd.R_types HO_624001.out BK645.out (by decide)) (fun _ hk => hk.2) (.int .i64 t640)) (fun _ hk => hk.2) (.slice Ao119 t641.length co119)) (fun _ h_ => h_.1))) hb); have n3_ := Aside0.mk (Kd.R_below (by (with_reducible repeat (first | apply Kd.R_alloc | apply Kd.R_drewN | apply Kd.R_drew)); exact (Kd.R_mono (Kd.R_far (p := ⟨gb645, 1, none⟩) (Kd.R_far (p := ⟨gb645, 0, none⟩) (Kd.R_types HO639.out BK645.out (by decide)) (fun _ hk => hk.2) (.int .i64 t640)) (fun _ hk => hk.2) (.slice Ao119 t641.length co119)) (fun _ h_ => h_.1))) hb); have n4_ := Aside0.mk (Kd.R_below (by (with_reducible repeat (first | apply Kd.R_alloc | apply Kd.R_drewN | apply Kd.R_drew)); exact (Kd.R_mono (Kd.R_far (p := ⟨gb645, 1, none⟩) (Kd.R_far (p := ⟨gb645, 0, none⟩) (Kd.R_types HO643.out BK645.out (by decide)) (fun _ hk => hk.2) (.int .i64 t640)) (fun _ hk => hk.2) (.slice Ao119 t641.length co119)) (fun _ h_ => h_.1))) hb); have n5_ := Aside0.mk (blk_below (g := gb601) (o := .cells #[.int .i64 a0_0, .slice A0_1 l0_1.length c0_1] 59 (0, 0)) (by (with_reducible repeat (first | refine blk_drewN ?_ _ | refine blk_drew ?_ | refine blk_alloc ?_ _)); refine blk_far ?_ NB601_645.out _; (with_reducible repeat (first | refine blk_drewN ?_ _ | refine blk_drew ?_ | refine blk_alloc ?_ _)); refine blk_far ?_ NB601_645.out _; (with_reducible repeat (first | refine blk_drewN ?_ _ | refine blk_drew ?_ | refine blk_alloc ?_ _)); exact BK601.out) hb); have n6_ := Aside0.mk (blk_below (g := gb612) (o := .cells #[.int .i64 t607, .slice Ao25 t608.length co25] 61 (0, 0)) (by (with_reducible repeat (first | refine blk_drewN ?_ _ | refine blk_drew ?_ | refine blk_alloc ?_ _)); refine blk_far ?_ NB612_645.out _; (with_reducible repeat (first | refine blk_drewN ?_ _ | refine blk_drew ?_ | refine blk_alloc ?_ _)); refine blk_far ?_ NB612_645.out _; (with_reducible repeat (first | refine blk_drewN ?_ _ | refine blk_drew ?_ | refine blk_alloc ?_ _)); exact BK612.out) hb); have n7_ := Aside0.mk (blk_below (g := gb617) (o := .cells #[.int .i64 t613, .slice Ao32 t631.length co32] 61 (0, 0)) (by (with_reducible repeat (first | refine blk_drewN ?_ _ | refine blk_drew ?_ | refine blk_alloc ?_ _)); refine blk_far ?_ NB617_645.out _; (with_reducible repeat (first | refine blk_drewN ?_ _ | refine blk_drew ?_ | refine blk_alloc ?_ _)); refine blk_far ?_ NB617_645.out _; (with_reducible repeat (first | refine blk_drewN ?_ _ | refine blk_drew ?_ | refine blk_alloc ?_ _)); exact BK617.out) hb); have n8_ := Aside0.mk (blk_below (g := gb623) (o := .cells #[.int .i64 t618, .slice Ao39 t619.length co39] 61 (0, 0)) (by (with_reducible repeat (first | refine blk_drewN ?_ _ | refine blk_drew ?_ | refine blk_alloc ?_ _)); refine blk_far ?_ NB623_645.out _; (with_reducible repeat (first | refine blk_drewN ?_ _ | refine blk_drew ?_ | refine blk_alloc ?_ _)); refine blk_far ?_ NB623_645.out _; (with_reducible repeat (first | refine blk_drewN ?_ _ | refine blk_drew ?_ | refine blk_alloc ?_ _)); exact BK623.out) hb); have n9_ := Aside0.mk (blk_below (g := gb645) (o := .cells #[.int .i64 t640, .slice Ao119 t641.length co119] 61 (0, 0)) (by (with_reducible repeat (first | refine blk_drewN ?_ _ | refine blk_drew ?_ | refine blk_alloc ?_ _)); refine blk_put (cs := #[.int .i64 t640, .slice none 0 0]) ?_ 1 _ rfl; (with_reducible repeat (first | refine blk_drewN ?_ _ | refine blk_drew ?_ | refine blk_alloc ?_ _)); refine blk_put (cs := #[.int .i64 0, .slice none 0 0]) ?_ 0 _ rfl; (with_reducible repeat (first | refine blk_drewN ?_ _ | refine blk_drew ?_ | refine blk_alloc ?_ _)); exact BK645.out) hb); have n10_ := Aside0.mk (below_step (by repeat (first | (with_reducible first | exact HB.out | apply below_alloc | apply pw_below_drewN | apply below_drew1 | refine below_set ?_ GE601.out | refine below_set ?_ GE612.out | refine below_set ?_ GE617.out | refine below_set ?_ GE623.out | refine below_set ?_ GE645.out) | exact HB.out)) hb); clear HO_613001; clear HO_618001; clear HO_624001; clear HO639; clear HO643; clear BK601; clear BK612; clear BK617; clear BK623; clear BK645; clear HB; have HO_613001 := n0_; have HO_618001 := n1_; have HO_624001 := n2_; have HO639 := n3_; have HO643 := n4_; have BK601 := n5_; have BK612 := n6_; have BK617 := n7_; have BK623 := n8_; have BK645 := n9_; have HB := n10_; clear n0_ n1_ n2_ n3_ n4_ n5_ n6_ n7_ n8_ n9_ n10_; (try clear hb); (try clear hb2); (try clear hk); (try clear hi)))
                            go_meet
                            case rel => exact ⟨_, ((t644 != t611)), (by first | rfl | (simp; done) | (simp [*]; done)), H', ⟨by have := HJ13.out; have := HJ62.out; first | omega | exact Nat.le_refl _⟩, ⟨by (try simp only [hl618001_62]); (with_reducible repeat (first | apply Kd.R_alloc | apply Kd.R_drewN | apply Kd.R_drew)); exact Kd.R_mono HO_613001.out (fun _ hk => ⟨hk.1.1.1, ⟨hk.1.1.2, hk.2⟩⟩)⟩, ⟨by (try simp only [hl618001_62]); (with_reducible repeat (first | apply Kd.R_alloc | apply Kd.R_drewN | apply Kd.R_drew)); exact Kd.R_mono HO_618001.out (fun _ hk => ⟨hk.1.1.1, ⟨hk.1.1.2, hk.2⟩⟩)⟩, ⟨by (try simp only [hl618001_62]); (with_reducible repeat (first | apply Kd.R_alloc | apply Kd.R_drewN | apply Kd.R_drew)); exact Kd.R_mono HO_624001.out (fun _ hk => ⟨hk.1.1.1, ⟨hk.1.1.2, hk.2⟩⟩)⟩, ⟨by (try simp only [hl618001_62]); (with_reducible repeat (first | apply Kd.R_alloc | apply Kd.R_drewN | apply Kd.R_drew)); exact Kd.R_mono HO643.out (fun _ hk => ⟨hk.1.1.1.2, ⟨hk.1.1.2, hk.1.2⟩⟩)⟩, ⟨by (try simp only [hl618001_62]); (with_reducible repeat (first | refine blk_drewN ?_ _ | refine blk_drew ?_ | refine blk_alloc ?_ _)); exact BK601.out⟩, ⟨by (try simp only [hl618001_62]); (with_reducible repeat (first | refine blk_drewN ?_ _ | refine blk_drew ?_ | refine blk_alloc ?_ _)); exact BK612.out⟩, ⟨by (try simp only [hl618001_62]); (with_reducible repeat (first | refine blk_drewN ?_ _ | refine blk_drew ?_ | refine blk_alloc ?_ _)); exact BK617.out⟩, ⟨by (try simp only [hl618001_62]); (with_reducible repeat (first | refine blk_drewN ?_ _ | refine blk_drew ?_ | refine blk_alloc ?_ _)); exact BK623.out⟩, ⟨by (try simp only [hl618001_62]); (with_reducible repeat (first | refine blk_drewN ?_ _ | refine blk_drew ?_ | refine blk_alloc ?_ _)); exact BK645.out⟩, ⟨by repeat (first | (with_reducible first | exact HB.out | apply below_alloc | apply pw_below_drewN | apply below_drew1 | refine below_set ?_ GE601.out | refine below_set ?_ GE612.out | refine below_set ?_ GE617.out | refine below_set ?_ GE623.out | refine below_set ?_ GE645.out) | exact HB.out)⟩⟩
                          · replace c121 := Bool.eq_false_iff.mpr c121
                            subst c121
                            have H1 : (laws_FnExactEdgeAdd.j2 kj62 t633 true t618 t634) = some r := by rw [if_neg (show ¬ (false = true) by decide)] at H; exact H
                            clear H
                            have H := H1
                            clear H1
                            have H' := Aside0.mk H
                            clear H
                            have hnb132 := NB645_601.out
                            have hnc132 := NB601_645.out
                            have hnb133 := NB645_612.out
                            have hnc133 := NB612_645.out
                            have hnb134 := NB645_617.out
                            have hnc134 := NB617_645.out
                            have hnb135 := NB645_623.out
                            have hnc135 := NB623_645.out
                            have hcz136_0 : w113.cell? ⟨gb645, 0, none⟩ = some (.int .i64 0) := (blk_cell BK645.out 0).trans rfl
                            have hcz136_1 : w113.cell? ⟨gb645, 1, none⟩ = some (.slice none 0 0) := (blk_cell BK645.out 1).trans rfl
                            have hfz136_0 := blk_frozen BK645.out 0
                            have hfz136_1 := blk_frozen BK645.out 1
                            have hnb137 := NB612_601.out
                            have hnc137 := NB601_612.out
                            have hnb138 := NB612_617.out
                            have hnc138 := NB617_612.out
                            have hnb139 := NB612_623.out
                            have hnc139 := NB623_612.out
                            have hcz140_0 : w113.cell? ⟨gb612, 0, none⟩ = some (.int .i64 t607) := (blk_cell BK612.out 0).trans rfl
                            have hcz140_1 : w113.cell? ⟨gb612, 1, none⟩ = some (.slice Ao25 t608.length co25) := (blk_cell BK612.out 1).trans rfl
                            have hfz140_0 := blk_frozen BK612.out 0
                            have hfz140_1 := blk_frozen BK612.out 1
                            go_wp2_with (first | ((with_reducible refine gate_callee (f := 48) rfl ?_); refine goesL_ (some 89) rfl rfl Try.func48 (by kernel_rfl) rfl #[.agg #[.int .i64 t640, .slice Ao119 t641.length co119], .agg #[.int .i64 t607, .slice Ao25 t608.length co25]] rfl (by (try simp only [List.map_toArray, List.map_cons, List.map_nil]); first | done | rfl | (simp only [List.length_drop, List.length_take]; rfl)) ?_; (with_reducible refine (laws_eqEdge.calls kj62 t640 _ _ t641 t607 _ _ t608 false _ ?side1 ?side2 ?side3 ?side4 A120.out).mono ?_); (case side1 => refine (Kd.R_reads' (e := 9) (base := w.heap.size) (ok := fun k_ => ((((True ∧ some k_ ≠ (.slice Ao25 t608.length co25 : Value).ownBlock) ∧ some k_ ≠ (.slice Ao32 t631.length co32 : Value).ownBlock) ∧ some k_ ≠ (.slice Ao39 t619.length co39 : Value).ownBlock) ∧ some k_ ≠ (.slice Ao111 t637.length co111 : Value).ownBlock)) (n := t641.length) (c := co119) ?_).2.2; exact (by (with_reducible repeat (first | apply Kd.R_alloc | apply Kd.R_drewN | apply Kd.R_drew)); exact (Kd.R_mono (Kd.R_far (p := ⟨gb645, 1, none⟩) (Kd.R_far (p := ⟨gb645, 0, none⟩) (Kd.R_types HO643.out BK645.out (by decide)) (fun _ hk => hk.2) (.int .i64 t640)) (fun _ hk => hk.2) (.slice Ao119 t641.length co119)) (fun _ h_ => h_.1)))); (case side2 => exact (Kd.R_reads' HO643.out).2.1); (case side3 => refine (Kd.R_reads' (e := 9) (base := w.heap.size) (ok := fun k_ => (((some k_ ≠ (.slice Ao32 t631.length co32 : Value).ownBlock ∧ some k_ ≠ (.slice Ao39 t619.length co39 : Value).ownBlock) ∧ some k_ ≠ (.slice Ao111 t637.length co111 : Value).ownBlock) ∧ some k_ ≠ (.slice Ao119 t641.length co119 : Value).ownBlock)) (n := t608.length) (c := co25) ?_).2.2; exact (by (with_reducible repeat (first | apply Kd.R_alloc | apply Kd.R_drewN | apply Kd.R_drew)); exact (Kd.R_mono (Kd.R_far (p := ⟨gb645, 1, none⟩) (Kd.R_far (p := ⟨gb645, 0, none⟩) (Kd.R_types HO_613001.out BK645.out (by decide)) (fun _ hk => hk.2) (.int .i64 t640)) (fun _ hk => hk.2) (.slice Ao119 t641.length co119)) (fun _ h_ => h_.1)))); (case side4 => exact (Kd.R_reads' HO_613001.out).2.1); rintro e w141 ⟨rfl, hb⟩; refine ⟨_, rfl, ?_⟩; have n0_ := Aside0.mk (Kd.R_below (by (with_reducible repeat (first | apply Kd.R_alloc | apply Kd.R_drewN | apply Kd.R_drew)); exact (Kd.R_mono (Kd.R_far (p := ⟨gb645, 1, none⟩) (Kd.R_far (p := ⟨gb645, 0, none⟩) (Kd.R_types HO_613001.out BK645.out (by decide)) (fun _ hk => hk.2) (.int .i64 t640)) (fun _ hk => hk.2) (.slice Ao119 t641.length co119)) (fun _ h_ => h_.1))) hb); have n1_ := Aside0.mk (Kd.R_below (by (with_reducible repeat (first | apply Kd.R_alloc | apply Kd.R_drewN | apply Kd.R_drew)); exact (Kd.R_mono (Kd.R_far (p := ⟨gb645, 1, none⟩) (Kd.R_far (p := ⟨gb645, 0, none⟩) (Kd.R_types HO_618001.out BK645.out (by decide)) (fun _ hk => hk.2) (.int .i64 t640)) (fun _ hk => hk.2) (.slice Ao119 t641.length co119)) (fun _ h_ => h_.1))) hb); have n2_ := Aside0.mk (Kd.R_below (by (with_reducible repeat (first | apply Kd.R_alloc | apply Kd.R_drewN | apply Kd.R_drew)); exact (Kd.R_mono (Kd.R_far (p := ⟨gb645, 1, none⟩) (Kd.R_far (p := ⟨gb645, 0, none⟩) (Kd.R_types HO_624001.out BK645.out (by decide)) (fun _ hk => hk.2) (.int .i64 t640)) (fun _ hk => hk.2) (.slice Ao119 t641.length co119)) (fun _ h_ => h_.1))) hb); have n3_ := Aside0.mk (Kd.R_below (by (with_reducible repeat (first | apply Kd.R_alloc | apply Kd.R_drewN | apply Kd.R_drew)); exact (Kd.R_mono (Kd.R_far (p := ⟨gb645, 1, none⟩) (Kd.R_far (p := ⟨gb645, 0, none⟩) (Kd.R_types HO639.out BK645.out (by decide)) (fun _ hk => hk.2) (.int .i64 t640)) (fun _ hk => hk.2) (.slice Ao119 t641.length co119)) (fun _ h_ => h_.1))) hb); have n4_ := Aside0.mk (Kd.R_below (by (with_reducible repeat (first | apply Kd.R_alloc | apply Kd.R_drewN | apply Kd.R_drew)); exact (Kd.R_mono (Kd.R_far (p := ⟨gb645, 1, none⟩) (Kd.R_far (p := ⟨gb645, 0, none⟩) (Kd.R_types HO643.out BK645.out (by decide)) (fun _ hk => hk.2) (.int .i64 t640)) (fun _ hk => hk.2) (.slice Ao119 t641.length co119)) (fun _ h_ => h_.1))) hb); have n5_ := Aside0.mk (blk_below (g := gb601) (o := .cells #[.int .i64 a0_0, .slice A0_1 l0_1.length c0_1] 59 (0, 0)) (by (with_reducible repeat (first | refine blk_drewN ?_ _ | refine blk_drew ?_ | refine blk_alloc ?_ _)); refine blk_far ?_ NB601_645.out _; (with_reducible repeat (first | refine blk_drewN ?_ _ | refine blk_drew ?_ | refine blk_alloc ?_ _)); refine blk_far ?_ NB601_645.out _; (with_reducible repeat (first | refine blk_drewN ?_ _ | refine blk_drew ?_ | refine blk_alloc ?_ _)); exact BK601.out) hb); have n6_ := Aside0.mk (blk_below (g := gb612) (o := .cells #[.int .i64 t607, .slice Ao25 t608.length co25] 61 (0, 0)) (by (with_reducible repeat (first | refine blk_drewN ?_ _ | refine blk_drew ?_ | refine blk_alloc ?_ _)); refine blk_far ?_ NB612_645.out _; (with_reducible repeat (first | refine blk_drewN ?_ _ | refine blk_drew ?_ | refine blk_alloc ?_ _)); refine blk_far ?_ NB612_645.out _; (with_reducible repeat (first | refine blk_drewN ?_ _ | refine blk_drew ?_ | refine blk_alloc ?_ _)); exact BK612.out) hb); have n7_ := Aside0.mk (blk_below (g := gb617) (o := .cells #[.int .i64 t613, .slice Ao32 t631.length co32] 61 (0, 0)) (by (with_reducible repeat (first | refine blk_drewN ?_ _ | refine blk_drew ?_ | refine blk_alloc ?_ _)); refine blk_far ?_ NB617_645.out _; (with_reducible repeat (first | refine blk_drewN ?_ _ | refine blk_drew ?_ | refine blk_alloc ?_ _)); refine blk_far ?_ NB617_645.out _; (with_reducible repeat (first | refine blk_drewN ?_ _ | refine blk_drew ?_ | refine blk_alloc ?_ _)); exact BK617.out) hb); have n8_ := Aside0.mk (blk_below (g := gb623) (o := .cells #[.int .i64 t618, .slice Ao39 t619.length co39] 61 (0, 0)) (by (with_reducible repeat (first | refine blk_drewN ?_ _ | refine blk_drew ?_ | refine blk_alloc ?_ _)); refine blk_far ?_ NB623_645.out _; (with_reducible repeat (first | refine blk_drewN ?_ _ | refine blk_drew ?_ | refine blk_alloc ?_ _)); refine blk_far ?_ NB623_645.out _; (with_reducible repeat (first | refine blk_drewN ?_ _ | refine blk_drew ?_ | refine blk_alloc ?_ _)); exact BK623.out) hb); have n9_ := Aside0.mk (blk_below (g := gb645) (o := .cells #[.int .i64 t640, .slice Ao119 t641.length co119] 61 (0, 0)) (by (with_reducible repeat (first | refine blk_drewN ?_ _ | refine blk_drew ?_ | refine blk_alloc ?_ _)); refine blk_put (cs := #[.int .i64 t640, .slice none 0 0]) ?_ 1 _ rfl; (with_reducible repeat (first | refine blk_drewN ?_ _ | refine blk_drew ?_ | refine blk_alloc ?_ _)); refine blk_put (cs := #[.int .i64 0, .slice none 0 0]) ?_ 0 _ rfl; (with_reducible repeat (first | refine blk_drewN ?_ _ | refine blk_drew ?_ | refine blk_alloc ?_ _)); exact BK645.out) hb); have n10_ := Aside0.mk (below_step (by repeat (first | (with_reducible first | exact HB.out | apply below_alloc | apply pw_below_drewN | apply below_drew1 | refine below_set ?_ GE601.out | refine below_set ?_ GE612.out | refine below_set ?_ GE617.out | refine below_set ?_ GE623.out | refine below_set ?_ GE645.out) | exact HB.out)) hb); clear HO_613001; clear HO_618001; clear HO_624001; clear HO639; clear HO643; clear BK601; clear BK612; clear BK617; clear BK623; clear BK645; clear HB; have HO_613001 := n0_; have HO_618001 := n1_; have HO_624001 := n2_; have HO639 := n3_; have HO643 := n4_; have BK601 := n5_; have BK612 := n6_; have BK617 := n7_; have BK623 := n8_; have BK645 := n9_; have HB := n10_; clear n0_ n1_ n2_ n3_ n4_ n5_ n6_ n7_ n8_ n9_ n10_; (try clear hb); (try clear hb2); (try clear hk); (try clear hi)))
                            go_meet
                            case rel => exact ⟨_, (true), (by first | rfl | (simp; done) | (simp [*]; done)), H', ⟨by have := HJ13.out; have := HJ62.out; first | omega | exact Nat.le_refl _⟩, ⟨by (try simp only [hl618001_62]); (with_reducible repeat (first | apply Kd.R_alloc | apply Kd.R_drewN | apply Kd.R_drew)); exact Kd.R_mono HO_613001.out (fun _ hk => ⟨hk.1.1.1, ⟨hk.1.1.2, hk.2⟩⟩)⟩, ⟨by (try simp only [hl618001_62]); (with_reducible repeat (first | apply Kd.R_alloc | apply Kd.R_drewN | apply Kd.R_drew)); exact Kd.R_mono HO_618001.out (fun _ hk => ⟨hk.1.1.1, ⟨hk.1.1.2, hk.2⟩⟩)⟩, ⟨by (try simp only [hl618001_62]); (with_reducible repeat (first | apply Kd.R_alloc | apply Kd.R_drewN | apply Kd.R_drew)); exact Kd.R_mono HO_624001.out (fun _ hk => ⟨hk.1.1.1, ⟨hk.1.1.2, hk.2⟩⟩)⟩, ⟨by (try simp only [hl618001_62]); (with_reducible repeat (first | apply Kd.R_alloc | apply Kd.R_drewN | apply Kd.R_drew)); exact Kd.R_mono HO643.out (fun _ hk => ⟨hk.1.1.1.2, ⟨hk.1.1.2, hk.1.2⟩⟩)⟩, ⟨by (try simp only [hl618001_62]); (with_reducible repeat (first | refine blk_drewN ?_ _ | refine blk_drew ?_ | refine blk_alloc ?_ _)); exact BK601.out⟩, ⟨by (try simp only [hl618001_62]); (with_reducible repeat (first | refine blk_drewN ?_ _ | refine blk_drew ?_ | refine blk_alloc ?_ _)); exact BK612.out⟩, ⟨by (try simp only [hl618001_62]); (with_reducible repeat (first | refine blk_drewN ?_ _ | refine blk_drew ?_ | refine blk_alloc ?_ _)); exact BK617.out⟩, ⟨by (try simp only [hl618001_62]); (with_reducible repeat (first | refine blk_drewN ?_ _ | refine blk_drew ?_ | refine blk_alloc ?_ _)); exact BK623.out⟩, ⟨by (try simp only [hl618001_62]); (with_reducible repeat (first | refine blk_drewN ?_ _ | refine blk_drew ?_ | refine blk_alloc ?_ _)); exact BK645.out⟩, ⟨by repeat (first | (with_reducible first | exact HB.out | apply below_alloc | apply pw_below_drewN | apply below_drew1 | refine below_set ?_ GE601.out | refine below_set ?_ GE612.out | refine below_set ?_ GE617.out | refine below_set ?_ GE623.out | refine below_set ?_ GE645.out) | exact HB.out)⟩⟩
                        case rest =>
                          clear HC99
                          try clear c1
                          try clear c2
                          try clear p2
                          try clear c3
                          try clear c3b0
                          try clear c3b1
                          try clear c4
                          try clear c5
                          try clear c6
                          try clear c6b0
                          try clear c7
                          try clear c8
                          try clear c9
                          try clear c10
                          try clear c11
                          try clear c12
                          try clear c13
                          try clear c23
                          try clear c29
                          try clear c30
                          try clear c35
                          try clear c36
                          try clear c37
                          try clear c41
                          try clear c42
                          try clear c43
                          try clear c44
                          try clear c45
                          try clear c46
                          try clear c47
                          try clear c48
                          try clear c49
                          try clear c50
                          try clear c51
                          try clear c52
                          try clear c54
                          try clear c55
                          try clear c58
                          try clear c61
                          try clear c68
                          try clear c69
                          try clear c70
                          try clear c73
                          try clear c73b0
                          try clear c75
                          try clear c76
                          try clear c77
                          try clear c78
                          try clear c80
                          try clear c81
                          try clear c84
                          try clear c85
                          try clear c86
                          try clear c88
                          try clear c89
                          try clear c92
                          try clear c95
                          try clear c95b0
                          try clear c96
                          try clear c96b0
                          try clear c96b1
                          try clear c100
                          try clear c101
                          try clear c102
                          try clear c107
                          try clear c108
                          try clear c114
                          try clear c115
                          try clear c116
                          try clear c117
                          try clear c121
                          try clear c122
                          try clear c123
                          try clear c124
                          try clear c125
                          try clear c127
                          try clear c128
                          try clear c129
                          try clear c132
                          try clear c133
                          try clear c134
                          try clear c135
                          try clear c137
                          try clear c138
                          try clear c139
                          try clear hcz103_0
                          try clear hcz103_1
                          try clear hcz105_0
                          try clear hcz105_1
                          try clear hcz109_0
                          try clear hcz109_1
                          try clear hcz118_0
                          try clear hcz118_1
                          try clear hcz126_0
                          try clear hcz126_1
                          try clear hcz130_0
                          try clear hcz130_1
                          try clear hcz136_0
                          try clear hcz136_1
                          try clear hcz140_0
                          try clear hcz140_1
                          try clear hcz16_0
                          try clear hcz16_1
                          try clear hcz18_0
                          try clear hcz18_1
                          try clear hcz24_0
                          try clear hcz24_1
                          try clear hcz26_0
                          try clear hcz26_1
                          try clear hcz31_0
                          try clear hcz31_1
                          try clear hcz38_0
                          try clear hcz38_1
                          try clear hcz45_0
                          try clear hcz45_1
                          try clear hcz48_0
                          try clear hcz48_1
                          try clear hcz53_0
                          try clear hcz53_1
                          try clear hcz56_0
                          try clear hcz56_1
                          try clear hcz71_0
                          try clear hcz71_1
                          try clear hcz79_0
                          try clear hcz79_1
                          try clear hcz82_0
                          try clear hcz82_1
                          try clear hcz87_0
                          try clear hcz87_1
                          try clear hcz8_0
                          try clear hcz8_1
                          try clear hcz90_0
                          try clear hcz90_1
                          try clear hfz103_0
                          try clear hfz103_1
                          try clear hfz105_0
                          try clear hfz105_1
                          try clear hfz109_0
                          try clear hfz109_1
                          try clear hfz118_0
                          try clear hfz118_1
                          try clear hfz126_0
                          try clear hfz126_1
                          try clear hfz130_0
                          try clear hfz130_1
                          try clear hfz136_0
                          try clear hfz136_1
                          try clear hfz140_0
                          try clear hfz140_1
                          try clear hfz16_0
                          try clear hfz16_1
                          try clear hfz18_0
                          try clear hfz18_1
                          try clear hfz24_0
                          try clear hfz24_1
                          try clear hfz26_0
                          try clear hfz26_1
                          try clear hfz31_0
                          try clear hfz31_1
                          try clear hfz38_0
                          try clear hfz38_1
                          try clear hfz45_0
                          try clear hfz45_1
                          try clear hfz48_0
                          try clear hfz48_1
                          try clear hfz53_0
                          try clear hfz53_1
                          try clear hfz56_0
                          try clear hfz56_1
                          try clear hfz71_0
                          try clear hfz71_1
                          try clear hfz79_0
                          try clear hfz79_1
                          try clear hfz82_0
                          try clear hfz82_1
                          try clear hfz87_0
                          try clear hfz87_1
                          try clear hfz8_0
                          try clear hfz8_1
                          try clear hfz90_0
                          try clear hfz90_1
                          try clear p2
                          obtain ⟨kq, x95_98, rfl, HA, HJ98, HO_613001, HO_618001, HO_624001, HO_646001, BK601, BK612, BK617, BK623, BK645, HB⟩ := hcut
                          have hl624001_98 := (Kd.R_reads' HO_624001.out).1
                          rw [hl624001_98] at HO_624001
                          (try simp only [hl624001_98])
                          (try simp only [hl624001_98] at BK601)
                          (try simp only [hl624001_98] at BK612)
                          (try simp only [hl624001_98] at BK617)
                          (try simp only [hl624001_98] at BK623)
                          (try simp only [hl624001_98] at BK645)
                          (try simp only [hl624001_98] at HO_613001)
                          (try simp only [hl624001_98] at HO_618001)
                          (try simp only [hl624001_98] at HO_646001)
                          cases kq with
                          | zero => exact absurd HA.out (by simp [laws_FnExactEdgeAdd.j2])
                          | succ kj98 =>
                            have H := HA.out
                            clear HA
                            simp only [laws_FnExactEdgeAdd.j2] at H
                            by_cases c142 : x95_98 = true
                            · subst c142
                              have H1 : (none) = some r := by rw [if_pos rfl] at H; exact H
                              clear H
                              have H := H1
                              clear H1
                              exact absurd H (by simp)
                            · replace c142 := Bool.eq_false_iff.mpr c142
                              subst c142
                              have H1 : ((laws_heldEdge.f kj98 t618 t634 1).bind fun t647 => (if t647 < 0 then (none) else (if t647 = t633 then (some true) else (none)))) = some r := by rw [if_neg (show ¬ (false = true) by decide)] at H; exact H
                              clear H
                              have H := H1
                              clear H1
                              replace H := Option.bind_eq_some_iff.mp H
                              obtain ⟨t647, A1430, H⟩ := H
                              replace H : (if t647 < 0 then (none) else (if t647 = t633 then (some true) else (none))) = some r := H
                              have A143 := Aside0.mk A1430
                              clear A1430
                              by_cases c144 : t647 < 0
                              · rw [if_pos c144] at H
                                exact absurd H (by simp)
                              · rw [if_neg c144] at H
                                have c144b0 : decide (t647 < 0) = false := decide_eq_false c144
                                clear c144
                                by_cases c145 : t647 = t633
                                · rw [if_pos c145] at H
                                  have c145b0 : (t647 == t633) = true := beq_iff_eq.mpr c145
                                  have c145b1 : (t647 != t633) = false := bne_eq_false_iff_eq.mpr c145
                                  clear c145
                                  obtain rfl := Option.some.inj H
                                  have hnb146 := NB623_601.out
                                  have hnc146 := NB601_623.out
                                  have hnb147 := NB623_612.out
                                  have hnc147 := NB612_623.out
                                  have hnb148 := NB623_617.out
                                  have hnc148 := NB617_623.out
                                  have hnb149 := NB623_645.out
                                  have hnc149 := NB645_623.out
                                  have hcz150_0 : wc.cell? ⟨gb623, 0, none⟩ = some (.int .i64 t618) := (blk_cell BK623.out 0).trans rfl
                                  have hcz150_1 : wc.cell? ⟨gb623, 1, none⟩ = some (.slice Ao39 t634.length co39) := (blk_cell BK623.out 1).trans rfl
                                  have hfz150_0 := blk_frozen BK623.out 0
                                  have hfz150_1 := blk_frozen BK623.out 1
                                  go_wp2_with (first | ((with_reducible refine gate_callee (f := 50) rfl ?_); refine goesL_ (some 98) rfl rfl Try.func50 (by kernel_rfl) rfl #[.agg #[.int .i64 t618, .slice Ao39 t634.length co39], .int .i64 1] rfl (by (try simp only [List.map_toArray, List.map_cons, List.map_nil]); first | done | rfl | (simp only [List.length_drop, List.length_take]; rfl)) ?_; (with_reducible refine (laws_heldEdge.calls kj98 t618 _ _ t634 1 t647 _ ?side1 ?side2 A143.out).mono ?_); (case side1 => repeat (first | exact (Kd.R_reads' HO_624001.out).2.2 | (with_reducible refine Kd.C_alloc ?_ _) | (with_reducible refine Kd.C_drewN ?_ _) | (with_reducible refine Kd.C_drew ?_))); (case side2 => exact (Kd.R_reads' HO_624001.out).2.1); rintro e w151 ⟨rfl, hb⟩; refine ⟨_, rfl, ?_⟩; have n0_ := Aside0.mk (Kd.R_below (by (with_reducible repeat (first | apply Kd.R_alloc | apply Kd.R_drewN | apply Kd.R_drew)); exact HO_613001.out) hb); have n1_ := Aside0.mk (Kd.R_below (by (with_reducible repeat (first | apply Kd.R_alloc | apply Kd.R_drewN | apply Kd.R_drew)); exact HO_618001.out) hb); have n2_ := Aside0.mk (Kd.R_below (by (with_reducible repeat (first | apply Kd.R_alloc | apply Kd.R_drewN | apply Kd.R_drew)); exact HO_624001.out) hb); have n3_ := Aside0.mk (Kd.R_below (by (with_reducible repeat (first | apply Kd.R_alloc | apply Kd.R_drewN | apply Kd.R_drew)); exact HO_646001.out) hb); have n4_ := Aside0.mk (blk_below (g := gb601) (o := .cells #[.int .i64 a0_0, .slice A0_1 l0_1.length c0_1] 59 (0, 0)) (by (with_reducible repeat (first | refine blk_drewN ?_ _ | refine blk_drew ?_ | refine blk_alloc ?_ _)); exact BK601.out) hb); have n5_ := Aside0.mk (blk_below (g := gb612) (o := .cells #[.int .i64 t607, .slice Ao25 t608.length co25] 61 (0, 0)) (by (with_reducible repeat (first | refine blk_drewN ?_ _ | refine blk_drew ?_ | refine blk_alloc ?_ _)); exact BK612.out) hb); have n6_ := Aside0.mk (blk_below (g := gb617) (o := .cells #[.int .i64 t613, .slice Ao32 t631.length co32] 61 (0, 0)) (by (with_reducible repeat (first | refine blk_drewN ?_ _ | refine blk_drew ?_ | refine blk_alloc ?_ _)); exact BK617.out) hb); have n7_ := Aside0.mk (blk_below (g := gb623) (o := .cells #[.int .i64 t618, .slice Ao39 t634.length co39] 61 (0, 0)) (by (with_reducible repeat (first | refine blk_drewN ?_ _ | refine blk_drew ?_ | refine blk_alloc ?_ _)); exact BK623.out) hb); have n8_ := Aside0.mk (blk_below (g := gb645) (o := .cells #[.int .i64 t640, .slice Ao119 t641.length co119] 61 (0, 0)) (by (with_reducible repeat (first | refine blk_drewN ?_ _ | refine blk_drew ?_ | refine blk_alloc ?_ _)); exact BK645.out) hb); have n9_ := Aside0.mk (below_step (by repeat (first | (with_reducible first | exact HB.out | apply below_alloc | apply pw_below_drewN | apply below_drew1 | refine below_set ?_ GE601.out | refine below_set ?_ GE612.out | refine below_set ?_ GE617.out | refine below_set ?_ GE623.out | refine below_set ?_ GE645.out) | exact HB.out)) hb); clear HO_613001; clear HO_618001; clear HO_624001; clear HO_646001; clear BK601; clear BK612; clear BK617; clear BK623; clear BK645; clear HB; have HO_613001 := n0_; have HO_618001 := n1_; have HO_624001 := n2_; have HO_646001 := n3_; have BK601 := n4_; have BK612 := n5_; have BK617 := n6_; have BK623 := n7_; have BK645 := n8_; have HB := n9_; clear n0_ n1_ n2_ n3_ n4_ n5_ n6_ n7_ n8_ n9_; (try clear hb); (try clear hb2); (try clear hk); (try clear hi)))
                                  go_ret
                                  exact ⟨by first | rfl | (simp [errW_none, errW_some] <;> rfl) | (simp [*, errW_none, errW_some] <;> rfl), by repeat (first | (with_reducible first | exact HB.out | apply below_alloc | apply pw_below_drewN | apply below_drew1 | refine below_set ?_ GE601.out | refine below_set ?_ GE612.out | refine below_set ?_ GE617.out | refine below_set ?_ GE623.out | refine below_set ?_ GE645.out) | exact HB.out)⟩
                                · rw [if_neg c145] at H
                                  exact absurd H (by simp)
                      · rw [if_neg c96] at H
                        exact absurd H (by simp)
            · replace c61 := Bool.eq_false_iff.mpr c61
              subst c61
              have H1 : (none) = some r := by rw [if_neg (show ¬ (false = true) by decide)] at H; exact H
              clear H
              have H := H1
              clear H1
              exact absurd H (by simp)

end Go.Proofs.Ytoipfpjcpngpfaa.Q
end
