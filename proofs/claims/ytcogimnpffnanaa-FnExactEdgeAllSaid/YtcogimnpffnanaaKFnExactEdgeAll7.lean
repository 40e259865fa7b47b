-- Joined and shortened by a program of this session (wip/tools/shakecopy.py): the words of the print, texts of pp.sh and of mine.
import Derived.Test.YtcogimnpffnanaaKFnExactEdgeAll6
section
namespace Go.Proofs.Ytcogimnpffnanaa.Q
open Go.RowKit Go.Proofs.YtcogimnpffnanaaW.PrintWords Go.Proofs.YtcogimnpffnanaaW.PrintLast Go.Proofs.YtcogimnpffnanaaW.PrintMore
attribute [local go_sem] max2_int min2_int max_two min_two max_three min_three max_four min_four   -- for this text's walks alone
set_option linter.unusedVariables false
set_option linter.unusedSimpArgs false
mutual
def laws_FnExactEdgeAll.j0 : Nat → List ByteArray → Bool → List ByteArray → Bool → Bool → Int → List ByteArray → Int → List ByteArray → Int → List ByteArray → Int → List ByteArray → Option (Bool)
 | 0, _, _, _, _, _, _, _, _, _, _, _, _, _ => none
 | k + 1, x1, x7, x9, x11, x53, x602000, x602001, x617000, x617001, x622000, x622001, x631000, x631001 => if x53 = true then (none) else ((laws_toEdge.f k x602000 x602001).bind fun bt632 => ((laws_eqEdge.f k x622000 x622001 bt632.1 bt632.2).bind fun t636 => (if t636 = true then ((laws_toStringS.f k x1).bind fun t637 => ((laws_eqStringS.f k x9 t637).bind fun t640 => (if t640 = true then ((laws_markEdge.f k x622000 x622001 1).bind fun bt641 => ((laws_markStringS.f k x9 bt641.1).bind fun bt643 => (if bt643.1 < 0 then (laws_FnExactEdgeAll.j1 k x1 x7 true x602000 x602001 x617000 x617001 x631000 x631001) else ((laws_eqEdge.f k x631000 x631001 x617000 x617001).bind fun t645 => (if t645 = true then (laws_FnExactEdgeAll.j1 k x1 x7 (x11 != x7) x602000 x602001 x617000 x617001 x631000 x631001) else (laws_FnExactEdgeAll.j1 k x1 x7 true x602000 x602001 x617000 x617001 x631000 x631001)))))) else (none)))) else (none))))
def laws_FnExactEdgeAll.j1 : Nat → List ByteArray → Bool → Bool → Int → List ByteArray → Int → List ByteArray → Int → List ByteArray → Option (Bool)
 | 0, _, _, _, _, _, _, _, _, _ => none
 | k + 1, x1, x7, x82, x602000, x602001, x617000, x617001, x631000, x631001 => if x82 = true then (none) else ((laws_markEdge.f k x631000 x631001 1).bind fun bt646 => ((laws_heldEdge.f k x631000 bt646.2 1).bind fun t648 => (if t648 < 0 then (none) else (if t648 = bt646.1 then ((laws_toEdge.f k x602000 x602001).bind fun bt649 => ((laws_toStringS.f k x1).bind fun t653 => ((impl_EdgeAll.f k bt649.1 bt649.2 t653).bind fun bt656 => ((laws_eqEdge.f k bt656.1 bt656.2.1 x617000 x617001).bind fun t662 => (if t662 = true then (laws_FnExactEdgeAll.j2 k bt646.1 (bt656.2.2 != x7) x631000 bt646.2) else (laws_FnExactEdgeAll.j2 k bt646.1 true x631000 bt646.2)))))) else (none)))))
def laws_FnExactEdgeAll.j2 : Nat → Int → Bool → Int → List ByteArray → Option (Bool)
 | 0, _, _, _, _ => none
 | k + 1, x13, x110, x631000, x631001 => if x110 = true then (none) else ((laws_heldEdge.f k x631000 x631001 1).bind fun t663 => (if t663 < 0 then (none) else (if t663 = x13 then (some true) else (none))))
end
def laws_FnExactEdgeAll.f (k : Nat) (a0_0 : Int) (l0_1 : List ByteArray) (l1 : List ByteArray) : Option (Bool) := (laws_szEdge.f k a0_0 l0_1 1048576).bind fun t602 => (if t602 < 0 then (some true) else ((laws_szStringS.f k l1 t602).bind fun t603 => (if t603 < 0 then (some true) else ((laws_toEdge.f k a0_0 l0_1).bind fun bt604 => ((laws_toStringS.f k l1).bind fun t608 => ((spec_EdgeAll.f k bt604.1 bt604.2 t608).bind fun bt611 => ((laws_toEdge.f k a0_0 l0_1).bind fun bt617 => ((laws_toStringS.f k l1).bind fun t622 => ((impl_EdgeAll.f k bt617.1 bt617.2 t622).bind fun bt625 => ((laws_eqEdge.f k bt625.1 bt625.2.1 bt611.1 bt611.2.1).bind fun t631 => (if t631 = true then (laws_FnExactEdgeAll.j0 k l1 bt611.2.2 t622 bt625.2.2 (bt625.2.2 != bt611.2.2) a0_0 l0_1 bt611.1 bt611.2.1 bt617.1 bt617.2 bt625.1 bt625.2.1) else (laws_FnExactEdgeAll.j0 k l1 bt611.2.2 t622 bt625.2.2 true a0_0 l0_1 bt611.1 bt611.2.1 bt617.1 bt617.2 bt625.1 bt625.2.1))))))))))))
theorem laws_FnExactEdgeAll.mono_l : ∀ k, (∀ y0 y1 y2 y3 y4 y5 y6 y7 y8 y9 y10 y11 y12, LeO (laws_FnExactEdgeAll.j0 k y0 y1 y2 y3 y4 y5 y6 y7 y8 y9 y10 y11 y12) (laws_FnExactEdgeAll.j0 (k + 1) y0 y1 y2 y3 y4 y5 y6 y7 y8 y9 y10 y11 y12)) ∧ (∀ y0 y1 y2 y3 y4 y5 y6 y7 y8, LeO (laws_FnExactEdgeAll.j1 k y0 y1 y2 y3 y4 y5 y6 y7 y8) (laws_FnExactEdgeAll.j1 (k + 1) y0 y1 y2 y3 y4 y5 y6 y7 y8)) ∧ (∀ y0 y1 y2 y3, LeO (laws_FnExactEdgeAll.j2 k y0 y1 y2 y3) (laws_FnExactEdgeAll.j2 (k + 1) y0 y1 y2 y3))
 | 0 => ⟨fun _ _ _ _ _ _ _ _ _ _ _ _ _ r h => by simp [laws_FnExactEdgeAll.j0] at h, fun _ _ _ _ _ _ _ _ _ r h => by simp [laws_FnExactEdgeAll.j1] at h, fun _ _ _ _ r h => by simp [laws_FnExactEdgeAll.j2] at h⟩
 | k + 1 => by
  obtain ⟨ih0, ih1, ih2⟩ := laws_FnExactEdgeAll.mono_l k
  refine ⟨?_, ?_, ?_⟩
  ·intro y0 y1 y2 y3 y4 y5 y6 y7 y8 y9 y10 y11 y12
   unfold laws_FnExactEdgeAll.j0
   repeat' first
   | (with_reducible exact ih0 _ _ _ _ _ _ _ _ _ _ _ _ _)
   | (with_reducible exact ih1 _ _ _ _ _ _ _ _ _)
   | (with_reducible exact ih2 _ _ _ _)
   | (with_reducible exact impl_EdgeAll.mono _ _ _ _)
   | (with_reducible exact laws_eqEdge.mono _ _ _ _ _)
   | (with_reducible exact laws_eqStringS.mono _ _ _)
   | (with_reducible exact laws_heldEdge.mono _ _ _ _)
   | (with_reducible exact laws_markEdge.mono _ _ _ _)
   | (with_reducible exact laws_markStringS.mono _ _ _)
   | (with_reducible exact laws_szEdge.mono _ _ _ _)
   | (with_reducible exact laws_szStringS.mono _ _ _)
   | (with_reducible exact laws_toEdge.mono _ _ _)
   | (with_reducible exact laws_toStringS.mono _ _)
   | (with_reducible exact spec_EdgeAll.mono _ _ _ _)
   | (with_reducible exact LeO.refl _)
   | (with_reducible exact LeO.none _)
   | (with_reducible refine LeO.ite ?_ ?_)
   | (with_reducible refine LeO.bind ?_ (fun _ => ?_))
   | exact ih0 _ _ _ _ _ _ _ _ _ _ _ _ _
   | exact ih1 _ _ _ _ _ _ _ _ _
   | exact ih2 _ _ _ _
   | exact impl_EdgeAll.mono _ _ _ _
   | exact laws_eqEdge.mono _ _ _ _ _
   | exact laws_eqStringS.mono _ _ _
   | exact laws_heldEdge.mono _ _ _ _
   | exact laws_markEdge.mono _ _ _ _
   | exact laws_markStringS.mono _ _ _
   | exact laws_szEdge.mono _ _ _ _
   | exact laws_szStringS.mono _ _ _
   | exact laws_toEdge.mono _ _ _
   | exact laws_toStringS.mono _ _
   | exact spec_EdgeAll.mono _ _ _ _
   | exact LeO.none _
   | refine LeO.ite ?_ ?_
   | refine LeO.bind ?_ (fun _ => ?_)
  ·intro y0 y1 y2 y3 y4 y5 y6 y7 y8
   unfold laws_FnExactEdgeAll.j1
   repeat' first
   | (with_reducible exact ih0 _ _ _ _ _ _ _ _ _ _ _ _ _)
   | (with_reducible exact ih1 _ _ _ _ _ _ _ _ _)
   | (with_reducible exact ih2 _ _ _ _)
   | (with_reducible exact impl_EdgeAll.mono _ _ _ _)
   | (with_reducible exact laws_eqEdge.mono _ _ _ _ _)
   | (with_reducible exact laws_eqStringS.mono _ _ _)
   | (with_reducible exact laws_heldEdge.mono _ _ _ _)
   | (with_reducible exact laws_markEdge.mono _ _ _ _)
   | (with_reducible exact laws_markStringS.mono _ _ _)
   | (with_reducible exact laws_szEdge.mono _ _ _ _)
   | (with_reducible exact laws_szStringS.mono _ _ _)
   | (with_reducible exact laws_toEdge.mono _ _ _)
   | (with_reducible exact laws_toStringS.mono _ _)
   | (with_reducible exact spec_EdgeAll.mono _ _ _ _)
   | (with_reducible exact LeO.refl _)
   | (with_reducible exact LeO.none _)
   | (with_reducible refine LeO.ite ?_ ?_)
   | (with_reducible refine LeO.bind ?_ (fun _ => ?_))
   | exact ih0 _ _ _ _ _ _ _ _ _ _ _ _ _
   | exact ih1 _ _ _ _ _ _ _ _ _
   | exact ih2 _ _ _ _
   | exact impl_EdgeAll.mono _ _ _ _
   | exact laws_eqEdge.mono _ _ _ _ _
   | exact laws_eqStringS.mono _ _ _
   | exact laws_heldEdge.mono _ _ _ _
   | exact laws_markEdge.mono _ _ _ _
   | exact laws_markStringS.mono _ _ _
   | exact laws_szEdge.mono _ _ _ _
   | exact laws_szStringS.mono _ _ _
   | exact laws_toEdge.mono _ _ _
   | exact laws_toStringS.mono _ _
   | exact spec_EdgeAll.mono _ _ _ _
   | exact LeO.none _
   | refine LeO.ite ?_ ?_
   | refine LeO.bind ?_ (fun _ => ?_)
  ·intro y0 y1 y2 y3
   unfold laws_FnExactEdgeAll.j2
   repeat' first
   | (with_reducible exact ih0 _ _ _ _ _ _ _ _ _ _ _ _ _)
   | (with_reducible exact ih1 _ _ _ _ _ _ _ _ _)
   | (with_reducible exact ih2 _ _ _ _)
   | (with_reducible exact impl_EdgeAll.mono _ _ _ _)
   | (with_reducible exact laws_eqEdge.mono _ _ _ _ _)
   | (with_reducible exact laws_eqStringS.mono _ _ _)
   | (with_reducible exact laws_heldEdge.mono _ _ _ _)
   | (with_reducible exact laws_markEdge.mono _ _ _ _)
   | (with_reducible exact laws_markStringS.mono _ _ _)
   | (with_reducible exact laws_szEdge.mono _ _ _ _)
   | (with_reducible exact laws_szStringS.mono _ _ _)
   | (with_reducible exact laws_toEdge.mono _ _ _)
   | (with_reducible exact laws_toStringS.mono _ _)
   | (with_reducible exact spec_EdgeAll.mono _ _ _ _)
   | (with_reducible exact LeO.refl _)
   | (with_reducible exact LeO.none _)
   | (with_reducible refine LeO.ite ?_ ?_)
   | (with_reducible refine LeO.bind ?_ (fun _ => ?_))
   | exact ih0 _ _ _ _ _ _ _ _ _ _ _ _ _
   | exact ih1 _ _ _ _ _ _ _ _ _
   | exact ih2 _ _ _ _
   | exact impl_EdgeAll.mono _ _ _ _
   | exact laws_eqEdge.mono _ _ _ _ _
   | exact laws_eqStringS.mono _ _ _
   | exact laws_heldEdge.mono _ _ _ _
   | exact laws_markEdge.mono _ _ _ _
   | exact laws_markStringS.mono _ _ _
   | exact laws_szEdge.mono _ _ _ _
   | exact laws_szStringS.mono _ _ _
   | exact laws_toEdge.mono _ _ _
   | exact laws_toStringS.mono _ _
   | exact spec_EdgeAll.mono _ _ _ _
   | exact LeO.none _
   | refine LeO.ite ?_ ?_
   | refine LeO.bind ?_ (fun _ => ?_)
theorem laws_FnExactEdgeAll.mono : ∀ a0 a1 a2 k, LeO (laws_FnExactEdgeAll.f k a0 a1 a2) (laws_FnExactEdgeAll.f (k + 1) a0 a1 a2) := by
 intro a0 a1 a2 k
 obtain ⟨ih0, ih1, ih2⟩ := laws_FnExactEdgeAll.mono_l k
 unfold laws_FnExactEdgeAll.f
 repeat' first
   | (with_reducible exact ih0 _ _ _ _ _ _ _ _ _ _ _ _ _)
   | (with_reducible exact ih1 _ _ _ _ _ _ _ _ _)
   | (with_reducible exact ih2 _ _ _ _)
   | (with_reducible exact impl_EdgeAll.mono _ _ _ _)
   | (with_reducible exact laws_eqEdge.mono _ _ _ _ _)
   | (with_reducible exact laws_eqStringS.mono _ _ _)
   | (with_reducible exact laws_heldEdge.mono _ _ _ _)
   | (with_reducible exact laws_markEdge.mono _ _ _ _)
   | (with_reducible exact laws_markStringS.mono _ _ _)
   | (with_reducible exact laws_szEdge.mono _ _ _ _)
   | (with_reducible exact laws_szStringS.mono _ _ _)
   | (with_reducible exact laws_toEdge.mono _ _ _)
   | (with_reducible exact laws_toStringS.mono _ _)
   | (with_reducible exact spec_EdgeAll.mono _ _ _ _)
   | (with_reducible exact LeO.refl _)
   | (with_reducible exact LeO.none _)
   | (with_reducible refine LeO.ite ?_ ?_)
   | (with_reducible refine LeO.bind ?_ (fun _ => ?_))
   | exact ih0 _ _ _ _ _ _ _ _ _ _ _ _ _
   | exact ih1 _ _ _ _ _ _ _ _ _
   | exact ih2 _ _ _ _
   | exact impl_EdgeAll.mono _ _ _ _
   | exact laws_eqEdge.mono _ _ _ _ _
   | exact laws_eqStringS.mono _ _ _
   | exact laws_heldEdge.mono _ _ _ _
   | exact laws_markEdge.mono _ _ _ _
   | exact laws_markStringS.mono _ _ _
   | exact laws_szEdge.mono _ _ _ _
   | exact laws_szStringS.mono _ _ _
   | exact laws_toEdge.mono _ _ _
   | exact laws_toStringS.mono _ _
   | exact spec_EdgeAll.mono _ _ _ _
   | exact LeO.none _
   | refine LeO.ite ?_ ?_
   | refine LeO.bind ?_ (fun _ => ?_)
set_option maxHeartbeats 8000000 in
set_option maxRecDepth 100000 in
theorem laws_FnExactEdgeAll.calls (k : Nat) (a0_0 : Int) (A0_1 : Option Addr) (c0_1 : Nat) (l0_1 : List ByteArray) (A1 : Option Addr) (c1 : Nat) (l1 : List ByteArray) (r : Bool) (w : World) (hr0_1 : Kd.C Kd.string w A0_1 l0_1.length l0_1) (hc0_1 : l0_1.length ≤ c0_1) (hr1 : Kd.C Kd.string w A1 l1.length l1) (hc1 : l1.length ≤ c1) (h : laws_FnExactEdgeAll.f k a0_0 l0_1 l1 = some r) :
  Calls Try.prog 8 #[.agg #[.int .i64 a0_0, .slice A0_1 l0_1.length c0_1], .slice A1 l1.length c1] w fun e w' => e = .returned (.bool r) ∧ Below w.heap.size w w' := by
 have hu60 := Try.underlying60
 have hu63 := Try.underlying63
 have HR0_1 := Aside0.mk hr0_1
 have HC0_1 := Aside0.mk hc0_1
 clear hr0_1 hc0_1
 have HR1 := Aside0.mk hr1
 have HC1 := Aside0.mk hc1
 clear hr1 hc1
 have HB := Aside0.mk (Below.refl w.heap.size w)
 have H : ((laws_szEdge.f k a0_0 l0_1 1048576).bind fun t602 => (if t602 < 0 then (some true) else ((laws_szStringS.f k l1 t602).bind fun t603 => (if t603 < 0 then (some true) else ((laws_toEdge.f k a0_0 l0_1).bind fun bt604 => ((laws_toStringS.f k l1).bind fun t608 => ((spec_EdgeAll.f k bt604.1 bt604.2 t608).bind fun bt611 => ((laws_toEdge.f k a0_0 l0_1).bind fun bt617 => ((laws_toStringS.f k l1).bind fun t622 => ((impl_EdgeAll.f k bt617.1 bt617.2 t622).bind fun bt625 => ((laws_eqEdge.f k bt625.1 bt625.2.1 bt611.1 bt611.2.1).bind fun t631 => (if t631 = true then (laws_FnExactEdgeAll.j0 k l1 bt611.2.2 t622 bt625.2.2 (bt625.2.2 != bt611.2.2) a0_0 l0_1 bt611.1 bt611.2.1 bt617.1 bt617.2 bt625.1 bt625.2.1) else (laws_FnExactEdgeAll.j0 k l1 bt611.2.2 t622 bt625.2.2 true a0_0 l0_1 bt611.1 bt611.2.1 bt617.1 bt617.2 bt625.1 bt625.2.1))))))))))))) = some r := h
 clear h
 replace H := Option.bind_eq_some_iff.mp H
 obtain ⟨t602, A30, H⟩ := H
 replace H : (if t602 < 0 then (some true) else ((laws_szStringS.f k l1 t602).bind fun t603 => (if t603 < 0 then (some true) else ((laws_toEdge.f k a0_0 l0_1).bind fun bt604 => ((laws_toStringS.f k l1).bind fun t608 => ((spec_EdgeAll.f k bt604.1 bt604.2 t608).bind fun bt611 => ((laws_toEdge.f k a0_0 l0_1).bind fun bt617 => ((laws_toStringS.f k l1).bind fun t622 => ((impl_EdgeAll.f k bt617.1 bt617.2 t622).bind fun bt625 => ((laws_eqEdge.f k bt625.1 bt625.2.1 bt611.1 bt611.2.1).bind fun t631 => (if t631 = true then (laws_FnExactEdgeAll.j0 k l1 bt611.2.2 t622 bt625.2.2 (bt625.2.2 != bt611.2.2) a0_0 l0_1 bt611.1 bt611.2.1 bt617.1 bt617.2 bt625.1 bt625.2.1) else (laws_FnExactEdgeAll.j0 k l1 bt611.2.2 t622 bt625.2.2 true a0_0 l0_1 bt611.1 bt611.2.1 bt617.1 bt617.2 bt625.1 bt625.2.1)))))))))))) = some r := H
 have A3 := Aside0.mk A30
 clear A30
 by_cases c4 : t602 < 0
 ·rw [if_pos c4] at H
  have c4b0 : decide (t602 < 0) = true := decide_eq_true c4
  clear c4
  obtain rfl := Option.some.inj H
  go_enter Try.func8, Try.ntmps8
  go_wp2_with (first | ((with_reducible refine gate_dst (N := 2) rfl ?_); refine box_event ?hg (N := 2) ?hd (cs := #[.int .i64 a0_0, .slice A0_1 l0_1.length c0_1]) (t := 60) ?hr ?_; (case hd => rfl); (case hg => rfl); (case hr => first | (go_simp; done) | (go_simp; rfl)); intro gb601 hg w5 hbox hb; have n0_ := Aside0.mk (below_step (by repeat (first | (with_reducible first | exact HB.out | apply below_alloc | apply pw_below_drewN | apply below_drew1) | exact HB.out)) hb); have n1_ := Aside0.mk (hbox); have n2_ := Aside0.mk ((by rw [hg]; exact (below_size (by repeat (first | (with_reducible first | exact HB.out | apply below_alloc | apply pw_below_drewN | apply below_drew1) | exact HB.out))) : w.heap.size ≤ gb601)); have n3_ := Aside0.mk ((by rw [hg]; exact (below_size (by repeat (first | (with_reducible first | exact HB.out | apply below_alloc | apply pw_below_drewN | apply below_drew1) | exact HB.out))) : w.heap.size ≤ gb601)); clear HB; have HB := n0_; have BK601 := n1_; have GW601 := n2_; have GE601 := n3_; clear n0_ n1_ n2_ n3_; clear hb hbox hg; have hcz6_0 : w5.cell? ⟨gb601, 0, none⟩ = some (.int .i64 a0_0) := (blk_cell BK601.out 0).trans rfl; have hcz6_1 : w5.cell? ⟨gb601, 1, none⟩ = some (.slice A0_1 l0_1.length c0_1) := (blk_cell BK601.out 1).trans rfl; have hfz6_0 := blk_frozen BK601.out 0; have hfz6_1 := blk_frozen BK601.out 1) | ((with_reducible refine gate_callee (f := 41) rfl ?_); refine goesL_ (some 19) rfl rfl Try.func41 (by kernel_rfl) rfl #[.agg #[.int .i64 a0_0, .slice A0_1 l0_1.length c0_1], .int .i64 1048576] rfl (by (try simp only [List.map_toArray, List.map_cons, List.map_nil]); first | done | rfl | (simp only [List.length_drop, List.length_take]; rfl)) ?_; (with_reducible refine (laws_szEdge.calls k a0_0 _ _ l0_1 1048576 t602 _ ?side1 ?side2 A3.out).mono ?_); (case side1 => repeat (first | exact (Kd.C_below HR0_1.out HB.out) | (with_reducible refine Kd.C_alloc ?_ _) | (with_reducible refine Kd.C_drewN ?_ _) | (with_reducible refine Kd.C_drew ?_))); (case side2 => exact HC0_1.out); rintro e w7 ⟨rfl, hb⟩; refine ⟨_, rfl, ?_⟩; have n0_ := Aside0.mk (blk_below (g := gb601) (o := .cells #[.int .i64 a0_0, .slice A0_1 l0_1.length c0_1] 60 (0, 0)) (by (with_reducible repeat (first | refine blk_drewN ?_ _ | refine blk_drew ?_ | refine blk_alloc ?_ _)); exact BK601.out) hb); have n1_ := Aside0.mk (below_step (by repeat (first | (with_reducible first | exact HB.out | apply below_alloc | apply pw_below_drewN | apply below_drew1 | refine below_set ?_ GE601.out) | exact HB.out)) hb); clear BK601; clear HB; have BK601 := n0_; have HB := n1_; clear n0_ n1_; (try clear hb); (try clear hb2); (try clear hk); (try clear hi)))
  go_ret
  exact ⟨by first | rfl | (simp [errW_none, errW_some] <;> rfl) | (simp [*, errW_none, errW_some] <;> rfl), by repeat (first | (with_reducible first | exact HB.out | apply below_alloc | apply pw_below_drewN | apply below_drew1 | refine below_set ?_ GE601.out) | exact HB.out)⟩
 ·rw [if_neg c4] at H
  have c4b0 : decide (t602 < 0) = false := decide_eq_false c4
  clear c4
  replace H := Option.bind_eq_some_iff.mp H
  obtain ⟨t603, A80, H⟩ := H
  replace H : (if t603 < 0 then (some true) else ((laws_toEdge.f k a0_0 l0_1).bind fun bt604 => ((laws_toStringS.f k l1).bind fun t608 => ((spec_EdgeAll.f k bt604.1 bt604.2 t608).bind fun bt611 => ((laws_toEdge.f k a0_0 l0_1).bind fun bt617 => ((laws_toStringS.f k l1).bind fun t622 => ((impl_EdgeAll.f k bt617.1 bt617.2 t622).bind fun bt625 => ((laws_eqEdge.f k bt625.1 bt625.2.1 bt611.1 bt611.2.1).bind fun t631 => (if t631 = true then (laws_FnExactEdgeAll.j0 k l1 bt611.2.2 t622 bt625.2.2 (bt625.2.2 != bt611.2.2) a0_0 l0_1 bt611.1 bt611.2.1 bt617.1 bt617.2 bt625.1 bt625.2.1) else (laws_FnExactEdgeAll.j0 k l1 bt611.2.2 t622 bt625.2.2 true a0_0 l0_1 bt611.1 bt611.2.1 bt617.1 bt617.2 bt625.1 bt625.2.1)))))))))) = some r := H
  have A8 := Aside0.mk A80
  clear A80
  by_cases c9 : t603 < 0
  ·rw [if_pos c9] at H
   have c9b0 : decide (t603 < 0) = true := decide_eq_true c9
   clear c9
   obtain rfl := Option.some.inj H
   go_enter Try.func8, Try.ntmps8
   go_wp2_with (first | ((with_reducible refine gate_dst (N := 2) rfl ?_); refine box_event ?hg (N := 2) ?hd (cs := #[.int .i64 a0_0, .slice A0_1 l0_1.length c0_1]) (t := 60) ?hr ?_; (case hd => rfl); (case hg => rfl); (case hr => first | (go_simp; done) | (go_simp; rfl)); intro gb601 hg w10 hbox hb; have n0_ := Aside0.mk (below_step (by repeat (first | (with_reducible first | exact HB.out | apply below_alloc | apply pw_below_drewN | apply below_drew1) | exact HB.out)) hb); have n1_ := Aside0.mk (hbox); have n2_ := Aside0.mk ((by rw [hg]; exact (below_size (by repeat (first | (with_reducible first | exact HB.out | apply below_alloc | apply pw_below_drewN | apply below_drew1) | exact HB.out))) : w.heap.size ≤ gb601)); have n3_ := Aside0.mk ((by rw [hg]; exact (below_size (by repeat (first | (with_reducible first | exact HB.out | apply below_alloc | apply pw_below_drewN | apply below_drew1) | exact HB.out))) : w.heap.size ≤ gb601)); clear HB; have HB := n0_; have BK601 := n1_; have GW601 := n2_; have GE601 := n3_; clear n0_ n1_ n2_ n3_; clear hb hbox hg; have hcz11_0 : w10.cell? ⟨gb601, 0, none⟩ = some (.int .i64 a0_0) := (blk_cell BK601.out 0).trans rfl; have hcz11_1 : w10.cell? ⟨gb601, 1, none⟩ = some (.slice A0_1 l0_1.length c0_1) := (blk_cell BK601.out 1).trans rfl; have hfz11_0 := blk_frozen BK601.out 0; have hfz11_1 := blk_frozen BK601.out 1) | ((with_reducible refine gate_callee (f := 41) rfl ?_); refine goesL_ (some 19) rfl rfl Try.func41 (by kernel_rfl) rfl #[.agg #[.int .i64 a0_0, .slice A0_1 l0_1.length c0_1], .int .i64 1048576] rfl (by (try simp only [List.map_toArray, List.map_cons, List.map_nil]); first | done | rfl | (simp only [List.length_drop, List.length_take]; rfl)) ?_; (with_reducible refine (laws_szEdge.calls k a0_0 _ _ l0_1 1048576 t602 _ ?side1 ?side2 A3.out).mono ?_); (case side1 => repeat (first | exact (Kd.C_below HR0_1.out HB.out) | (with_reducible refine Kd.C_alloc ?_ _) | (with_reducible refine Kd.C_drewN ?_ _) | (with_reducible refine Kd.C_drew ?_))); (case side2 => exact HC0_1.out); rintro e w12 ⟨rfl, hb⟩; refine ⟨_, rfl, ?_⟩; have n0_ := Aside0.mk (blk_below (g := gb601) (o := .cells #[.int .i64 a0_0, .slice A0_1 l0_1.length c0_1] 60 (0, 0)) (by (with_reducible repeat (first | refine blk_drewN ?_ _ | refine blk_drew ?_ | refine blk_alloc ?_ _)); exact BK601.out) hb); have n1_ := Aside0.mk (below_step (by repeat (first | (with_reducible first | exact HB.out | apply below_alloc | apply pw_below_drewN | apply below_drew1 | refine below_set ?_ GE601.out) | exact HB.out)) hb); clear BK601; clear HB; have BK601 := n0_; have HB := n1_; clear n0_ n1_; (try clear hb); (try clear hb2); (try clear hk); (try clear hi)) | ((with_reducible refine gate_callee (f := 42) rfl ?_); refine goesL_ (some 24) rfl rfl Try.func42 (by kernel_rfl) rfl #[.slice A1 l1.length c1, .int .i64 t602] rfl (by (try simp only [List.map_toArray, List.map_cons, List.map_nil]); first | done | rfl | (simp only [List.length_drop, List.length_take]; rfl)) ?_; (with_reducible refine (laws_szStringS.calls k _ _ l1 t602 t603 _ ?side1 ?side2 A8.out).mono ?_); (case side1 => repeat (first | exact (Kd.C_below HR1.out HB.out) | (with_reducible refine Kd.C_alloc ?_ _) | (with_reducible refine Kd.C_drewN ?_ _) | (with_reducible refine Kd.C_drew ?_))); (case side2 => exact HC1.out); rintro e w' ⟨rfl, ⟨nd, rfl⟩⟩; refine ⟨_, rfl, ?_⟩))
   go_ret
   exact ⟨by first | rfl | (simp [errW_none, errW_some] <;> rfl) | (simp [*, errW_none, errW_some] <;> rfl), by repeat (first | (with_reducible first | exact HB.out | apply below_alloc | apply pw_below_drewN | apply below_drew1 | refine below_set ?_ GE601.out) | exact HB.out)⟩
  ·rw [if_neg c9] at H
   have c9b0 : decide (t603 < 0) = false := decide_eq_false c9
   clear c9
   replace H := Option.bind_eq_some_iff.mp H
   obtain ⟨⟨t604, t605⟩, A130, H⟩ := H
   replace H : ((laws_toStringS.f k l1).bind fun t608 => ((spec_EdgeAll.f k t604 t605 t608).bind fun bt611 => ((laws_toEdge.f k a0_0 l0_1).bind fun bt617 => ((laws_toStringS.f k l1).bind fun t622 => ((impl_EdgeAll.f k bt617.1 bt617.2 t622).bind fun bt625 => ((laws_eqEdge.f k bt625.1 bt625.2.1 bt611.1 bt611.2.1).bind fun t631 => (if t631 = true then (laws_FnExactEdgeAll.j0 k l1 bt611.2.2 t622 bt625.2.2 (bt625.2.2 != bt611.2.2) a0_0 l0_1 bt611.1 bt611.2.1 bt617.1 bt617.2 bt625.1 bt625.2.1) else (laws_FnExactEdgeAll.j0 k l1 bt611.2.2 t622 bt625.2.2 true a0_0 l0_1 bt611.1 bt611.2.1 bt617.1 bt617.2 bt625.1 bt625.2.1)))))))) = some r := H
   have A13 := Aside0.mk A130
   clear A130
   replace H := Option.bind_eq_some_iff.mp H
   obtain ⟨t608, A140, H⟩ := H
   replace H : ((spec_EdgeAll.f k t604 t605 t608).bind fun bt611 => ((laws_toEdge.f k a0_0 l0_1).bind fun bt617 => ((laws_toStringS.f k l1).bind fun t622 => ((impl_EdgeAll.f k bt617.1 bt617.2 t622).bind fun bt625 => ((laws_eqEdge.f k bt625.1 bt625.2.1 bt611.1 bt611.2.1).bind fun t631 => (if t631 = true then (laws_FnExactEdgeAll.j0 k l1 bt611.2.2 t622 bt625.2.2 (bt625.2.2 != bt611.2.2) a0_0 l0_1 bt611.1 bt611.2.1 bt617.1 bt617.2 bt625.1 bt625.2.1) else (laws_FnExactEdgeAll.j0 k l1 bt611.2.2 t622 bt625.2.2 true a0_0 l0_1 bt611.1 bt611.2.1 bt617.1 bt617.2 bt625.1 bt625.2.1))))))) = some r := H
   have A14 := Aside0.mk A140
   clear A140
   replace H := Option.bind_eq_some_iff.mp H
   obtain ⟨⟨t611, t612, t615⟩, A150, H⟩ := H
   replace H : ((laws_toEdge.f k a0_0 l0_1).bind fun bt617 => ((laws_toStringS.f k l1).bind fun t622 => ((impl_EdgeAll.f k bt617.1 bt617.2 t622).bind fun bt625 => ((laws_eqEdge.f k bt625.1 bt625.2.1 t611 t612).bind fun t631 => (if t631 = true then (laws_FnExactEdgeAll.j0 k l1 t615 t622 bt625.2.2 (bt625.2.2 != t615) a0_0 l0_1 t611 t612 bt617.1 bt617.2 bt625.1 bt625.2.1) else (laws_FnExactEdgeAll.j0 k l1 t615 t622 bt625.2.2 true a0_0 l0_1 t611 t612 bt617.1 bt617.2 bt625.1 bt625.2.1)))))) = some r := H
   have A15 := Aside0.mk A150
   clear A150
   replace H := Option.bind_eq_some_iff.mp H
   obtain ⟨⟨t617, t618⟩, A160, H⟩ := H
   replace H : ((laws_toStringS.f k l1).bind fun t622 => ((impl_EdgeAll.f k t617 t618 t622).bind fun bt625 => ((laws_eqEdge.f k bt625.1 bt625.2.1 t611 t612).bind fun t631 => (if t631 = true then (laws_FnExactEdgeAll.j0 k l1 t615 t622 bt625.2.2 (bt625.2.2 != t615) a0_0 l0_1 t611 t612 t617 t618 bt625.1 bt625.2.1) else (laws_FnExactEdgeAll.j0 k l1 t615 t622 bt625.2.2 true a0_0 l0_1 t611 t612 t617 t618 bt625.1 bt625.2.1))))) = some r := H
   have A16 := Aside0.mk A160
   clear A160
   replace H := Option.bind_eq_some_iff.mp H
   obtain ⟨t622, A170, H⟩ := H
   replace H : ((impl_EdgeAll.f k t617 t618 t622).bind fun bt625 => ((laws_eqEdge.f k bt625.1 bt625.2.1 t611 t612).bind fun t631 => (if t631 = true then (laws_FnExactEdgeAll.j0 k l1 t615 t622 bt625.2.2 (bt625.2.2 != t615) a0_0 l0_1 t611 t612 t617 t618 bt625.1 bt625.2.1) else (laws_FnExactEdgeAll.j0 k l1 t615 t622 bt625.2.2 true a0_0 l0_1 t611 t612 t617 t618 bt625.1 bt625.2.1)))) = some r := H
   have A17 := Aside0.mk A170
   clear A170
   replace H := Option.bind_eq_some_iff.mp H
   obtain ⟨⟨t625, t626, t629⟩, A180, H⟩ := H
   replace H : ((laws_eqEdge.f k t625 t626 t611 t612).bind fun t631 => (if t631 = true then (laws_FnExactEdgeAll.j0 k l1 t615 t622 t629 (t629 != t615) a0_0 l0_1 t611 t612 t617 t618 t625 t626) else (laws_FnExactEdgeAll.j0 k l1 t615 t622 t629 true a0_0 l0_1 t611 t612 t617 t618 t625 t626))) = some r := H
   have A18 := Aside0.mk A180
   clear A180
   have HC19 := Aside0.mk H
   clear H
   go_enter Try.func8, Try.ntmps8
   go_upto_region 12 with (first | ((with_reducible refine gate_dst (N := 2) rfl ?_); refine box_event ?hg (N := 2) ?hd (cs := #[.int .i64 a0_0, .slice A0_1 l0_1.length c0_1]) (t := 60) ?hr ?_; (case hd => rfl); (case hg => rfl); (case hr => first | (go_simp; done) | (go_simp; rfl)); intro gb601 hg w20 hbox hb; have n0_ := Aside0.mk (below_step (by repeat (first | (with_reducible first | exact HB.out | apply below_alloc | apply pw_below_drewN | apply below_drew1) | exact HB.out)) hb); have n1_ := Aside0.mk (hbox); have n2_ := Aside0.mk ((by rw [hg]; exact (below_size (by repeat (first | (with_reducible first | exact HB.out | apply below_alloc | apply pw_below_drewN | apply below_drew1) | exact HB.out))) : w.heap.size ≤ gb601)); have n3_ := Aside0.mk ((by rw [hg]; exact (below_size (by repeat (first | (with_reducible first | exact HB.out | apply below_alloc | apply pw_below_drewN | apply below_drew1) | exact HB.out))) : w.heap.size ≤ gb601)); clear HB; have HB := n0_; have BK601 := n1_; have GW601 := n2_; have GE601 := n3_; clear n0_ n1_ n2_ n3_; clear hb hbox hg; have hcz21_0 : w20.cell? ⟨gb601, 0, none⟩ = some (.int .i64 a0_0) := (blk_cell BK601.out 0).trans rfl; have hcz21_1 : w20.cell? ⟨gb601, 1, none⟩ = some (.slice A0_1 l0_1.length c0_1) := (blk_cell BK601.out 1).trans rfl; have hfz21_0 := blk_frozen BK601.out 0; have hfz21_1 := blk_frozen BK601.out 1) | ((with_reducible refine gate_callee (f := 41) rfl ?_); refine goesL_ (some 19) rfl rfl Try.func41 (by kernel_rfl) rfl #[.agg #[.int .i64 a0_0, .slice A0_1 l0_1.length c0_1], .int .i64 1048576] rfl (by (try simp only [List.map_toArray, List.map_cons, List.map_nil]); first | done | rfl | (simp only [List.length_drop, List.length_take]; rfl)) ?_; (with_reducible refine (laws_szEdge.calls k a0_0 _ _ l0_1 1048576 t602 _ ?side1 ?side2 A3.out).mono ?_); (case side1 => repeat (first | exact (Kd.C_below HR0_1.out HB.out) | (with_reducible refine Kd.C_alloc ?_ _) | (with_reducible refine Kd.C_drewN ?_ _) | (with_reducible refine Kd.C_drew ?_))); (case side2 => exact HC0_1.out); rintro e w22 ⟨rfl, hb⟩; refine ⟨_, rfl, ?_⟩; have n0_ := Aside0.mk (blk_below (g := gb601) (o := .cells #[.int .i64 a0_0, .slice A0_1 l0_1.length c0_1] 60 (0, 0)) (by (with_reducible repeat (first | refine blk_drewN ?_ _ | refine blk_drew ?_ | refine blk_alloc ?_ _)); exact BK601.out) hb); have n1_ := Aside0.mk (below_step (by repeat (first | (with_reducible first | exact HB.out | apply below_alloc | apply pw_below_drewN | apply below_drew1 | refine below_set ?_ GE601.out) | exact HB.out)) hb); clear BK601; clear HB; have BK601 := n0_; have HB := n1_; clear n0_ n1_; (try clear hb); (try clear hb2); (try clear hk); (try clear hi)) | ((with_reducible refine gate_callee (f := 42) rfl ?_); refine goesL_ (some 24) rfl rfl Try.func42 (by kernel_rfl) rfl #[.slice A1 l1.length c1, .int .i64 t602] rfl (by (try simp only [List.map_toArray, List.map_cons, List.map_nil]); first | done | rfl | (simp only [List.length_drop, List.length_take]; rfl)) ?_; (with_reducible refine (laws_szStringS.calls k _ _ l1 t602 t603 _ ?side1 ?side2 A8.out).mono ?_); (case side1 => repeat (first | exact (Kd.C_below HR1.out HB.out) | (with_reducible refine Kd.C_alloc ?_ _) | (with_reducible refine Kd.C_drewN ?_ _) | (with_reducible refine Kd.C_drew ?_))); (case side2 => exact HC1.out); rintro e w' ⟨rfl, ⟨nd, rfl⟩⟩; refine ⟨_, rfl, ?_⟩; (try (rw [drewN_self w22]; generalize hq_ : World.drewN w22 _ = w22; have n0_ : Aside0 (w22.heap[gb601]? = some (.cells #[.int .i64 a0_0, .slice A0_1 l0_1.length c0_1] 60 (0, 0))) := ⟨by rw [← hq_]; exact (by (with_reducible repeat (first | refine blk_drewN ?_ _ | refine blk_drew ?_ | refine blk_alloc ?_ _)); exact BK601.out)⟩; have n1_ : Aside0 (Below w.heap.size w w22) := ⟨by rw [← hq_]; exact (by repeat (first | (with_reducible first | exact HB.out | apply below_alloc | apply pw_below_drewN | apply below_drew1 | refine below_set ?_ GE601.out) | exact HB.out))⟩; clear BK601 HB hq_; have BK601 := n0_; have HB := n1_; clear n0_ n1_)); have hcz23_0 : w22.cell? ⟨gb601, 0, none⟩ = some (.int .i64 a0_0) := (blk_cell BK601.out 0).trans rfl; have hcz23_1 : w22.cell? ⟨gb601, 1, none⟩ = some (.slice A0_1 l0_1.length c0_1) := (blk_cell BK601.out 1).trans rfl; have hfz23_0 := blk_frozen BK601.out 0; have hfz23_1 := blk_frozen BK601.out 1) | ((with_reducible refine gate_callee (f := 44) rfl ?_); refine goesL_ (some 29) rfl rfl Try.func44 (by kernel_rfl) rfl #[.agg #[.int .i64 a0_0, .slice A0_1 l0_1.length c0_1]] rfl (by (try simp only [List.map_toArray, List.map_cons, List.map_nil]); first | done | rfl | (simp only [List.length_drop, List.length_take]; rfl)) ?_; (with_reducible refine (laws_toEdge.calls k a0_0 _ _ l0_1 t604 t605 _ ?side1 ?side2 A13.out).mono ?_); (case side1 => repeat (first | exact (Kd.C_below HR0_1.out HB.out) | (with_reducible refine Kd.C_alloc ?_ _) | (with_reducible refine Kd.C_drewN ?_ _) | (with_reducible refine Kd.C_drew ?_))); (case side2 => exact HC0_1.out); rintro e w24 ⟨v606, rfl, ho0, hb⟩; refine ⟨_, rfl, ?_⟩; have n0_ := Aside0.mk (Kd.R_lower ho0 (below_size (by repeat (first | (with_reducible first | exact HB.out | apply below_alloc | apply pw_below_drewN | apply below_drew1 | refine below_set ?_ GE601.out) | exact HB.out)))); have n1_ := Aside0.mk (blk_below (g := gb601) (o := .cells #[.int .i64 a0_0, .slice A0_1 l0_1.length c0_1] 60 (0, 0)) (by (with_reducible repeat (first | refine blk_drewN ?_ _ | refine blk_drew ?_ | refine blk_alloc ?_ _)); exact BK601.out) hb); have n2_ := Aside0.mk (below_step (by repeat (first | (with_reducible first | exact HB.out | apply below_alloc | apply pw_below_drewN | apply below_drew1 | refine below_set ?_ GE601.out) | exact HB.out)) hb); clear BK601; clear HB; have HO607 := n0_; have BK601 := n1_; have HB := n2_; clear n0_ n1_ n2_; (try clear hb); (try clear hb2); (try clear hk); (try clear hi); (try clear ho0)) | ((with_reducible refine gate_callee (f := 45) rfl ?_); refine goesL_ (some 31) rfl rfl Try.func45 (by kernel_rfl) rfl #[.slice A1 l1.length c1] rfl (by (try simp only [List.map_toArray, List.map_cons, List.map_nil]); first | done | rfl | (simp only [List.length_drop, List.length_take]; rfl)) ?_; (with_reducible refine (laws_toStringS.calls k _ _ l1 t608 _ ?side1 ?side2 A14.out).mono ?_); (case side1 => repeat (first | exact (Kd.C_below HR1.out HB.out) | (with_reducible refine Kd.C_alloc ?_ _) | (with_reducible refine Kd.C_drewN ?_ _) | (with_reducible refine Kd.C_drew ?_))); (case side2 => exact HC1.out); rintro e w25 ⟨v609, rfl, ho0, hb⟩; refine ⟨_, rfl, ?_⟩; have n0_ := Aside0.mk (Kd.R_elder' (by (with_reducible repeat (first | apply Kd.R_alloc | apply Kd.R_drewN | apply Kd.R_drew)); exact HO607.out) (Kd.R_base ho0) hb); have n1_ := Aside0.mk (Kd.R_lower (Kd.R_new' ho0 (Kd.R_lt (by (with_reducible repeat (first | apply Kd.R_alloc | apply Kd.R_drewN | apply Kd.R_drew)); exact HO607.out))) (below_size (by repeat (first | (with_reducible first | exact HB.out | apply below_alloc | apply pw_below_drewN | apply below_drew1 | refine below_set ?_ GE601.out) | exact HB.out)))); have n2_ := Aside0.mk (blk_below (g := gb601) (o := .cells #[.int .i64 a0_0, .slice A0_1 l0_1.length c0_1] 60 (0, 0)) (by (with_reducible repeat (first | refine blk_drewN ?_ _ | refine blk_drew ?_ | refine blk_alloc ?_ _)); exact BK601.out) hb); have n3_ := Aside0.mk (below_step (by repeat (first | (with_reducible first | exact HB.out | apply below_alloc | apply pw_below_drewN | apply below_drew1 | refine below_set ?_ GE601.out) | exact HB.out)) hb); clear HO607; clear BK601; clear HB; have HO607 := n0_; have HO610 := n1_; have BK601 := n2_; have HB := n3_; clear n0_ n1_ n2_ n3_; (try clear hb); (try clear hb2); (try clear hk); (try clear hi); (try clear ho0); obtain ⟨Ao26, co26, eo26⟩ := Kd.R_slice HO607.out; subst eo26; obtain ⟨Ao27, co27, eo27⟩ := Kd.R_slice HO610.out; subst eo27) | ((with_reducible refine gate_callee (f := 43) rfl ?_); refine goesL_ (some 32) rfl rfl Try.func43 (by kernel_rfl) rfl #[.agg #[.int .i64 t604, .slice Ao26 t605.length co26], .slice Ao27 t608.length co27] rfl (by (try simp only [List.map_toArray, List.map_cons, List.map_nil]); first | done | rfl | (simp only [List.length_drop, List.length_take]; rfl)) ?_; (with_reducible refine (spec_EdgeAll.calls k t604 _ _ t605 _ _ t608 t611 t612 t615 _ ?side1 ?side2 ?side3 ?side4 A15.out).mono ?_); (case side1 => repeat (first | exact (Kd.R_reads' HO607.out).2.2 | (with_reducible refine Kd.C_alloc ?_ _) | (with_reducible refine Kd.C_drewN ?_ _) | (with_reducible refine Kd.C_drew ?_))); (case side2 => exact (Kd.R_reads' HO607.out).2.1); (case side3 => repeat (first | exact (Kd.R_reads' HO610.out).2.2 | (with_reducible refine Kd.C_alloc ?_ _) | (with_reducible refine Kd.C_drewN ?_ _) | (with_reducible refine Kd.C_drew ?_))); (case side4 => exact (Kd.R_reads' HO610.out).2.1); rintro e w28 ⟨v613, rfl, ho0, hb⟩; refine ⟨_, rfl, ?_⟩; have n0_ := Aside0.mk (Kd.R_elder' (by (with_reducible repeat (first | apply Kd.R_alloc | apply Kd.R_drewN | apply Kd.R_drew)); exact HO607.out) (Kd.R_base ho0) hb); have n1_ := Aside0.mk (Kd.R_elder' (by (with_reducible repeat (first | apply Kd.R_alloc | apply Kd.R_drewN | apply Kd.R_drew)); exact HO610.out) (Kd.R_base ho0) hb); have n2_ := Aside0.mk (Kd.R_lower (Kd.R_new' (Kd.R_new' ho0 (Kd.R_lt (by (with_reducible repeat (first | apply Kd.R_alloc | apply Kd.R_drewN | apply Kd.R_drew)); exact HO607.out))) (Kd.R_lt (by (with_reducible repeat (first | apply Kd.R_alloc | apply Kd.R_drewN | apply Kd.R_drew)); exact HO610.out))) (below_size (by repeat (first | (with_reducible first | exact HB.out | apply below_alloc | apply pw_below_drewN | apply below_drew1 | refine below_set ?_ GE601.out) | exact HB.out)))); have n3_ := Aside0.mk (blk_below (g := gb601) (o := .cells #[.int .i64 a0_0, .slice A0_1 l0_1.length c0_1] 60 (0, 0)) (by (with_reducible repeat (first | refine blk_drewN ?_ _ | refine blk_drew ?_ | refine blk_alloc ?_ _)); exact BK601.out) hb); have n4_ := Aside0.mk (below_step (by repeat (first | (with_reducible first | exact HB.out | apply below_alloc | apply pw_below_drewN | apply below_drew1 | refine below_set ?_ GE601.out) | exact HB.out)) hb); clear HO607; clear HO610; clear BK601; clear HB; have HO607 := n0_; have HO610 := n1_; have HO614 := n2_; have BK601 := n3_; have HB := n4_; clear n0_ n1_ n2_ n3_ n4_; (try clear hb); (try clear hb2); (try clear hk); (try clear hi); (try clear ho0)) | ((with_reducible refine gate_dst (N := 6) rfl ?_); refine box_event ?hg (N := 6) ?hd (cs := #[.int .i64 0, .slice none 0 0]) (t := 63) ?hr ?_; (case hd => rfl); (case hg => rfl); (case hr => first | (go_simp; done) | (go_simp; rfl)); intro gb616 hg w29 hbox hb; have n0_ := Aside0.mk (Kd.R_below (by (with_reducible repeat (first | apply Kd.R_alloc | apply Kd.R_drewN | apply Kd.R_drew)); exact HO607.out) hb); have n1_ := Aside0.mk (Kd.R_below (by (with_reducible repeat (first | apply Kd.R_alloc | apply Kd.R_drewN | apply Kd.R_drew)); exact HO610.out) hb); have n2_ := Aside0.mk (Kd.R_below (by (with_reducible repeat (first | apply Kd.R_alloc | apply Kd.R_drewN | apply Kd.R_drew)); exact HO614.out) hb); have n3_ := Aside0.mk (blk_below (g := gb601) (o := .cells #[.int .i64 a0_0, .slice A0_1 l0_1.length c0_1] 60 (0, 0)) (by (with_reducible repeat (first | refine blk_drewN ?_ _ | refine blk_drew ?_ | refine blk_alloc ?_ _)); exact BK601.out) hb); have n4_ := Aside0.mk (below_step (by repeat (first | (with_reducible first | exact HB.out | apply below_alloc | apply pw_below_drewN | apply below_drew1 | refine below_set ?_ GE601.out) | exact HB.out)) hb); have n5_ := Aside0.mk (hbox); have n6_ := Aside0.mk ((by rw [hg]; exact (below_size (by repeat (first | (with_reducible first | exact HB.out | apply below_alloc | apply pw_below_drewN | apply below_drew1 | refine below_set ?_ GE601.out) | exact HB.out))) : w.heap.size ≤ gb616)); have n7_ := Aside0.mk ((by rw [hg]; exact (below_size (by repeat (first | (with_reducible first | exact HB.out | apply below_alloc | apply pw_below_drewN | apply below_drew1 | refine below_set ?_ GE601.out) | exact HB.out))) : w.heap.size ≤ gb616)); have n8_ := Aside0.mk ((by rw [hg]; exact Nat.ne_of_lt (blk_lt (g := gb601) (o := .cells #[.int .i64 a0_0, .slice A0_1 l0_1.length c0_1] 60 (0, 0)) (by (with_reducible repeat (first | refine blk_drewN ?_ _ | refine blk_drew ?_ | refine blk_alloc ?_ _)); exact BK601.out)) : gb601 ≠ gb616)); have n9_ := Aside0.mk ((by rw [hg]; exact Nat.ne_of_gt (blk_lt (g := gb601) (o := .cells #[.int .i64 a0_0, .slice A0_1 l0_1.length c0_1] 60 (0, 0)) (by (with_reducible repeat (first | refine blk_drewN ?_ _ | refine blk_drew ?_ | refine blk_alloc ?_ _)); exact BK601.out)) : gb616 ≠ gb601)); clear HO607; clear HO610; clear HO614; clear BK601; clear HB; have HO607 := n0_; have HO610 := n1_; have HO614 := n2_; have BK601 := n3_; have HB := n4_; have BK616 := n5_; have GW616 := n6_; have GE616 := n7_; have NB601_616 := n8_; have NB616_601 := n9_; clear n0_ n1_ n2_ n3_ n4_ n5_ n6_ n7_ n8_ n9_; clear hb hbox hg; have hnb30 := NB616_601.out; have hnc30 := NB601_616.out; have hcz31_0 : w29.cell? ⟨gb616, 0, none⟩ = some (.int .i64 0) := (blk_cell BK616.out 0).trans rfl; have hcz31_1 : w29.cell? ⟨gb616, 1, none⟩ = some (.slice none 0 0) := (blk_cell BK616.out 1).trans rfl; have hfz31_0 := blk_frozen BK616.out 0; have hfz31_1 := blk_frozen BK616.out 1; obtain ⟨Ao32, co32, eo32⟩ := Kd.R_slice HO614.out; subst eo32; have hcz33_0 : w29.cell? ⟨gb601, 0, none⟩ = some (.int .i64 a0_0) := (blk_cell BK601.out 0).trans rfl; have hcz33_1 : w29.cell? ⟨gb601, 1, none⟩ = some (.slice A0_1 l0_1.length c0_1) := (blk_cell BK601.out 1).trans rfl; have hfz33_0 := blk_frozen BK601.out 0; have hfz33_1 := blk_frozen BK601.out 1) | ((with_reducible refine gate_callee (f := 44) rfl ?_); refine goesL_ (some 36) rfl rfl Try.func44 (by kernel_rfl) rfl #[.agg #[.int .i64 a0_0, .slice A0_1 l0_1.length c0_1]] rfl (by (try simp only [List.map_toArray, List.map_cons, List.map_nil]); first | done | rfl | (simp only [List.length_drop, List.length_take]; rfl)) ?_; (with_reducible refine (laws_toEdge.calls k a0_0 _ _ l0_1 t617 t618 _ ?side1 ?side2 A16.out).mono ?_); (case side1 => exact Kd.C_below HR0_1.out (by repeat (first | (with_reducible first | exact HB.out | apply below_alloc | apply pw_below_drewN | apply below_drew1 | refine below_set ?_ GE601.out | refine below_set ?_ GE616.out) | exact HB.out))); (case side2 => exact HC0_1.out); rintro e w34 ⟨v619, rfl, ho0, hb⟩; refine ⟨_, rfl, ?_⟩; have n0_ := Aside0.mk (Kd.R_elder' (by (with_reducible repeat (first | apply Kd.R_alloc | apply Kd.R_drewN | apply Kd.R_drew)); exact (Kd.R_mono (Kd.R_far (p := ⟨gb616, 1, none⟩) (Kd.R_far (p := ⟨gb616, 0, none⟩) (Kd.R_types HO607.out BK616.out (by decide)) (fun _ hk => hk.2) (.int .i64 t611)) (fun _ hk => hk.2) (.slice Ao32 t612.length co32)) (fun _ h_ => h_.1))) (Kd.R_base ho0) hb); have n1_ := Aside0.mk (Kd.R_elder' (by (with_reducible repeat (first | apply Kd.R_alloc | apply Kd.R_drewN | apply Kd.R_drew)); exact (Kd.R_mono (Kd.R_far (p := ⟨gb616, 1, none⟩) (Kd.R_far (p := ⟨gb616, 0, none⟩) (Kd.R_types HO610.out BK616.out (by decide)) (fun _ hk => hk.2) (.int .i64 t611)) (fun _ hk => hk.2) (.slice Ao32 t612.length co32)) (fun _ h_ => h_.1))) (Kd.R_base ho0) hb); have n2_ := Aside0.mk (Kd.R_elder' (by (with_reducible repeat (first | apply Kd.R_alloc | apply Kd.R_drewN | apply Kd.R_drew)); exact (Kd.R_mono (Kd.R_far (p := ⟨gb616, 1, none⟩) (Kd.R_far (p := ⟨gb616, 0, none⟩) (Kd.R_types HO614.out BK616.out (by decide)) (fun _ hk => hk.2) (.int .i64 t611)) (fun _ hk => hk.2) (.slice Ao32 t612.length co32)) (fun _ h_ => h_.1))) (Kd.R_base ho0) hb); have n3_ := Aside0.mk (Kd.R_lower (Kd.R_new' (Kd.R_new' (Kd.R_new' ho0 (Kd.R_lt (by (with_reducible repeat (first | apply Kd.R_alloc | apply Kd.R_drewN | apply Kd.R_drew)); exact (Kd.R_mono (Kd.R_far (p := ⟨gb616, 1, none⟩) (Kd.R_far (p := ⟨gb616, 0, none⟩) (Kd.R_types HO607.out BK616.out (by decide)) (fun _ hk => hk.2) (.int .i64 t611)) (fun _ hk => hk.2) (.slice Ao32 t612.length co32)) (fun _ h_ => h_.1))))) (Kd.R_lt (by (with_reducible repeat (first | apply Kd.R_alloc | apply Kd.R_drewN | apply Kd.R_drew)); exact (Kd.R_mono (Kd.R_far (p := ⟨gb616, 1, none⟩) (Kd.R_far (p := ⟨gb616, 0, none⟩) (Kd.R_types HO610.out BK616.out (by decide)) (fun _ hk => hk.2) (.int .i64 t611)) (fun _ hk => hk.2) (.slice Ao32 t612.length co32)) (fun _ h_ => h_.1))))) (Kd.R_lt (by (with_reducible repeat (first | apply Kd.R_alloc | apply Kd.R_drewN | apply Kd.R_drew)); exact (Kd.R_mono (Kd.R_far (p := ⟨gb616, 1, none⟩) (Kd.R_far (p := ⟨gb616, 0, none⟩) (Kd.R_types HO614.out BK616.out (by decide)) (fun _ hk => hk.2) (.int .i64 t611)) (fun _ hk => hk.2) (.slice Ao32 t612.length co32)) (fun _ h_ => h_.1))))) (below_size (by repeat (first | (with_reducible first | exact HB.out | apply below_alloc | apply pw_below_drewN | apply below_drew1 | refine below_set ?_ GE601.out | refine below_set ?_ GE616.out) | exact HB.out)))); have n4_ := Aside0.mk (blk_below (g := gb601) (o := .cells #[.int .i64 a0_0, .slice A0_1 l0_1.length c0_1] 60 (0, 0)) (by (with_reducible repeat (first | refine blk_drewN ?_ _ | refine blk_drew ?_ | refine blk_alloc ?_ _)); refine blk_far ?_ NB601_616.out _; (with_reducible repeat (first | refine blk_drewN ?_ _ | refine blk_drew ?_ | refine blk_alloc ?_ _)); refine blk_far ?_ NB601_616.out _; (with_reducible repeat (first | refine blk_drewN ?_ _ | refine blk_drew ?_ | refine blk_alloc ?_ _)); exact BK601.out) hb); have n5_ := Aside0.mk (blk_below (g := gb616) (o := .cells #[.int .i64 t611, .slice Ao32 t612.length co32] 63 (0, 0)) (by (with_reducible repeat (first | refine blk_drewN ?_ _ | refine blk_drew ?_ | refine blk_alloc ?_ _)); refine blk_put (cs := #[.int .i64 t611, .slice none 0 0]) ?_ 1 _ rfl; (with_reducible repeat (first | refine blk_drewN ?_ _ | refine blk_drew ?_ | refine blk_alloc ?_ _)); refine blk_put (cs := #[.int .i64 0, .slice none 0 0]) ?_ 0 _ rfl; (with_reducible repeat (first | refine blk_drewN ?_ _ | refine blk_drew ?_ | refine blk_alloc ?_ _)); exact BK616.out) hb); have n6_ := Aside0.mk (below_step (by repeat (first | (with_reducible first | exact HB.out | apply below_alloc | apply pw_below_drewN | apply below_drew1 | refine below_set ?_ GE601.out | refine below_set ?_ GE616.out) | exact HB.out)) hb); clear HO607; clear HO610; clear HO614; clear BK601; clear BK616; clear HB; have HO607 := n0_; have HO610 := n1_; have HO614 := n2_; have HO620 := n3_; have BK601 := n4_; have BK616 := n5_; have HB := n6_; clear n0_ n1_ n2_ n3_ n4_ n5_ n6_; (try clear hb); (try clear hb2); (try clear hk); (try clear hi); (try clear ho0)) | ((with_reducible refine gate_dst (N := 8) rfl ?_); refine box_event ?hg (N := 8) ?hd (cs := #[.int .i64 0, .slice none 0 0]) (t := 63) ?hr ?_; (case hd => rfl); (case hg => rfl); (case hr => first | (go_simp; done) | (go_simp; rfl)); intro gb621 hg w35 hbox hb; have n0_ := Aside0.mk (Kd.R_below (by (with_reducible repeat (first | apply Kd.R_alloc | apply Kd.R_drewN | apply Kd.R_drew)); exact HO607.out) hb); have n1_ := Aside0.mk (Kd.R_below (by (with_reducible repeat (first | apply Kd.R_alloc | apply Kd.R_drewN | apply Kd.R_drew)); exact HO610.out) hb); have n2_ := Aside0.mk (Kd.R_below (by (with_reducible repeat (first | apply Kd.R_alloc | apply Kd.R_drewN | apply Kd.R_drew)); exact HO614.out) hb); have n3_ := Aside0.mk (Kd.R_below (by (with_reducible repeat (first | apply Kd.R_alloc | apply Kd.R_drewN | apply Kd.R_drew)); exact HO620.out) hb); have n4_ := Aside0.mk (blk_below (g := gb601) (o := .cells #[.int .i64 a0_0, .slice A0_1 l0_1.length c0_1] 60 (0, 0)) (by (with_reducible repeat (first | refine blk_drewN ?_ _ | refine blk_drew ?_ | refine blk_alloc ?_ _)); exact BK601.out) hb); have n5_ := Aside0.mk (blk_below (g := gb616) (o := .cells #[.int .i64 t611, .slice Ao32 t612.length co32] 63 (0, 0)) (by (with_reducible repeat (first | refine blk_drewN ?_ _ | refine blk_drew ?_ | refine blk_alloc ?_ _)); exact BK616.out) hb); have n6_ := Aside0.mk (below_step (by repeat (first | (with_reducible first | exact HB.out | apply below_alloc | apply pw_below_drewN | apply below_drew1 | refine below_set ?_ GE601.out | refine below_set ?_ GE616.out) | exact HB.out)) hb); have n7_ := Aside0.mk (hbox); have n8_ := Aside0.mk ((by rw [hg]; exact (below_size (by repeat (first | (with_reducible first | exact HB.out | apply below_alloc | apply pw_below_drewN | apply below_drew1 | refine below_set ?_ GE601.out | refine below_set ?_ GE616.out) | exact HB.out))) : w.heap.size ≤ gb621)); have n9_ := Aside0.mk ((by rw [hg]; exact (below_size (by repeat (first | (with_reducible first | exact HB.out | apply below_alloc | apply pw_below_drewN | apply below_drew1 | refine below_set ?_ GE601.out | refine below_set ?_ GE616.out) | exact HB.out))) : w.heap.size ≤ gb621)); have n10_ := Aside0.mk ((by rw [hg]; exact Nat.ne_of_lt (blk_lt (g := gb601) (o := .cells #[.int .i64 a0_0, .slice A0_1 l0_1.length c0_1] 60 (0, 0)) (by (with_reducible repeat (first | refine blk_drewN ?_ _ | refine blk_drew ?_ | refine blk_alloc ?_ _)); exact BK601.out)) : gb601 ≠ gb621)); have n11_ := Aside0.mk ((by rw [hg]; exact Nat.ne_of_gt (blk_lt (g := gb601) (o := .cells #[.int .i64 a0_0, .slice A0_1 l0_1.length c0_1] 60 (0, 0)) (by (with_reducible repeat (first | refine blk_drewN ?_ _ | refine blk_drew ?_ | refine blk_alloc ?_ _)); exact BK601.out)) : gb621 ≠ gb601)); have n12_ := Aside0.mk ((by rw [hg]; exact Nat.ne_of_lt (blk_lt (g := gb616) (o := .cells #[.int .i64 t611, .slice Ao32 t612.length co32] 63 (0, 0)) (by (with_reducible repeat (first | refine blk_drewN ?_ _ | refine blk_drew ?_ | refine blk_alloc ?_ _)); exact BK616.out)) : gb616 ≠ gb621)); have n13_ := Aside0.mk ((by rw [hg]; exact Nat.ne_of_gt (blk_lt (g := gb616) (o := .cells #[.int .i64 t611, .slice Ao32 t612.length co32] 63 (0, 0)) (by (with_reducible repeat (first | refine blk_drewN ?_ _ | refine blk_drew ?_ | refine blk_alloc ?_ _)); exact BK616.out)) : gb621 ≠ gb616)); clear HO607; clear HO610; clear HO614; clear HO620; clear BK601; clear BK616; clear HB; have HO607 := n0_; have HO610 := n1_; have HO614 := n2_; have HO620 := n3_; have BK601 := n4_; have BK616 := n5_; have HB := n6_; have BK621 := n7_; have GW621 := n8_; have GE621 := n9_; have NB601_621 := n10_; have NB621_601 := n11_; have NB616_621 := n12_; have NB621_616 := n13_; clear n0_ n1_ n2_ n3_ n4_ n5_ n6_ n7_ n8_ n9_ n10_ n11_ n12_ n13_; clear hb hbox hg; have hnb36 := NB621_601.out; have hnc36 := NB601_621.out; have hnb37 := NB621_616.out; have hnc37 := NB616_621.out; have hcz38_0 : w35.cell? ⟨gb621, 0, none⟩ = some (.int .i64 0) := (blk_cell BK621.out 0).trans rfl; have hcz38_1 : w35.cell? ⟨gb621, 1, none⟩ = some (.slice none 0 0) := (blk_cell BK621.out 1).trans rfl; have hfz38_0 := blk_frozen BK621.out 0; have hfz38_1 := blk_frozen BK621.out 1; obtain ⟨Ao39, co39, eo39⟩ := Kd.R_slice HO620.out; subst eo39) | ((with_reducible refine gate_callee (f := 45) rfl ?_); refine goesL_ (some 38) rfl rfl Try.func45 (by kernel_rfl) rfl #[.slice A1 l1.length c1] rfl (by (try simp only [List.map_toArray, List.map_cons, List.map_nil]); first | done | rfl | (simp only [List.length_drop, List.length_take]; rfl)) ?_; (with_reducible refine (laws_toStringS.calls k _ _ l1 t622 _ ?side1 ?side2 A17.out).mono ?_); (case side1 => exact Kd.C_below HR1.out (by repeat (first | (with_reducible first | exact HB.out | apply below_alloc | apply pw_below_drewN | apply below_drew1 | refine below_set ?_ GE601.out | refine below_set ?_ GE616.out | refine below_set ?_ GE621.out) | exact HB.out))); (case side2 => exact HC1.out); rintro e w40 ⟨v623, rfl, ho0, hb⟩; refine ⟨_, rfl, ?_⟩; have n0_ := Aside0.mk (Kd.R_elder' (by (with_reducible repeat (first | apply Kd.R_alloc | apply Kd.R_drewN | apply Kd.R_drew)); exact (Kd.R_mono (Kd.R_far (p := ⟨gb621, 1, none⟩) (Kd.R_far (p := ⟨gb621, 0, none⟩) (Kd.R_types HO607.out BK621.out (by decide)) (fun _ hk => hk.2) (.int .i64 t617)) (fun _ hk => hk.2) (.slice Ao39 t618.length co39)) (fun _ h_ => h_.1))) (Kd.R_base ho0) hb); have n1_ := Aside0.mk (Kd.R_elder' (by (with_reducible repeat (first | apply Kd.R_alloc | apply Kd.R_drewN | apply Kd.R_drew)); exact (Kd.R_mono (Kd.R_far (p := ⟨gb621, 1, none⟩) (Kd.R_far (p := ⟨gb621, 0, none⟩) (Kd.R_types HO610.out BK621.out (by decide)) (fun _ hk => hk.2) (.int .i64 t617)) (fun _ hk => hk.2) (.slice Ao39 t618.length co39)) (fun _ h_ => h_.1))) (Kd.R_base ho0) hb); have n2_ := Aside0.mk (Kd.R_elder' (by (with_reducible repeat (first | apply Kd.R_alloc | apply Kd.R_drewN | apply Kd.R_drew)); exact (Kd.R_mono (Kd.R_far (p := ⟨gb621, 1, none⟩) (Kd.R_far (p := ⟨gb621, 0, none⟩) (Kd.R_types HO614.out BK621.out (by decide)) (fun _ hk => hk.2) (.int .i64 t617)) (fun _ hk => hk.2) (.slice Ao39 t618.length co39)) (fun _ h_ => h_.1))) (Kd.R_base ho0) hb); have n3_ := Aside0.mk (Kd.R_elder' (by (with_reducible repeat (first | apply Kd.R_alloc | apply Kd.R_drewN | apply Kd.R_drew)); exact (Kd.R_mono (Kd.R_far (p := ⟨gb621, 1, none⟩) (Kd.R_far (p := ⟨gb621, 0, none⟩) (Kd.R_types HO620.out BK621.out (by decide)) (fun _ hk => hk.2) (.int .i64 t617)) (fun _ hk => hk.2) (.slice Ao39 t618.length co39)) (fun _ h_ => h_.1))) (Kd.R_base ho0) hb); have n4_ := Aside0.mk (Kd.R_lower (Kd.R_new' (Kd.R_new' (Kd.R_new' (Kd.R_new' ho0 (Kd.R_lt (by (with_reducible repeat (first | apply Kd.R_alloc | apply Kd.R_drewN | apply Kd.R_drew)); exact (Kd.R_mono (Kd.R_far (p := ⟨gb621, 1, none⟩) (Kd.R_far (p := ⟨gb621, 0, none⟩) (Kd.R_types HO607.out BK621.out (by decide)) (fun _ hk => hk.2) (.int .i64 t617)) (fun _ hk => hk.2) (.slice Ao39 t618.length co39)) (fun _ h_ => h_.1))))) (Kd.R_lt (by (with_reducible repeat (first | apply Kd.R_alloc | apply Kd.R_drewN | apply Kd.R_drew)); exact (Kd.R_mono (Kd.R_far (p := ⟨gb621, 1, none⟩) (Kd.R_far (p := ⟨gb621, 0, none⟩) (Kd.R_types HO610.out BK621.out (by decide)) (fun _ hk => hk.2) (.int .i64 t617)) (fun _ hk => hk.2) (.slice Ao39 t618.length co39)) (fun _ h_ => h_.1))))) (Kd.R_lt (by (with_reducible repeat (first | apply Kd.R_alloc | apply Kd.R_drewN | apply Kd.R_drew)); exact (Kd.R_mono (Kd.R_far (p := ⟨gb621, 1, none⟩) (Kd.R_far (p := ⟨gb621, 0, none⟩) (Kd.R_types HO614.out BK621.out (by decide)) (fun _ hk => hk.2) (.int .i64 t617)) (fun _ hk => hk.2) (.slice Ao39 t618.length co39)) (fun _ h_ => h_.1))))) (Kd.R_lt (by (with_reducible repeat (first | apply Kd.R_alloc | apply Kd.R_drewN | apply Kd.R_drew)); exact (Kd.R_mono (Kd.R_far (p := ⟨gb621, 1, none⟩) (Kd.R_far (p := ⟨gb621, 0, none⟩) (Kd.R_types HO620.out BK621.out (by decide)) (fun _ hk => hk.2) (.int .i64 t617)) (fun _ hk => hk.2) (.slice Ao39 t618.length co39)) (fun _ h_ => h_.1))))) (below_size (by repeat (first | (with_reducible first | exact HB.out | apply below_alloc | apply pw_below_drewN | apply below_drew1 | refine below_set ?_ GE601.out | refine below_set ?_ GE616.out | refine below_set ?_ GE621.out) | exact HB.out)))); have n5_ := Aside0.mk (blk_below (g := gb601) (o := .cells #[.int .i64 a0_0, .slice A0_1 l0_1.length c0_1] 60 (0, 0)) (by (with_reducible repeat (first | refine blk_drewN ?_ _ | refine blk_drew ?_ | refine blk_alloc ?_ _)); refine blk_far ?_ NB601_621.out _; (with_reducible repeat (first | refine blk_drewN ?_ _ | refine blk_drew ?_ | refine blk_alloc ?_ _)); refine blk_far ?_ NB601_621.out _; (with_reducible repeat (first | refine blk_drewN ?_ _ | refine blk_drew ?_ | refine blk_alloc ?_ _)); exact BK601.out) hb); have n6_ := Aside0.mk (blk_below (g := gb616) (o := .cells #[.int .i64 t611, .slice Ao32 t612.length co32] 63 (0, 0)) (by (with_reducible repeat (first | refine blk_drewN ?_ _ | refine blk_drew ?_ | refine blk_alloc ?_ _)); refine blk_far ?_ NB616_621.out _; (with_reducible repeat (first | refine blk_drewN ?_ _ | refine blk_drew ?_ | refine blk_alloc ?_ _)); refine blk_far ?_ NB616_621.out _; (with_reducible repeat (first | refine blk_drewN ?_ _ | refine blk_drew ?_ | refine blk_alloc ?_ _)); exact BK616.out) hb); have n7_ := Aside0.mk (blk_below (g := gb621) (o := .cells #[.int .i64 t617, .slice Ao39 t618.length co39] 63 (0, 0)) (by (with_reducible repeat (first | refine blk_drewN ?_ _ | refine blk_drew ?_ | refine blk_alloc ?_ _)); refine blk_put (cs := #[.int .i64 t617, .slice none 0 0]) ?_ 1 _ rfl; (with_reducible repeat (first | refine blk_drewN ?_ _ | refine blk_drew ?_ | refine blk_alloc ?_ _)); refine blk_put (cs := #[.int .i64 0, .slice none 0 0]) ?_ 0 _ rfl; (with_reducible repeat (first | refine blk_drewN ?_ _ | refine blk_drew ?_ | refine blk_alloc ?_ _)); exact BK621.out) hb); have n8_ := Aside0.mk (below_step (by repeat (first | (with_reducible first | exact HB.out | apply below_alloc | apply pw_below_drewN | apply below_drew1 | refine below_set ?_ GE601.out | refine below_set ?_ GE616.out | refine below_set ?_ GE621.out) | exact HB.out)) hb); clear HO607; clear HO610; clear HO614; clear HO620; clear BK601; clear BK616; clear BK621; clear HB; have HO607 := n0_; have HO610 := n1_; have HO614 := n2_; have HO620 := n3_; have HO624 := n4_; have BK601 := n5_; have BK616 := n6_; have BK621 := n7_; have HB := n8_; clear n0_ n1_ n2_ n3_ n4_ n5_ n6_ n7_ n8_; (try clear hb); (try clear hb2); (try clear hk); (try clear hi); (try clear ho0); have hcz41_0 : w40.cell? ⟨gb621, 0, none⟩ = some (.int .i64 t617) := (blk_cell BK621.out 0).trans rfl; have hcz41_1 : w40.cell? ⟨gb621, 1, none⟩ = some (.slice Ao39 t618.length co39) := (blk_cell BK621.out 1).trans rfl; have hfz41_0 := blk_frozen BK621.out 0; have hfz41_1 := blk_frozen BK621.out 1; obtain ⟨Ao42, co42, eo42⟩ := Kd.R_slice HO624.out; subst eo42) | ((with_reducible refine gate_callee (f := 46) rfl ?_); refine goesL_ (some 42) rfl rfl Try.func46 (by kernel_rfl) rfl #[.agg #[.int .i64 t617, .slice Ao39 t618.length co39], .slice Ao42 t622.length co42] rfl (by (try simp only [List.map_toArray, List.map_cons, List.map_nil]); first | done | rfl | (simp only [List.length_drop, List.length_take]; rfl)) ?_; (with_reducible refine (impl_EdgeAll.calls k t617 _ _ t618 _ _ t622 t625 t626 t629 _ ?side1 ?side2 ?side3 ?side4 A18.out).mono ?_); (case side1 => repeat (first | exact (Kd.R_reads' HO620.out).2.2 | (with_reducible refine Kd.C_alloc ?_ _) | (with_reducible refine Kd.C_drewN ?_ _) | (with_reducible refine Kd.C_drew ?_))); (case side2 => exact (Kd.R_reads' HO620.out).2.1); (case side3 => repeat (first | exact (Kd.R_reads' HO624.out).2.2 | (with_reducible refine Kd.C_alloc ?_ _) | (with_reducible refine Kd.C_drewN ?_ _) | (with_reducible refine Kd.C_drew ?_))); (case side4 => exact (Kd.R_reads' HO624.out).2.1); rintro e w43 ⟨v627, rfl, ho0, hb⟩; refine ⟨_, rfl, ?_⟩; have n0_ := Aside0.mk (Kd.R_elder' (by (with_reducible repeat (first | apply Kd.R_alloc | apply Kd.R_drewN | apply Kd.R_drew)); exact HO607.out) (Kd.R_base ho0) hb); have n1_ := Aside0.mk (Kd.R_elder' (by (with_reducible repeat (first | apply Kd.R_alloc | apply Kd.R_drewN | apply Kd.R_drew)); exact HO610.out) (Kd.R_base ho0) hb); have n2_ := Aside0.mk (Kd.R_elder' (by (with_reducible repeat (first | apply Kd.R_alloc | apply Kd.R_drewN | apply Kd.R_drew)); exact HO614.out) (Kd.R_base ho0) hb); have n3_ := Aside0.mk (Kd.R_elder' (by (with_reducible repeat (first | apply Kd.R_alloc | apply Kd.R_drewN | apply Kd.R_drew)); exact HO620.out) (Kd.R_base ho0) hb); have n4_ := Aside0.mk (Kd.R_elder' (by (with_reducible repeat (first | apply Kd.R_alloc | apply Kd.R_drewN | apply Kd.R_drew)); exact HO624.out) (Kd.R_base ho0) hb); have n5_ := Aside0.mk (Kd.R_lower (Kd.R_new' (Kd.R_new' (Kd.R_new' (Kd.R_new' (Kd.R_new' ho0 (Kd.R_lt (by (with_reducible repeat (first | apply Kd.R_alloc | apply Kd.R_drewN | apply Kd.R_drew)); exact HO607.out))) (Kd.R_lt (by (with_reducible repeat (first | apply Kd.R_alloc | apply Kd.R_drewN | apply Kd.R_drew)); exact HO610.out))) (Kd.R_lt (by (with_reducible repeat (first | apply Kd.R_alloc | apply Kd.R_drewN | apply Kd.R_drew)); exact HO614.out))) (Kd.R_lt (by (with_reducible repeat (first | apply Kd.R_alloc | apply Kd.R_drewN | apply Kd.R_drew)); exact HO620.out))) (Kd.R_lt (by (with_reducible repeat (first | apply Kd.R_alloc | apply Kd.R_drewN | apply Kd.R_drew)); exact HO624.out))) (below_size (by repeat (first | (with_reducible first | exact HB.out | apply below_alloc | apply pw_below_drewN | apply below_drew1 | refine below_set ?_ GE601.out | refine below_set ?_ GE616.out | refine below_set ?_ GE621.out) | exact HB.out)))); have n6_ := Aside0.mk (blk_below (g := gb601) (o := .cells #[.int .i64 a0_0, .slice A0_1 l0_1.length c0_1] 60 (0, 0)) (by (with_reducible repeat (first | refine blk_drewN ?_ _ | refine blk_drew ?_ | refine blk_alloc ?_ _)); exact BK601.out) hb); have n7_ := Aside0.mk (blk_below (g := gb616) (o := .cells #[.int .i64 t611, .slice Ao32 t612.length co32] 63 (0, 0)) (by (with_reducible repeat (first | refine blk_drewN ?_ _ | refine blk_drew ?_ | refine blk_alloc ?_ _)); exact BK616.out) hb); have n8_ := Aside0.mk (blk_below (g := gb621) (o := .cells #[.int .i64 t617, .slice Ao39 t618.length co39] 63 (0, 0)) (by (with_reducible repeat (first | refine blk_drewN ?_ _ | refine blk_drew ?_ | refine blk_alloc ?_ _)); exact BK621.out) hb); have n9_ := Aside0.mk (below_step (by repeat (first | (with_reducible first | exact HB.out | apply below_alloc | apply pw_below_drewN | apply below_drew1 | refine below_set ?_ GE601.out | refine below_set ?_ GE616.out | refine below_set ?_ GE621.out) | exact HB.out)) hb); clear HO607; clear HO610; clear HO614; clear HO620; clear HO624; clear BK601; clear BK616; clear BK621; clear HB; have HO607 := n0_; have HO610 := n1_; have HO614 := n2_; have HO620 := n3_; have HO624 := n4_; have HO628 := n5_; have BK601 := n6_; have BK616 := n7_; have BK621 := n8_; have HB := n9_; clear n0_ n1_ n2_ n3_ n4_ n5_ n6_ n7_ n8_ n9_; (try clear hb); (try clear hb2); (try clear hk); (try clear hi); (try clear ho0)) | ((with_reducible refine gate_dst (N := 10) rfl ?_); refine box_event ?hg (N := 10) ?hd (cs := #[.int .i64 0, .slice none 0 0]) (t := 63) ?hr ?_; (case hd => rfl); (case hg => rfl); (case hr => first | (go_simp; done) | (go_simp; rfl)); intro gb630 hg w44 hbox hb; have n0_ := Aside0.mk (Kd.R_below (by (with_reducible repeat (first | apply Kd.R_alloc | apply Kd.R_drewN | apply Kd.R_drew)); exact HO607.out) hb); have n1_ := Aside0.mk (Kd.R_below (by (with_reducible repeat (first | apply Kd.R_alloc | apply Kd.R_drewN | apply Kd.R_drew)); exact HO610.out) hb); have n2_ := Aside0.mk (Kd.R_below (by (with_reducible repeat (first | apply Kd.R_alloc | apply Kd.R_drewN | apply Kd.R_drew)); exact HO614.out) hb); have n3_ := Aside0.mk (Kd.R_below (by (with_reducible repeat (first | apply Kd.R_alloc | apply Kd.R_drewN | apply Kd.R_drew)); exact HO620.out) hb); have n4_ := Aside0.mk (Kd.R_below (by (with_reducible repeat (first | apply Kd.R_alloc | apply Kd.R_drewN | apply Kd.R_drew)); exact HO624.out) hb); have n5_ := Aside0.mk (Kd.R_below (by (with_reducible repeat (first | apply Kd.R_alloc | apply Kd.R_drewN | apply Kd.R_drew)); exact HO628.out) hb); have n6_ := Aside0.mk (blk_below (g := gb601) (o := .cells #[.int .i64 a0_0, .slice A0_1 l0_1.length c0_1] 60 (0, 0)) (by (with_reducible repeat (first | refine blk_drewN ?_ _ | refine blk_drew ?_ | refine blk_alloc ?_ _)); exact BK601.out) hb); have n7_ := Aside0.mk (blk_below (g := gb616) (o := .cells #[.int .i64 t611, .slice Ao32 t612.length co32] 63 (0, 0)) (by (with_reducible repeat (first | refine blk_drewN ?_ _ | refine blk_drew ?_ | refine blk_alloc ?_ _)); exact BK616.out) hb); have n8_ := Aside0.mk (blk_below (g := gb621) (o := .cells #[.int .i64 t617, .slice Ao39 t618.length co39] 63 (0, 0)) (by (with_reducible repeat (first | refine blk_drewN ?_ _ | refine blk_drew ?_ | refine blk_alloc ?_ _)); exact BK621.out) hb); have n9_ := Aside0.mk (below_step (by repeat (first | (with_reducible first | exact HB.out | apply below_alloc | apply pw_below_drewN | apply below_drew1 | refine below_set ?_ GE601.out | refine below_set ?_ GE616.out | refine below_set ?_ GE621.out) | exact HB.out)) hb); have n10_ := Aside0.mk (hbox); have n11_ := Aside0.mk ((by rw [hg]; exact (below_size (by repeat (first | (with_reducible first | exact HB.out | apply below_alloc | apply pw_below_drewN | apply below_drew1 | refine below_set ?_ GE601.out | refine below_set ?_ GE616.out | refine below_set ?_ GE621.out) | exact HB.out))) : w.heap.size ≤ gb630)); have n12_ := Aside0.mk ((by rw [hg]; exact (below_size (by repeat (first | (with_reducible first | exact HB.out | apply below_alloc | apply pw_below_drewN | apply below_drew1 | refine below_set ?_ GE601.out | refine below_set ?_ GE616.out | refine below_set ?_ GE621.out) | exact HB.out))) : w.heap.size ≤ gb630)); have n13_ := Aside0.mk ((by rw [hg]; exact Nat.ne_of_lt (blk_lt (g := gb601) (o := .cells #[.int .i64 a0_0, .slice A0_1 l0_1.length c0_1] 60 (0, 0)) (by (with_reducible repeat (first | refine blk_drewN ?_ _ | refine blk_drew ?_ | refine blk_alloc ?_ _)); exact BK601.out)) : gb601 ≠ gb630)); have n14_ := Aside0.mk ((by rw [hg]; exact Nat.ne_of_gt (blk_lt (g := gb601) (o := .cells #[.int .i64 a0_0, .slice A0_1 l0_1.length c0_1] 60 (0, 0)) (by (with_reducible repeat (first | refine blk_drewN ?_ _ | refine blk_drew ?_ | refine blk_alloc ?_ _)); exact BK601.out)) : gb630 ≠ gb601)); have n15_ := Aside0.mk ((by rw [hg]; exact Nat.ne_of_lt (blk_lt (g := gb616) (o := .cells #[.int .i64 t611, .slice Ao32 t612.length co32] 63 (0, 0)) (by (with_reducible repeat (first | refine blk_drewN ?_ _ | refine blk_drew ?_ | refine blk_alloc ?_ _)); exact BK616.out)) : gb616 ≠ gb630)); have n16_ := Aside0.mk ((by rw [hg]; exact Nat.ne_of_gt (blk_lt (g := gb616) (o := .cells #[.int .i64 t611, .slice Ao32 t612.length co32] 63 (0, 0)) (by (with_reducible repeat (first | refine blk_drewN ?_ _ | refine blk_drew ?_ | refine blk_alloc ?_ _)); exact BK616.out)) : gb630 ≠ gb616)); have n17_ := Aside0.mk ((by rw [hg]; exact Nat.ne_of_lt (blk_lt (g := gb621) (o := .cells #[.int .i64 t617, .slice Ao39 t618.length co39] 63 (0, 0)) (by (with_reducible repeat (first | refine blk_drewN ?_ _ | refine blk_drew ?_ | refine blk_alloc ?_ _)); exact BK621.out)) : gb621 ≠ gb630)); have n18_ := Aside0.mk ((by rw [hg]; exact Nat.ne_of_gt (blk_lt (g := gb621) (o := .cells #[.int .i64 t617, .slice Ao39 t618.length co39] 63 (0, 0)) (by (with_reducible repeat (first | refine blk_drewN ?_ _ | refine blk_drew ?_ | refine blk_alloc ?_ _)); exact BK621.out)) : gb630 ≠ gb621)); clear HO607; clear HO610; clear HO614; clear HO620; clear HO624; clear HO628; clear BK601; clear BK616; clear BK621; clear HB; have HO607 := n0_; have HO610 := n1_; have HO614 := n2_; have HO620 := n3_; have HO624 := n4_; have HO628 := n5_; have BK601 := n6_; have BK616 := n7_; have BK621 := n8_; have HB := n9_; have BK630 := n10_; have GW630 := n11_; have GE630 := n12_; have NB601_630 := n13_; have NB630_601 := n14_; have NB616_630 := n15_; have NB630_616 := n16_; have NB621_630 := n17_; have NB630_621 := n18_; clear n0_ n1_ n2_ n3_ n4_ n5_ n6_ n7_ n8_ n9_ n10_ n11_ n12_ n13_ n14_ n15_ n16_ n17_ n18_; clear hb hbox hg; have hnb45 := NB630_601.out; have hnc45 := NB601_630.out; have hnb46 := NB630_616.out; have hnc46 := NB616_630.out; have hnb47 := NB630_621.out; have hnc47 := NB621_630.out; have hcz48_0 : w44.cell? ⟨gb630, 0, none⟩ = some (.int .i64 0) := (blk_cell BK630.out 0).trans rfl; have hcz48_1 : w44.cell? ⟨gb630, 1, none⟩ = some (.slice none 0 0) := (blk_cell BK630.out 1).trans rfl; have hfz48_0 := blk_frozen BK630.out 0; have hfz48_1 := blk_frozen BK630.out 1; obtain ⟨Ao49, co49, eo49⟩ := Kd.R_slice HO628.out; subst eo49))
   (try simp only [Act.put, List.setIfInBounds_toArray, List.set_cons_zero, List.set_cons_succ])
   go_cut [53] (fun v53 wc => ∃ (kq : Nat) (x53_18 : Bool), v53 = .bool x53_18 ∧ Aside0 (laws_FnExactEdgeAll.j0 kq l1 t615 t622 t629 x53_18 a0_0 l0_1 t611 t612 t617 t618 t625 t626 = some r) ∧ Aside0 (kq ≤ k) ∧ Aside0 (Kd.R Kd.string 9 wc w.heap.size (fun k_ => some k_ ≠ ((.slice Ao32 t612.length co32) : Value).ownBlock ∧ some k_ ≠ ((.slice Ao39 t618.length co39) : Value).ownBlock ∧ some k_ ≠ ((.slice Ao49 t626.length co49) : Value).ownBlock) (.slice Ao42 t622.length co42) t622) ∧ Aside0 (Kd.R Kd.string 9 wc w.heap.size (fun k_ => some k_ ≠ ((.slice Ao42 t622.length co42) : Value).ownBlock ∧ some k_ ≠ ((.slice Ao39 t618.length co39) : Value).ownBlock ∧ some k_ ≠ ((.slice Ao49 t626.length co49) : Value).ownBlock) (.slice Ao32 t612.length co32) t612) ∧ Aside0 (Kd.R Kd.string 9 wc w.heap.size (fun k_ => some k_ ≠ ((.slice Ao42 t622.length co42) : Value).ownBlock ∧ some k_ ≠ ((.slice Ao32 t612.length co32) : Value).ownBlock ∧ some k_ ≠ ((.slice Ao49 t626.length co49) : Value).ownBlock) (.slice Ao39 t618.length co39) t618) ∧ Aside0 (Kd.R Kd.string 9 wc w.heap.size (fun k_ => some k_ ≠ ((.slice Ao42 t622.length co42) : Value).ownBlock ∧ some k_ ≠ ((.slice Ao32 t612.length co32) : Value).ownBlock ∧ some k_ ≠ ((.slice Ao39 t618.length co39) : Value).ownBlock) (.slice Ao49 t626.length co49) t626) ∧ Aside0 (wc.heap[gb601]? = some (.cells #[.int .i64 a0_0, (.slice A0_1 l0_1.length c0_1)] 60 (0, 0))) ∧ Aside0 (wc.heap[gb616]? = some (.cells #[.int .i64 t611, (.slice Ao32 t612.length co32)] 63 (0, 0))) ∧ Aside0 (wc.heap[gb621]? = some (.cells #[.int .i64 t617, (.slice Ao39 t618.length co39)] 63 (0, 0))) ∧ Aside0 (wc.heap[gb630]? = some (.cells #[.int .i64 t625, (.slice Ao49 t626.length co49)] 63 (0, 0))) ∧ Aside0 (Below w.heap.size w wc))
   case first =>
    have H := HC19.out
    clear HC19
    replace H := Option.bind_eq_some_iff.mp H
    obtain ⟨t631, A500, H⟩ := H
    replace H : (if t631 = true then (laws_FnExactEdgeAll.j0 k l1 t615 t622 t629 (t629 != t615) a0_0 l0_1 t611 t612 t617 t618 t625 t626) else (laws_FnExactEdgeAll.j0 k l1 t615 t622 t629 true a0_0 l0_1 t611 t612 t617 t618 t625 t626)) = some r := H
    have A50 := Aside0.mk A500
    clear A500
    by_cases c51 : t631 = true
    ·subst c51
     have H1 : (laws_FnExactEdgeAll.j0 k l1 t615 t622 t629 (t629 != t615) a0_0 l0_1 t611 t612 t617 t618 t625 t626) = some r := by rw [if_pos rfl] at H; exact H
     clear H
     have H := H1
     clear H1
     have H' := Aside0.mk H
     clear H
     have hnb52 := NB630_601.out
     have hnc52 := NB601_630.out
     have hnb53 := NB630_616.out
     have hnc53 := NB616_630.out
     have hnb54 := NB630_621.out
     have hnc54 := NB621_630.out
     have hcz55_0 : w44.cell? ⟨gb630, 0, none⟩ = some (.int .i64 0) := (blk_cell BK630.out 0).trans rfl
     have hcz55_1 : w44.cell? ⟨gb630, 1, none⟩ = some (.slice none 0 0) := (blk_cell BK630.out 1).trans rfl
     have hfz55_0 := blk_frozen BK630.out 0
     have hfz55_1 := blk_frozen BK630.out 1
     have hnb56 := NB616_601.out
     have hnc56 := NB601_616.out
     have hnb57 := NB616_621.out
     have hnc57 := NB621_616.out
     have hcz58_0 : w44.cell? ⟨gb616, 0, none⟩ = some (.int .i64 t611) := (blk_cell BK616.out 0).trans rfl
     have hcz58_1 : w44.cell? ⟨gb616, 1, none⟩ = some (.slice Ao32 t612.length co32) := (blk_cell BK616.out 1).trans rfl
     have hfz58_0 := blk_frozen BK616.out 0
     have hfz58_1 := blk_frozen BK616.out 1
     go_wp2_with (first | ((with_reducible refine gate_callee (f := 47) rfl ?_); refine goesL_ (some 47) rfl rfl Try.func47 (by kernel_rfl) rfl #[.agg #[.int .i64 t625, .slice Ao49 t626.length co49], .agg #[.int .i64 t611, .slice Ao32 t612.length co32]] rfl (by (try simp only [List.map_toArray, List.map_cons, List.map_nil]); first | done | rfl | (simp only [List.length_drop, List.length_take]; rfl)) ?_; (with_reducible refine (laws_eqEdge.calls k t625 _ _ t626 t611 _ _ t612 true _ ?side1 ?side2 ?side3 ?side4 A50.out).mono ?_); (case side1 => refine (Kd.R_reads' (e := 9) (base := w.heap.size) (ok := fun k_ => (((((True ∧ some k_ ≠ (.slice Ao26 t605.length co26 : Value).ownBlock) ∧ some k_ ≠ (.slice Ao27 t608.length co27 : Value).ownBlock) ∧ some k_ ≠ (.slice Ao32 t612.length co32 : Value).ownBlock) ∧ some k_ ≠ (.slice Ao39 t618.length co39 : Value).ownBlock) ∧ some k_ ≠ (.slice Ao42 t622.length co42 : Value).ownBlock)) (n := t626.length) (c := co49) ?_).2.2; exact (by (with_reducible repeat (first | apply Kd.R_alloc | apply Kd.R_drewN | apply Kd.R_drew)); exact (Kd.R_mono (Kd.R_far (p := ⟨gb630, 1, none⟩) (Kd.R_far (p := ⟨gb630, 0, none⟩) (Kd.R_types HO628.out BK630.out (by decide)) (fun _ hk => hk.2) (.int .i64 t625)) (fun _ hk => hk.2) (.slice Ao49 t626.length co49)) (fun _ h_ => h_.1)))); (case side2 => exact (Kd.R_reads' HO628.out).2.1); (case side3 => refine (Kd.R_reads' (e := 9) (base := w.heap.size) (ok := fun k_ => (((((True ∧ some k_ ≠ (.slice Ao26 t605.length co26 : Value).ownBlock) ∧ some k_ ≠ (.slice Ao27 t608.length co27 : Value).ownBlock) ∧ some k_ ≠ (.slice Ao39 t618.length co39 : Value).ownBlock) ∧ some k_ ≠ (.slice Ao42 t622.length co42 : Value).ownBlock) ∧ some k_ ≠ (.slice Ao49 t626.length co49 : Value).ownBlock)) (n := t612.length) (c := co32) ?_).2.2; exact (by (with_reducible repeat (first | apply Kd.R_alloc | apply Kd.R_drewN | apply Kd.R_drew)); exact (Kd.R_mono (Kd.R_far (p := ⟨gb630, 1, none⟩) (Kd.R_far (p := ⟨gb630, 0, none⟩) (Kd.R_types HO614.out BK630.out (by decide)) (fun _ hk => hk.2) (.int .i64 t625)) (fun _ hk => hk.2) (.slice Ao49 t626.length co49)) (fun _ h_ => h_.1)))); (case side4 => exact (Kd.R_reads' HO614.out).2.1); rintro e w59 ⟨rfl, hb⟩; refine ⟨_, rfl, ?_⟩; have n0_ := Aside0.mk (Kd.R_below (by (with_reducible repeat (first | apply Kd.R_alloc | apply Kd.R_drewN | apply Kd.R_drew)); exact (Kd.R_mono (Kd.R_far (p := ⟨gb630, 1, none⟩) (Kd.R_far (p := ⟨gb630, 0, none⟩) (Kd.R_types HO607.out BK630.out (by decide)) (fun _ hk => hk.2) (.int .i64 t625)) (fun _ hk => hk.2) (.slice Ao49 t626.length co49)) (fun _ h_ => h_.1))) hb); have n1_ := Aside0.mk (Kd.R_below (by (with_reducible repeat (first | apply Kd.R_alloc | apply Kd.R_drewN | apply Kd.R_drew)); exact (Kd.R_mono (Kd.R_far (p := ⟨gb630, 1, none⟩) (Kd.R_far (p := ⟨gb630, 0, none⟩) (Kd.R_types HO610.out BK630.out (by decide)) (fun _ hk => hk.2) (.int .i64 t625)) (fun _ hk => hk.2) (.slice Ao49 t626.length co49)) (fun _ h_ => h_.1))) hb); have n2_ := Aside0.mk (Kd.R_below (by (with_reducible repeat (first | apply Kd.R_alloc | apply Kd.R_drewN | apply Kd.R_drew)); exact (Kd.R_mono (Kd.R_far (p := ⟨gb630, 1, none⟩) (Kd.R_far (p := ⟨gb630, 0, none⟩) (Kd.R_types HO614.out BK630.out (by decide)) (fun _ hk => hk.2) (.int .i64 t625)) (fun _ hk => hk.2) (.slice Ao49 t626.length co49)) (fun _ h_ => h_.1))) hb); have n3_ := Aside0.mk (Kd.R_below (by (with_reducible repeat (first | apply Kd.R_alloc | apply Kd.R_drewN | apply Kd.R_drew)); exact (Kd.R_mono (Kd.R_far (p := ⟨gb630, 1, none⟩) (Kd.R_far (p := ⟨gb630, 0, none⟩) (Kd.R_types HO620.out BK630.out (by decide)) (fun _ hk => hk.2) (.int .i64 t625)) (fun _ hk => hk.2) (.slice Ao49 t626.length co49)) (fun _ h_ => h_.1))) hb); have n4_ := Aside0.mk (Kd.R_below (by (with_reducible repeat (first | apply Kd.R_alloc | apply Kd.R_drewN | apply Kd.R_drew)); exact (Kd.R_mono (Kd.R_far (p := ⟨gb630, 1, none⟩) (Kd.R_far (p := ⟨gb630, 0, none⟩) (Kd.R_types HO624.out BK630.out (by decide)) (fun _ hk => hk.2) (.int .i64 t625)) (fun _ hk => hk.2) (.slice Ao49 t626.length co49)) (fun _ h_ => h_.1))) hb); have n5_ := Aside0.mk (Kd.R_below (by (with_reducible repeat (first | apply Kd.R_alloc | apply Kd.R_drewN | apply Kd.R_drew)); exact (Kd.R_mono (Kd.R_far (p := ⟨gb630, 1, none⟩) (Kd.R_far (p := ⟨gb630, 0, none⟩) (Kd.R_types HO628.out BK630.out (by decide)) (fun _ hk => hk.2) (.int .i64 t625)) (fun _ hk => hk.2) (.slice Ao49 t626.length co49)) (fun _ h_ => h_.1))) hb); have n6_ := Aside0.mk (blk_below (g := gb601) (o := .cells #[.int .i64 a0_0, .slice A0_1 l0_1.length c0_1] 60 (0, 0)) (by (with_reducible repeat (first | refine blk_drewN ?_ _ | refine blk_drew ?_ | refine blk_alloc ?_ _)); refine blk_far ?_ NB601_630.out _; (with_reducible repeat (first | refine blk_drewN ?_ _ | refine blk_drew ?_ | refine blk_alloc ?_ _)); refine blk_far ?_ NB601_630.out _; (with_reducible repeat (first | refine blk_drewN ?_ _ | refine blk_drew ?_ | refine blk_alloc ?_ _)); exact BK601.out) hb); have n7_ := Aside0.mk (blk_below (g := gb616) (o := .cells #[.int .i64 t611, .slice Ao32 t612.length co32] 63 (0, 0)) (by (with_reducible repeat (first | refine blk_drewN ?_ _ | refine blk_drew ?_ | refine blk_alloc ?_ _)); refine blk_far ?_ NB616_630.out _; (with_reducible repeat (first | refine blk_drewN ?_ _ | refine blk_drew ?_ | refine blk_alloc ?_ _)); refine blk_far ?_ NB616_630.out _; (with_reducible repeat (first | refine blk_drewN ?_ _ | refine blk_drew ?_ | refine blk_alloc ?_ _)); exact BK616.out) hb); have n8_ := Aside0.mk (blk_below (g := gb621) (o := .cells #[.int .i64 t617, .slice Ao39 t618.length co39] 63 (0, 0)) (by (with_reducible repeat (first | refine blk_drewN ?_ _ | refine blk_drew ?_ | refine blk_alloc ?_ _)); refine blk_far ?_ NB621_630.out _; (with_reducible repeat (first | refine blk_drewN ?_ _ | refine blk_drew ?_ | refine blk_alloc ?_ _)); refine blk_far ?_ NB621_630.out _; (with_reducible repeat (first | refine blk_drewN ?_ _ | refine blk_drew ?_ | refine blk_alloc ?_ _)); exact BK621.out) hb); have n9_ := Aside0.mk (blk_below (g := gb630) (o := .cells #[.int .i64 t625, .slice Ao49 t626.length co49] 63 (0, 0)) (by (with_reducible repeat (first | refine blk_drewN ?_ _ | refine blk_drew ?_ | refine blk_alloc ?_ _)); refine blk_put (cs := #[.int .i64 t625, .slice none 0 0]) ?_ 1 _ rfl; (with_reducible repeat (first | refine blk_drewN ?_ _ | refine blk_drew ?_ | refine blk_alloc ?_ _)); refine blk_put (cs := #[.int .i64 0, .slice none 0 0]) ?_ 0 _ rfl; (with_reducible repeat (first | refine blk_drewN ?_ _ | refine blk_drew ?_ | refine blk_alloc ?_ _)); exact BK630.out) hb); have n10_ := Aside0.mk (below_step (by repeat (first | (with_reducible first | exact HB.out | apply below_alloc | apply pw_below_drewN | apply below_drew1 | refine below_set ?_ GE601.out | refine below_set ?_ GE616.out | refine below_set ?_ GE621.out | refine below_set ?_ GE630.out) | exact HB.out)) hb); clear HO607; clear HO610; clear HO614; clear HO620; clear HO624; clear HO628; clear BK601; clear BK616; clear BK621; clear BK630; clear HB; have HO607 := n0_; have HO610 := n1_; have HO614 := n2_; have HO620 := n3_; have HO624 := n4_; have HO628 := n5_; have BK601 := n6_; have BK616 := n7_; have BK621 := n8_; have BK630 := n9_; have HB := n10_; clear n0_ n1_ n2_ n3_ n4_ n5_ n6_ n7_ n8_ n9_ n10_; (try clear hb); (try clear hb2); (try clear hk); (try clear hi)))
     go_meet
     case rel => exact ⟨_, ((t629 != t615)), (by first | rfl | (simp; done) | (simp [*]; done)), H', ⟨by first | omega | exact Nat.le_refl _⟩, ⟨by (with_reducible repeat (first | apply Kd.R_alloc | apply Kd.R_drewN | apply Kd.R_drew)); exact Kd.R_mono HO624.out (fun _ hk => ⟨hk.1.1.2, ⟨hk.1.2, hk.2⟩⟩)⟩, ⟨by (with_reducible repeat (first | apply Kd.R_alloc | apply Kd.R_drewN | apply Kd.R_drew)); exact Kd.R_mono HO614.out (fun _ hk => ⟨hk.1.2, ⟨hk.1.1.2, hk.2⟩⟩)⟩, ⟨by (with_reducible repeat (first | apply Kd.R_alloc | apply Kd.R_drewN | apply Kd.R_drew)); exact Kd.R_mono HO620.out (fun _ hk => ⟨hk.1.2, ⟨hk.1.1.2, hk.2⟩⟩)⟩, ⟨by (with_reducible repeat (first | apply Kd.R_alloc | apply Kd.R_drewN | apply Kd.R_drew)); exact Kd.R_mono HO628.out (fun _ hk => ⟨hk.2, ⟨hk.1.1.2, hk.1.2⟩⟩)⟩, ⟨by (with_reducible repeat (first | refine blk_drewN ?_ _ | refine blk_drew ?_ | refine blk_alloc ?_ _)); exact BK601.out⟩, ⟨by (with_reducible repeat (first | refine blk_drewN ?_ _ | refine blk_drew ?_ | refine blk_alloc ?_ _)); exact BK616.out⟩, ⟨by (with_reducible repeat (first | refine blk_drewN ?_ _ | refine blk_drew ?_ | refine blk_alloc ?_ _)); exact BK621.out⟩, ⟨by (with_reducible repeat (first | refine blk_drewN ?_ _ | refine blk_drew ?_ | refine blk_alloc ?_ _)); exact BK630.out⟩, ⟨by repeat (first | (with_reducible first | exact HB.out | apply below_alloc | apply pw_below_drewN | apply below_drew1 | refine below_set ?_ GE601.out | refine below_set ?_ GE616.out | refine below_set ?_ GE621.out | refine below_set ?_ GE630.out) | exact HB.out)⟩⟩
    ·replace c51 := Bool.eq_false_iff.mpr c51
     subst c51
     have H1 : (laws_FnExactEdgeAll.j0 k l1 t615 t622 t629 true a0_0 l0_1 t611 t612 t617 t618 t625 t626) = some r := by rw [if_neg (show ¬ (false = true) by decide)] at H; exact H
     clear H
     have H := H1
     clear H1
     have H' := Aside0.mk H
     clear H
     have hnb60 := NB630_601.out
     have hnc60 := NB601_630.out
     have hnb61 := NB630_616.out
     have hnc61 := NB616_630.out
     have hnb62 := NB630_621.out
     have hnc62 := NB621_630.out
     have hcz63_0 : w44.cell? ⟨gb630, 0, none⟩ = some (.int .i64 0) := (blk_cell BK630.out 0).trans rfl
     have hcz63_1 : w44.cell? ⟨gb630, 1, none⟩ = some (.slice none 0 0) := (blk_cell BK630.out 1).trans rfl
     have hfz63_0 := blk_frozen BK630.out 0
     have hfz63_1 := blk_frozen BK630.out 1
     have hnb64 := NB616_601.out
     have hnc64 := NB601_616.out
     have hnb65 := NB616_621.out
     have hnc65 := NB621_616.out
     have hcz66_0 : w44.cell? ⟨gb616, 0, none⟩ = some (.int .i64 t611) := (blk_cell BK616.out 0).trans rfl
     have hcz66_1 : w44.cell? ⟨gb616, 1, none⟩ = some (.slice Ao32 t612.length co32) := (blk_cell BK616.out 1).trans rfl
     have hfz66_0 := blk_frozen BK616.out 0
     have hfz66_1 := blk_frozen BK616.out 1
     go_wp2_with (first | ((with_reducible refine gate_callee (f := 47) rfl ?_); refine goesL_ (some 47) rfl rfl Try.func47 (by kernel_rfl) rfl #[.agg #[.int .i64 t625, .slice Ao49 t626.length co49], .agg #[.int .i64 t611, .slice Ao32 t612.length co32]] rfl (by (try simp only [List.map_toArray, List.map_cons, List.map_nil]); first | done | rfl | (simp only [List.length_drop, List.length_take]; rfl)) ?_; (with_reducible refine (laws_eqEdge.calls k t625 _ _ t626 t611 _ _ t612 false _ ?side1 ?side2 ?side3 ?side4 A50.out).mono ?_); (case side1 => refine (Kd.R_reads' (e := 9) (base := w.heap.size) (ok := fun k_ => (((((True ∧ some k_ ≠ (.slice Ao26 t605.length co26 : Value).ownBlock) ∧ some k_ ≠ (.slice Ao27 t608.length co27 : Value).ownBlock) ∧ some k_ ≠ (.slice Ao32 t612.length co32 : Value).ownBlock) ∧ some k_ ≠ (.slice Ao39 t618.length co39 : Value).ownBlock) ∧ some k_ ≠ (.slice Ao42 t622.length co42 : Value).ownBlock)) (n := t626.length) (c := co49) ?_).2.2; exact (by (with_reducible repeat (first | apply Kd.R_alloc | apply Kd.R_drewN | apply Kd.R_drew)); exact (Kd.R_mono (Kd.R_far (p := ⟨gb630, 1, none⟩) (Kd.R_far (p := ⟨gb630, 0, none⟩) (Kd.R_types HO628.out BK630.out (by decide)) (fun _ hk => hk.2) (.int .i64 t625)) (fun _ hk => hk.2) (.slice Ao49 t626.length co49)) (fun _ h_ => h_.1)))); (case side2 => exact (Kd.R_reads' HO628.out).2.1); (case side3 => refine (Kd.R_reads' (e := 9) (base := w.heap.size) (ok := fun k_ => (((((True ∧ some k_ ≠ (.slice Ao26 t605.length co26 : Value).ownBlock) ∧ some k_ ≠ (.slice Ao27 t608.length co27 : Value).ownBlock) ∧ some k_ ≠ (.slice Ao39 t618.length co39 : Value).ownBlock) ∧ some k_ ≠ (.slice Ao42 t622.length co42 : Value).ownBlock) ∧ some k_ ≠ (.slice Ao49 t626.length co49 : Value).ownBlock)) (n := t612.length) (c := co32) ?_).2.2; exact (by (with_reducible repeat (first | apply Kd.R_alloc | apply Kd.R_drewN | apply Kd.R_drew)); exact (Kd.R_mono (Kd.R_far (p := ⟨gb630, 1, none⟩) (Kd.R_far (p := ⟨gb630, 0, none⟩) (Kd.R_types HO614.out BK630.out (by decide)) (fun _ hk => hk.2) (.int .i64 t625)) (fun _ hk => hk.2) (.slice Ao49 t626.length co49)) (fun _ h_ => h_.1)))); (case side4 => exact (Kd.R_reads' HO614.out).2.1); rintro e w67 ⟨rfl, hb⟩; refine ⟨_, rfl, ?_⟩; have n0_ := Aside0.mk (Kd.R_below (by (with_reducible repeat (first | apply Kd.R_alloc | apply Kd.R_drewN | apply Kd.R_drew)); exact (Kd.R_mono (Kd.R_far (p := ⟨gb630, 1, none⟩) (Kd.R_far (p := ⟨gb630, 0, none⟩) (Kd.R_types HO607.out BK630.out (by decide)) (fun _ hk => hk.2) (.int .i64 t625)) (fun _ hk => hk.2) (.slice Ao49 t626.length co49)) (fun _ h_ => h_.1))) hb); have n1_ := Aside0.mk (Kd.R_below (by (with_reducible repeat (first | apply Kd.R_alloc | apply Kd.R_drewN | apply Kd.R_drew)); exact (Kd.R_mono (Kd.R_far (p := ⟨gb630, 1, none⟩) (Kd.R_far (p := ⟨gb630, 0, none⟩) (Kd.R_types HO610.out BK630.out (by decide)) (fun _ hk => hk.2) (.int .i64 t625)) (fun _ hk => hk.2) (.slice Ao49 t626.length co49)) (fun _ h_ => h_.1))) hb); have n2_ := Aside0.mk (Kd.R_below (by (with_reducible repeat (first | apply Kd.R_alloc | apply Kd.R_drewN | apply Kd.R_drew)); exact (Kd.R_mono (Kd.R_far (p := ⟨gb630, 1, none⟩) (Kd.R_far (p := ⟨gb630, 0, none⟩) (Kd.R_types HO614.out BK630.out (by decide)) (fun _ hk => hk.2) (.int .i64 t625)) (fun _ hk => hk.2) (.slice Ao49 t626.length co49)) (fun _ h_ => h_.1))) hb); have n3_ := Aside0.mk (Kd.R_below (by (with_reducible repeat (first | apply Kd.R_alloc | apply Kd.R_drewN | apply Kd.R_drew)); exact (Kd.R_mono (Kd.R_far (p := ⟨gb630, 1, none⟩) (Kd.R_far (p := ⟨gb630, 0, none⟩) (Kd.R_types HO620.out BK630.out (by decide)) (fun _ hk => hk.2) (.int .i64 t625)) (fun _ hk => hk.2) (.slice Ao49 t626.length co49)) (fun _ h_ => h_.1))) hb); have n4_ := Aside0.mk (Kd.R_below (by (with_reducible repeat (first | apply Kd.R_alloc | apply Kd.R_drewN | apply Kd.R_drew)); exact (Kd.R_mono (Kd.R_far (p := ⟨gb630, 1, none⟩) (Kd.R_far (p := ⟨gb630, 0, none⟩) (Kd.R_types HO624.out BK630.out (by decide)) (fun _ hk => hk.2) (.int .i64 t625)) (fun _ hk => hk.2) (.slice Ao49 t626.length co49)) (fun _ h_ => h_.1))) hb); have n5_ := Aside0.mk (Kd.R_below (by (with_reducible repeat (first | apply Kd.R_alloc | apply Kd.R_drewN | apply Kd.R_drew)); exact (Kd.R_mono (Kd.R_far (p := ⟨gb630, 1, none⟩) (Kd.R_far (p := ⟨gb630, 0, none⟩) (Kd.R_types HO628.out BK630.out (by decide)) (fun _ hk => hk.2) (.int .i64 t625)) (fun _ hk => hk.2) (.slice Ao49 t626.length co49)) (fun _ h_ => h_.1))) hb); have n6_ := Aside0.mk (blk_below (g := gb601) (o := .cells #[.int .i64 a0_0, .slice A0_1 l0_1.length c0_1] 60 (0, 0)) (by (with_reducible repeat (first | refine blk_drewN ?_ _ | refine blk_drew ?_ | refine blk_alloc ?_ _)); refine blk_far ?_ NB601_630.out _; (with_reducible repeat (first | refine blk_drewN ?_ _ | refine blk_drew ?_ | refine blk_alloc ?_ _)); refine blk_far ?_ NB601_630.out _; (with_reducible repeat (first | refine blk_drewN ?_ _ | refine blk_drew ?_ | refine blk_alloc ?_ _)); exact BK601.out) hb); have n7_ := Aside0.mk (blk_below (g := gb616) (o := .cells #[.int .i64 t611, .slice Ao32 t612.length co32] 63 (0, 0)) (by (with_reducible repeat (first | refine blk_drewN ?_ _ | refine blk_drew ?_ | refine blk_alloc ?_ _)); refine blk_far ?_ NB616_630.out _; (with_reducible repeat (first | refine blk_drewN ?_ _ | refine blk_drew ?_ | refine blk_alloc ?_ _)); refine blk_far ?_ NB616_630.out _; (with_reducible repeat (first | refine blk_drewN ?_ _ | refine blk_drew ?_ | refine blk_alloc ?_ _)); exact BK616.out) hb); have n8_ := Aside0.mk (blk_below (g := gb621) (o := .cells #[.int .i64 t617, .slice Ao39 t618.length co39] 63 (0, 0)) (by (with_reducible repeat (first | refine blk_drewN ?_ _ | refine blk_drew ?_ | refine blk_alloc ?_ _)); refine blk_far ?_ NB621_630.out _; (with_reducible repeat (first | refine blk_drewN ?_ _ | refine blk_drew ?_ | refine blk_alloc ?_ _)); refine blk_far ?_ NB621_630.out _; (with_reducible repeat (first | refine blk_drewN ?_ _ | refine blk_drew ?_ | refine blk_alloc ?_ _)); exact BK621.out) hb); have n9_ := Aside0.mk (blk_below (g := gb630) (o := .cells #[.int .i64 t625, .slice Ao49 t626.length co49] 63 (0, 0)) (by (with_reducible repeat (first | refine blk_drewN ?_ _ | refine blk_drew ?_ | refine blk_alloc ?_ _)); refine blk_put (cs := #[.int .i64 t625, .slice none 0 0]) ?_ 1 _ rfl; (with_reducible repeat (first | refine blk_drewN ?_ _ | refine blk_drew ?_ | refine blk_alloc ?_ _)); refine blk_put (cs := #[.int .i64 0, .slice none 0 0]) ?_ 0 _ rfl; (with_reducible repeat (first | refine blk_drewN ?_ _ | refine blk_drew ?_ | refine blk_alloc ?_ _)); exact BK630.out) hb); have n10_ := Aside0.mk (below_step (by repeat (first | (with_reducible first | exact HB.out | apply below_alloc | apply pw_below_drewN | apply below_drew1 | refine below_set ?_ GE601.out | refine below_set ?_ GE616.out | refine below_set ?_ GE621.out | refine below_set ?_ GE630.out) | exact HB.out)) hb); clear HO607; clear HO610; clear HO614; clear HO620; clear HO624; clear HO628; clear BK601; clear BK616; clear BK621; clear BK630; clear HB; have HO607 := n0_; have HO610 := n1_; have HO614 := n2_; have HO620 := n3_; have HO624 := n4_; have HO628 := n5_; have BK601 := n6_; have BK616 := n7_; have BK621 := n8_; have BK630 := n9_; have HB := n10_; clear n0_ n1_ n2_ n3_ n4_ n5_ n6_ n7_ n8_ n9_ n10_; (try clear hb); (try clear hb2); (try clear hk); (try clear hi)))
     go_meet
     case rel => exact ⟨_, (true), (by first | rfl | (simp; done) | (simp [*]; done)), H', ⟨by first | omega | exact Nat.le_refl _⟩, ⟨by (with_reducible repeat (first | apply Kd.R_alloc | apply Kd.R_drewN | apply Kd.R_drew)); exact Kd.R_mono HO624.out (fun _ hk => ⟨hk.1.1.2, ⟨hk.1.2, hk.2⟩⟩)⟩, ⟨by (with_reducible repeat (first | apply Kd.R_alloc | apply Kd.R_drewN | apply Kd.R_drew)); exact Kd.R_mono HO614.out (fun _ hk => ⟨hk.1.2, ⟨hk.1.1.2, hk.2⟩⟩)⟩, ⟨by (with_reducible repeat (first | apply Kd.R_alloc | apply Kd.R_drewN | apply Kd.R_drew)); exact Kd.R_mono HO620.out (fun _ hk => ⟨hk.1.2, ⟨hk.1.1.2, hk.2⟩⟩)⟩, ⟨by (with_reducible repeat (first | apply Kd.R_alloc | apply Kd.R_drewN | apply Kd.R_drew)); exact Kd.R_mono HO628.out (fun _ hk => ⟨hk.2, ⟨hk.1.1.2, hk.1.2⟩⟩)⟩, ⟨by (with_reducible repeat (first | refine blk_drewN ?_ _ | refine blk_drew ?_ | refine blk_alloc ?_ _)); exact BK601.out⟩, ⟨by (with_reducible repeat (first | refine blk_drewN ?_ _ | refine blk_drew ?_ | refine blk_alloc ?_ _)); exact BK616.out⟩, ⟨by (with_reducible repeat (first | refine blk_drewN ?_ _ | refine blk_drew ?_ | refine blk_alloc ?_ _)); exact BK621.out⟩, ⟨by (with_reducible repeat (first | refine blk_drewN ?_ _ | refine blk_drew ?_ | refine blk_alloc ?_ _)); exact BK630.out⟩, ⟨by repeat (first | (with_reducible first | exact HB.out | apply below_alloc | apply pw_below_drewN | apply below_drew1 | refine below_set ?_ GE601.out | refine below_set ?_ GE616.out | refine below_set ?_ GE621.out | refine below_set ?_ GE630.out) | exact HB.out)⟩⟩
   case rest =>
    clear HC19
    try clear c1
    try clear p2
    try clear c3
    try clear c4
    try clear c4b0
    try clear c5
    try clear c6
    try clear c8
    try clear c9
    try clear c9b0
    try clear c30
    try clear c36
    try clear c37
    try clear c41
    try clear c42
    try clear c43
    try clear c44
    try clear c45
    try clear c46
    try clear c47
    try clear c51
    try clear c52
    try clear c53
    try clear c54
    try clear c56
    try clear c57
    try clear c60
    try clear c61
    try clear c62
    try clear c64
    try clear c65
    try clear hcz11_0
    try clear hcz11_1
    try clear hcz21_0
    try clear hcz21_1
    try clear hcz23_0
    try clear hcz23_1
    try clear hcz31_0
    try clear hcz31_1
    try clear hcz33_0
    try clear hcz33_1
    try clear hcz38_0
    try clear hcz38_1
    try clear hcz41_0
    try clear hcz41_1
    try clear hcz48_0
    try clear hcz48_1
    try clear hcz55_0
    try clear hcz55_1
    try clear hcz58_0
    try clear hcz58_1
    try clear hcz63_0
    try clear hcz63_1
    try clear hcz66_0
    try clear hcz66_1
    try clear hcz6_0
    try clear hcz6_1
    try clear hfz11_0
    try clear hfz11_1
    try clear hfz21_0
    try clear hfz21_1
    try clear hfz23_0
    try clear hfz23_1
    try clear hfz31_0
    try clear hfz31_1
    try clear hfz33_0
    try clear hfz33_1
    try clear hfz38_0
    try clear hfz38_1
    try clear hfz41_0
    try clear hfz41_1
    try clear hfz48_0
    try clear hfz48_1
    try clear hfz55_0
    try clear hfz55_1
    try clear hfz58_0
    try clear hfz58_1
    try clear hfz63_0
    try clear hfz63_1
    try clear hfz66_0
    try clear hfz66_1
    try clear hfz6_0
    try clear hfz6_1
    obtain ⟨kq, x53_18, rfl, HA, HJ18, HO_9, HO_617001, HO_622001, HO_631001, BK601, BK616, BK621, BK630, HB⟩ := hcut
    cases kq with
    | zero => exact absurd HA.out (by simp [laws_FnExactEdgeAll.j0])
    | succ kj18 =>
     have H := HA.out
     clear HA
     simp only [laws_FnExactEdgeAll.j0] at H
     by_cases c68 : x53_18 = true
     ·subst c68
      have H1 : (none) = some r := by rw [if_pos rfl] at H; exact H
      clear H
      have H := H1
      clear H1
      exact absurd H (by simp)
     ·replace c68 := Bool.eq_false_iff.mpr c68
      subst c68
      have H1 : ((laws_toEdge.f kj18 a0_0 l0_1).bind fun bt632 => ((laws_eqEdge.f kj18 t617 t618 bt632.1 bt632.2).bind fun t636 => (if t636 = true then ((laws_toStringS.f kj18 l1).bind fun t637 => ((laws_eqStringS.f kj18 t622 t637).bind fun t640 => (if t640 = true then ((laws_markEdge.f kj18 t617 t618 1).bind fun bt641 => ((laws_markStringS.f kj18 t622 bt641.1).bind fun bt643 => (if bt643.1 < 0 then (laws_FnExactEdgeAll.j1 kj18 l1 t615 true a0_0 l0_1 t611 t612 t625 t626) else ((laws_eqEdge.f kj18 t625 t626 t611 t612).bind fun t645 => (if t645 = true then (laws_FnExactEdgeAll.j1 kj18 l1 t615 (t629 != t615) a0_0 l0_1 t611 t612 t625 t626) else (laws_FnExactEdgeAll.j1 kj18 l1 t615 true a0_0 l0_1 t611 t612 t625 t626)))))) else (none)))) else (none)))) = some r := by rw [if_neg (show ¬ (false = true) by decide)] at H; exact H
      clear H
      have H := H1
      clear H1
      replace H := Option.bind_eq_some_iff.mp H
      obtain ⟨⟨t632, t633⟩, A690, H⟩ := H
      replace H : ((laws_eqEdge.f kj18 t617 t618 t632 t633).bind fun t636 => (if t636 = true then ((laws_toStringS.f kj18 l1).bind fun t637 => ((laws_eqStringS.f kj18 t622 t637).bind fun t640 => (if t640 = true then ((laws_markEdge.f kj18 t617 t618 1).bind fun bt641 => ((laws_markStringS.f kj18 t622 bt641.1).bind fun bt643 => (if bt643.1 < 0 then (laws_FnExactEdgeAll.j1 kj18 l1 t615 true a0_0 l0_1 t611 t612 t625 t626) else ((laws_eqEdge.f kj18 t625 t626 t611 t612).bind fun t645 => (if t645 = true then (laws_FnExactEdgeAll.j1 kj18 l1 t615 (t629 != t615) a0_0 l0_1 t611 t612 t625 t626) else (laws_FnExactEdgeAll.j1 kj18 l1 t615 true a0_0 l0_1 t611 t612 t625 t626)))))) else (none)))) else (none))) = some r := H
      have A69 := Aside0.mk A690
      clear A690
      replace H := Option.bind_eq_some_iff.mp H
      obtain ⟨t636, A700, H⟩ := H
      replace H : (if t636 = true then ((laws_toStringS.f kj18 l1).bind fun t637 => ((laws_eqStringS.f kj18 t622 t637).bind fun t640 => (if t640 = true then ((laws_markEdge.f kj18 t617 t618 1).bind fun bt641 => ((laws_markStringS.f kj18 t622 bt641.1).bind fun bt643 => (if bt643.1 < 0 then (laws_FnExactEdgeAll.j1 kj18 l1 t615 true a0_0 l0_1 t611 t612 t625 t626) else ((laws_eqEdge.f kj18 t625 t626 t611 t612).bind fun t645 => (if t645 = true then (laws_FnExactEdgeAll.j1 kj18 l1 t615 (t629 != t615) a0_0 l0_1 t611 t612 t625 t626) else (laws_FnExactEdgeAll.j1 kj18 l1 t615 true a0_0 l0_1 t611 t612 t625 t626)))))) else (none)))) else (none)) = some r := H
      have A70 := Aside0.mk A700
      clear A700
      by_cases c71 : t636 = true
      ·subst c71
       have H1 : ((laws_toStringS.f kj18 l1).bind fun t637 => ((laws_eqStringS.f kj18 t622 t637).bind fun t640 => (if t640 = true then ((laws_markEdge.f kj18 t617 t618 1).bind fun bt641 => ((laws_markStringS.f kj18 t622 bt641.1).bind fun bt643 => (if bt643.1 < 0 then (laws_FnExactEdgeAll.j1 kj18 l1 t615 true a0_0 l0_1 t611 t612 t625 t626) else ((laws_eqEdge.f kj18 t625 t626 t611 t612).bind fun t645 => (if t645 = true then (laws_FnExactEdgeAll.j1 kj18 l1 t615 (t629 != t615) a0_0 l0_1 t611 t612 t625 t626) else (laws_FnExactEdgeAll.j1 kj18 l1 t615 true a0_0 l0_1 t611 t612 t625 t626)))))) else (none)))) = some r := by rw [if_pos rfl] at H; exact H
       clear H
       have H := H1
       clear H1
       replace H := Option.bind_eq_some_iff.mp H
       obtain ⟨t637, A720, H⟩ := H
       replace H : ((laws_eqStringS.f kj18 t622 t637).bind fun t640 => (if t640 = true then ((laws_markEdge.f kj18 t617 t618 1).bind fun bt641 => ((laws_markStringS.f kj18 t622 bt641.1).bind fun bt643 => (if bt643.1 < 0 then (laws_FnExactEdgeAll.j1 kj18 l1 t615 true a0_0 l0_1 t611 t612 t625 t626) else ((laws_eqEdge.f kj18 t625 t626 t611 t612).bind fun t645 => (if t645 = true then (laws_FnExactEdgeAll.j1 kj18 l1 t615 (t629 != t615) a0_0 l0_1 t611 t612 t625 t626) else (laws_FnExactEdgeAll.j1 kj18 l1 t615 true a0_0 l0_1 t611 t612 t625 t626)))))) else (none))) = some r := H
       have A72 := Aside0.mk A720
       clear A720
       replace H := Option.bind_eq_some_iff.mp H
       obtain ⟨t640, A730, H⟩ := H
       replace H : (if t640 = true then ((laws_markEdge.f kj18 t617 t618 1).bind fun bt641 => ((laws_markStringS.f kj18 t622 bt641.1).bind fun bt643 => (if bt643.1 < 0 then (laws_FnExactEdgeAll.j1 kj18 l1 t615 true a0_0 l0_1 t611 t612 t625 t626) else ((laws_eqEdge.f kj18 t625 t626 t611 t612).bind fun t645 => (if t645 = true then (laws_FnExactEdgeAll.j1 kj18 l1 t615 (t629 != t615) a0_0 l0_1 t611 t612 t625 t626) else (laws_FnExactEdgeAll.j1 kj18 l1 t615 true a0_0 l0_1 t611 t612 t625 t626)))))) else (none)) = some r := H
       have A73 := Aside0.mk A730
       clear A730
       by_cases c74 : t640 = true
       ·subst c74
        have H1 : ((laws_markEdge.f kj18 t617 t618 1).bind fun bt641 => ((laws_markStringS.f kj18 t622 bt641.1).bind fun bt643 => (if bt643.1 < 0 then (laws_FnExactEdgeAll.j1 kj18 l1 t615 true a0_0 l0_1 t611 t612 t625 t626) else ((laws_eqEdge.f kj18 t625 t626 t611 t612).bind fun t645 => (if t645 = true then (laws_FnExactEdgeAll.j1 kj18 l1 t615 (t629 != t615) a0_0 l0_1 t611 t612 t625 t626) else (laws_FnExactEdgeAll.j1 kj18 l1 t615 true a0_0 l0_1 t611 t612 t625 t626)))))) = some r := by rw [if_pos rfl] at H; exact H
        clear H
        have H := H1
        clear H1
        replace H := Option.bind_eq_some_iff.mp H
        obtain ⟨⟨t641, t642⟩, A750, H⟩ := H
        replace H : ((laws_markStringS.f kj18 t622 t641).bind fun bt643 => (if bt643.1 < 0 then (laws_FnExactEdgeAll.j1 kj18 l1 t615 true a0_0 l0_1 t611 t612 t625 t626) else ((laws_eqEdge.f kj18 t625 t626 t611 t612).bind fun t645 => (if t645 = true then (laws_FnExactEdgeAll.j1 kj18 l1 t615 (t629 != t615) a0_0 l0_1 t611 t612 t625 t626) else (laws_FnExactEdgeAll.j1 kj18 l1 t615 true a0_0 l0_1 t611 t612 t625 t626))))) = some r := H
        have A75 := Aside0.mk A750
        clear A750
        replace H := Option.bind_eq_some_iff.mp H
        obtain ⟨⟨t643, t644⟩, A760, H⟩ := H
        replace H : (if t643 < 0 then (laws_FnExactEdgeAll.j1 kj18 l1 t615 true a0_0 l0_1 t611 t612 t625 t626) else ((laws_eqEdge.f kj18 t625 t626 t611 t612).bind fun t645 => (if t645 = true then (laws_FnExactEdgeAll.j1 kj18 l1 t615 (t629 != t615) a0_0 l0_1 t611 t612 t625 t626) else (laws_FnExactEdgeAll.j1 kj18 l1 t615 true a0_0 l0_1 t611 t612 t625 t626)))) = some r := H
        have A76 := Aside0.mk A760
        clear A760
        have HC77 := Aside0.mk H
        clear H
        try go_wp2
        have n0_ := Aside0.mk (Kd.R_drew HO_9.out)
        have n1_ := Aside0.mk (Kd.R_drew HO_617001.out)
        have n2_ := Aside0.mk (Kd.R_drew HO_622001.out)
        have n3_ := Aside0.mk (Kd.R_drew HO_631001.out)
        have n4_ := Aside0.mk (blk_drew BK601.out)
        have n5_ := Aside0.mk (blk_drew BK616.out)
        have n6_ := Aside0.mk (blk_drew BK621.out)
        have n7_ := Aside0.mk (blk_drew BK630.out)
        have n8_ := Aside0.mk (below_drew1 HB.out)
        clear HO_9
        clear HO_617001
        clear HO_622001
        clear HO_631001
        clear BK601
        clear BK616
        clear BK621
        clear BK630
        clear HB
        have HO_9 := n0_
        have HO_617001 := n1_
        have HO_622001 := n2_
        have HO_631001 := n3_
        have BK601 := n4_
        have BK616 := n5_
        have BK621 := n6_
        have BK630 := n7_
        have HB := n8_
        clear n0_ n1_ n2_ n3_ n4_ n5_ n6_ n7_ n8_
        refine start_ (n := 5) (S := fun w' => w'.cell? ⟨gb621, 0, none⟩ = some (.int .i64 t617) ∧ w'.cell? ⟨gb621, 1, none⟩ = some (.slice Ao39 t618.length co39) ∧ w'.cell? ⟨gb601, 0, none⟩ = some (.int .i64 a0_0) ∧ w'.cell? ⟨gb601, 1, none⟩ = some (.slice A0_1 l0_1.length c0_1)) (ds := []) #[false, false, false, false, false] (by kernel_rfl) rfl rfl ⟨(blk_cell BK621.out 0).trans rfl, (blk_cell BK621.out 1).trans rfl, (blk_cell BK601.out 0).trans rfl, (blk_cell BK601.out 1).trans rfl⟩ (fun hHeld => ?_)
        generalize wc.drew = w78 at HO_9 HO_617001 HO_622001 HO_631001 BK601 BK616 BK621 BK630 HB hHeld ⊢
        refine take_ (i := 0) (N := some 54) (v := ?_) (a' := ?_) #[true, false, false, false, false] rfl rfl (by kernel_rfl) (fun _ _ _ h => h) (Or.inl ⟨by rfl, ?_⟩) hHeld ?_ ?_
        rotate_left
        ·rintro w' ⟨s0, s1, s2, s3⟩
         go_simp
         with_reducible rfl
        rotate_left
        ·simp only [Act.put, List.setIfInBounds_toArray, List.set_cons_zero, List.set_cons_succ, i64_w, i32_w]
         rfl
        refine take_ (i := 1) (N := some 55) (v := ?_) (a' := ?_) #[true, true, false, false, false] rfl rfl (by kernel_rfl) (fun _ _ _ h => h) (Or.inl ⟨by rfl, ?_⟩) hHeld ?_ ?_
        rotate_left
        ·rintro w' ⟨s0, s1, s2, s3⟩
         go_simp
         with_reducible rfl
        rotate_left
        ·simp only [Act.put, List.setIfInBounds_toArray, List.set_cons_zero, List.set_cons_succ, i64_w, i32_w]
         rfl
        refine one_ (i := 2) (N := some 56) #[true, true, true, false, false] rfl rfl (by kernel_rfl) (by decide) (fun K hK => ?_)
        refine goes_ Try.func44 (by kernel_rfl) rfl #[.agg #[.int .i64 a0_0, .slice A0_1 l0_1.length c0_1]] (by rfl) rfl rfl (by (try simp only [List.map_toArray, List.map_cons, List.map_nil]); first | done | rfl | (simp only [List.length_drop, List.length_take]; rfl)) ?_
        with_reducible refine (laws_toEdge.calls kj18 a0_0 _ _ l0_1 t632 t633 _ ?side1 ?side2 A69.out).mono ?_
        (case side1 => repeat (first | exact (Kd.C_below HR0_1.out HB.out) | (with_reducible refine Kd.C_alloc ?_ _) | (with_reducible refine Kd.C_drewN ?_ _) | (with_reducible refine Kd.C_drew ?_)))
        (case side2 => exact HC0_1.out)
        rintro e w79 ⟨v634, rfl, ho0, hb⟩
        refine ⟨_, rfl, ?_⟩
        have n0_ := Aside0.mk (Kd.R_elder' (by (with_reducible repeat (first | apply Kd.R_alloc | apply Kd.R_drewN | apply Kd.R_drew)); exact HO_9.out) (Kd.R_base ho0) hb)
        have n1_ := Aside0.mk (Kd.R_elder' (by (with_reducible repeat (first | apply Kd.R_alloc | apply Kd.R_drewN | apply Kd.R_drew)); exact HO_617001.out) (Kd.R_base ho0) hb)
        have n2_ := Aside0.mk (Kd.R_elder' (by (with_reducible repeat (first | apply Kd.R_alloc | apply Kd.R_drewN | apply Kd.R_drew)); exact HO_622001.out) (Kd.R_base ho0) hb)
        have n3_ := Aside0.mk (Kd.R_elder' (by (with_reducible repeat (first | apply Kd.R_alloc | apply Kd.R_drewN | apply Kd.R_drew)); exact HO_631001.out) (Kd.R_base ho0) hb)
        have n4_ := Aside0.mk (Kd.R_lower (Kd.R_new' (Kd.R_new' (Kd.R_new' (Kd.R_new' ho0 (Kd.R_lt (by (with_reducible repeat (first | apply Kd.R_alloc | apply Kd.R_drewN | apply Kd.R_drew)); exact HO_9.out))) (Kd.R_lt (by (with_reducible repeat (first | apply Kd.R_alloc | apply Kd.R_drewN | apply Kd.R_drew)); exact HO_617001.out))) (Kd.R_lt (by (with_reducible repeat (first | apply Kd.R_alloc | apply Kd.R_drewN | apply Kd.R_drew)); exact HO_622001.out))) (Kd.R_lt (by (with_reducible repeat (first | apply Kd.R_alloc | apply Kd.R_drewN | apply Kd.R_drew)); exact HO_631001.out))) (below_size (by repeat (first | (with_reducible first | exact HB.out | apply below_alloc | apply pw_below_drewN | apply below_drew1 | refine below_set ?_ GE601.out | refine below_set ?_ GE616.out | refine below_set ?_ GE621.out | refine below_set ?_ GE630.out) | exact HB.out))))
        have n5_ := Aside0.mk (blk_below (g := gb601) (o := .cells #[.int .i64 a0_0, .slice A0_1 l0_1.length c0_1] 60 (0, 0)) (by (with_reducible repeat (first | refine blk_drewN ?_ _ | refine blk_drew ?_ | refine blk_alloc ?_ _)); exact BK601.out) hb)
        have n6_ := Aside0.mk (blk_below (g := gb616) (o := .cells #[.int .i64 t611, .slice Ao32 t612.length co32] 63 (0, 0)) (by (with_reducible repeat (first | refine blk_drewN ?_ _ | refine blk_drew ?_ | refine blk_alloc ?_ _)); exact BK616.out) hb)
        have n7_ := Aside0.mk (blk_below (g := gb621) (o := .cells #[.int .i64 t617, .slice Ao39 t618.length co39] 63 (0, 0)) (by (with_reducible repeat (first | refine blk_drewN ?_ _ | refine blk_drew ?_ | refine blk_alloc ?_ _)); exact BK621.out) hb)
        have n8_ := Aside0.mk (blk_below (g := gb630) (o := .cells #[.int .i64 t625, .slice Ao49 t626.length co49] 63 (0, 0)) (by (with_reducible repeat (first | refine blk_drewN ?_ _ | refine blk_drew ?_ | refine blk_alloc ?_ _)); exact BK630.out) hb)
        have n9_ := Aside0.mk (below_step (by repeat (first | (with_reducible first | exact HB.out | apply below_alloc | apply pw_below_drewN | apply below_drew1 | refine below_set ?_ GE601.out | refine below_set ?_ GE616.out | refine below_set ?_ GE621.out | refine below_set ?_ GE630.out) | exact HB.out)) hb)
        clear HO_9
        clear HO_617001
        clear HO_622001
        clear HO_631001
        clear BK601
        clear BK616
        clear BK621
        clear BK630
        clear HB
        have HO_9 := n0_
        have HO_617001 := n1_
        have HO_622001 := n2_
        have HO_631001 := n3_
        have HO635 := n4_
        have BK601 := n5_
        have BK616 := n6_
        have BK621 := n7_
        have BK630 := n8_
        have HB := n9_
        clear n0_ n1_ n2_ n3_ n4_ n5_ n6_ n7_ n8_ n9_
        (try clear hb)
        (try clear hb2)
        (try clear hk)
        (try clear hi)
        (try clear ho0)
        obtain ⟨Ao80, co80, eo80⟩ := Kd.R_slice HO635.out
        (first | subst eo80 | (injection eo80 with f1_ f2_ f3_; have f4_ := f1_.symm; have f5_ := f3_.symm; clear f1_ f2_ f3_; subst f4_; subst f5_))
        refine hK.out _ _ ⟨(blk_cell BK621.out 0).trans rfl, (blk_cell BK621.out 1).trans rfl, (blk_cell BK601.out 0).trans rfl, (blk_cell BK601.out 1).trans rfl⟩ (fun hHeld => ?_)
        clear hK K
        refine norm_ (a' := ?_) ?_ ?_
        rotate_left
        ·show Act.put _ (some 56) _ = _
         simp only [Act.put, List.setIfInBounds_toArray, List.set_cons_zero, List.set_cons_succ, i64_w, i32_w]
         rfl
        refine one_ (i := 3) (N := some 57) #[true, true, true, true, false] rfl rfl (by kernel_rfl) (by decide) (fun K hK => ?_)
        refine goes_ Try.func47 (by kernel_rfl) rfl #[.agg #[.int .i64 t617, .slice Ao39 t618.length co39], .agg #[.int .i64 t632, .slice Ao80 t633.length co80]] (by rfl) rfl rfl (by (try simp only [List.map_toArray, List.map_cons, List.map_nil]); first | done | rfl | (simp only [List.length_drop, List.length_take]; rfl)) ?_
        with_reducible refine (laws_eqEdge.calls kj18 t617 _ _ t618 t632 _ _ t633 true _ ?side1 ?side2 ?side3 ?side4 A70.out).mono ?_
        (case side1 => repeat (first | exact (Kd.R_reads' HO_622001.out).2.2 | (with_reducible refine Kd.C_alloc ?_ _) | (with_reducible refine Kd.C_drewN ?_ _) | (with_reducible refine Kd.C_drew ?_)))
        (case side2 => exact (Kd.R_reads' HO_622001.out).2.1)
        (case side3 => repeat (first | exact (Kd.R_reads' HO635.out).2.2 | (with_reducible refine Kd.C_alloc ?_ _) | (with_reducible refine Kd.C_drewN ?_ _) | (with_reducible refine Kd.C_drew ?_)))
        (case side4 => exact (Kd.R_reads' HO635.out).2.1)
        rintro e w81 ⟨rfl, hb⟩
        refine ⟨_, rfl, ?_⟩
        have n0_ := Aside0.mk (Kd.R_below (by (with_reducible repeat (first | apply Kd.R_alloc | apply Kd.R_drewN | apply Kd.R_drew)); exact HO_9.out) hb)
        have n1_ := Aside0.mk (Kd.R_below (by (with_reducible repeat (first | apply Kd.R_alloc | apply Kd.R_drewN | apply Kd.R_drew)); exact HO_617001.out) hb)
        have n2_ := Aside0.mk (Kd.R_below (by (with_reducible repeat (first | apply Kd.R_alloc | apply Kd.R_drewN | apply Kd.R_drew)); exact HO_622001.out) hb)
        have n3_ := Aside0.mk (Kd.R_below (by (with_reducible repeat (first | apply Kd.R_alloc | apply Kd.R_drewN | apply Kd.R_drew)); exact HO_631001.out) hb)
        have n4_ := Aside0.mk (Kd.R_below (by (with_reducible repeat (first | apply Kd.R_alloc | apply Kd.R_drewN | apply Kd.R_drew)); exact HO635.out) hb)
        have n5_ := Aside0.mk (blk_below (g := gb601) (o := .cells #[.int .i64 a0_0, .slice A0_1 l0_1.length c0_1] 60 (0, 0)) (by (with_reducible repeat (first | refine blk_drewN ?_ _ | refine blk_drew ?_ | refine blk_alloc ?_ _)); exact BK601.out) hb)
        have n6_ := Aside0.mk (blk_below (g := gb616) (o := .cells #[.int .i64 t611, .slice Ao32 t612.length co32] 63 (0, 0)) (by (with_reducible repeat (first | refine blk_drewN ?_ _ | refine blk_drew ?_ | refine blk_alloc ?_ _)); exact BK616.out) hb)
        have n7_ := Aside0.mk (blk_below (g := gb621) (o := .cells #[.int .i64 t617, .slice Ao39 t618.length co39] 63 (0, 0)) (by (with_reducible repeat (first | refine blk_drewN ?_ _ | refine blk_drew ?_ | refine blk_alloc ?_ _)); exact BK621.out) hb)
        have n8_ := Aside0.mk (blk_below (g := gb630) (o := .cells #[.int .i64 t625, .slice Ao49 t626.length co49] 63 (0, 0)) (by (with_reducible repeat (first | refine blk_drewN ?_ _ | refine blk_drew ?_ | refine blk_alloc ?_ _)); exact BK630.out) hb)
        have n9_ := Aside0.mk (below_step (by repeat (first | (with_reducible first | exact HB.out | apply below_alloc | apply pw_below_drewN | apply below_drew1 | refine below_set ?_ GE601.out | refine below_set ?_ GE616.out | refine below_set ?_ GE621.out | refine below_set ?_ GE630.out) | exact HB.out)) hb)
        clear HO_9
        clear HO_617001
        clear HO_622001
        clear HO_631001
        clear HO635
        clear BK601
        clear BK616
        clear BK621
        clear BK630
        clear HB
        have HO_9 := n0_
        have HO_617001 := n1_
        have HO_622001 := n2_
        have HO_631001 := n3_
        have HO635 := n4_
        have BK601 := n5_
        have BK616 := n6_
        have BK621 := n7_
        have BK630 := n8_
        have HB := n9_
        clear n0_ n1_ n2_ n3_ n4_ n5_ n6_ n7_ n8_ n9_
        (try clear hb)
        (try clear hb2)
        (try clear hk)
        (try clear hi)
        refine hK.out _ _ ⟨(blk_cell BK621.out 0).trans rfl, (blk_cell BK621.out 1).trans rfl, (blk_cell BK601.out 0).trans rfl, (blk_cell BK601.out 1).trans rfl⟩ (fun hHeld => ?_)
        clear hK K
        refine norm_ (a' := ?_) ?_ ?_
        rotate_left
        ·show Act.put _ (some 57) _ = _
         simp only [Act.put, List.setIfInBounds_toArray, List.set_cons_zero, List.set_cons_succ, i64_w, i32_w]
         rfl
        refine pure_ (i := 4) (N := some 58) (v := ?_) (a' := ?_) #[true, true, true, true, true] rfl rfl (by kernel_rfl) (fun _ _ _ h => h) (Or.inl ⟨by rfl, ?_⟩) ?_ ?_
        rotate_left
        ·intro w'
         go_simp
         with_reducible rfl
        rotate_left
        ·simp only [Act.put, List.setIfInBounds_toArray, List.set_cons_zero, List.set_cons_succ, i64_w, i32_w]
         rfl
        refine done_ (by kernel_rfl) ?_
        go_upto_region 21 with (first | ((with_reducible refine gate_callee (f := 45) rfl ?_); refine goesL_ (some 61) rfl rfl Try.func45 (by kernel_rfl) rfl #[.slice A1 l1.length c1] rfl (by (try simp only [List.map_toArray, List.map_cons, List.map_nil]); first | done | rfl | (simp only [List.length_drop, List.length_take]; rfl)) ?_; (with_reducible refine (laws_toStringS.calls kj18 _ _ l1 t637 _ ?side1 ?side2 A72.out).mono ?_); (case side1 => repeat (first | exact (Kd.C_below HR1.out HB.out) | (with_reducible refine Kd.C_alloc ?_ _) | (with_reducible refine Kd.C_drewN ?_ _) | (with_reducible refine Kd.C_drew ?_))); (case side2 => exact HC1.out); rintro e w82 ⟨v638, rfl, ho0, hb⟩; refine ⟨_, rfl, ?_⟩; have n0_ := Aside0.mk (Kd.R_elder' (by (with_reducible repeat (first | apply Kd.R_alloc | apply Kd.R_drewN | apply Kd.R_drew)); exact HO_9.out) (Kd.R_base ho0) hb); have n1_ := Aside0.mk (Kd.R_elder' (by (with_reducible repeat (first | apply Kd.R_alloc | apply Kd.R_drewN | apply Kd.R_drew)); exact HO_617001.out) (Kd.R_base ho0) hb); have n2_ := Aside0.mk (Kd.R_elder' (by (with_reducible repeat (first | apply Kd.R_alloc | apply Kd.R_drewN | apply Kd.R_drew)); exact HO_622001.out) (Kd.R_base ho0) hb); have n3_ := Aside0.mk (Kd.R_elder' (by (with_reducible repeat (first | apply Kd.R_alloc | apply Kd.R_drewN | apply Kd.R_drew)); exact HO_631001.out) (Kd.R_base ho0) hb); have n4_ := Aside0.mk (Kd.R_elder' (by (with_reducible repeat (first | apply Kd.R_alloc | apply Kd.R_drewN | apply Kd.R_drew)); exact HO635.out) (Kd.R_base ho0) hb); have n5_ := Aside0.mk (Kd.R_lower (Kd.R_new' (Kd.R_new' (Kd.R_new' (Kd.R_new' (Kd.R_new' ho0 (Kd.R_lt (by (with_reducible repeat (first | apply Kd.R_alloc | apply Kd.R_drewN | apply Kd.R_drew)); exact HO_9.out))) (Kd.R_lt (by (with_reducible repeat (first | apply Kd.R_alloc | apply Kd.R_drewN | apply Kd.R_drew)); exact HO_617001.out))) (Kd.R_lt (by (with_reducible repeat (first | apply Kd.R_alloc | apply Kd.R_drewN | apply Kd.R_drew)); exact HO_622001.out))) (Kd.R_lt (by (with_reducible repeat (first | apply Kd.R_alloc | apply Kd.R_drewN | apply Kd.R_drew)); exact HO_631001.out))) (Kd.R_lt (by (with_reducible repeat (first | apply Kd.R_alloc | apply Kd.R_drewN | apply Kd.R_drew)); exact HO635.out))) (below_size (by repeat (first | (with_reducible first | exact HB.out | apply below_alloc | apply pw_below_drewN | apply below_drew1 | refine below_set ?_ GE601.out | refine below_set ?_ GE616.out | refine below_set ?_ GE621.out | refine below_set ?_ GE630.out) | exact HB.out)))); have n6_ := Aside0.mk (blk_below (g := gb601) (o := .cells #[.int .i64 a0_0, .slice A0_1 l0_1.length c0_1] 60 (0, 0)) (by (with_reducible repeat (first | refine blk_drewN ?_ _ | refine blk_drew ?_ | refine blk_alloc ?_ _)); exact BK601.out) hb); have n7_ := Aside0.mk (blk_below (g := gb616) (o := .cells #[.int .i64 t611, .slice Ao32 t612.length co32] 63 (0, 0)) (by (with_reducible repeat (first | refine blk_drewN ?_ _ | refine blk_drew ?_ | refine blk_alloc ?_ _)); exact BK616.out) hb); have n8_ := Aside0.mk (blk_below (g := gb621) (o := .cells #[.int .i64 t617, .slice Ao39 t618.length co39] 63 (0, 0)) (by (with_reducible repeat (first | refine blk_drewN ?_ _ | refine blk_drew ?_ | refine blk_alloc ?_ _)); exact BK621.out) hb); have n9_ := Aside0.mk (blk_below (g := gb630) (o := .cells #[.int .i64 t625, .slice Ao49 t626.length co49] 63 (0, 0)) (by (with_reducible repeat (first | refine blk_drewN ?_ _ | refine blk_drew ?_ | refine blk_alloc ?_ _)); exact BK630.out) hb); have n10_ := Aside0.mk (below_step (by repeat (first | (with_reducible first | exact HB.out | apply below_alloc | apply pw_below_drewN | apply below_drew1 | refine below_set ?_ GE601.out | refine below_set ?_ GE616.out | refine below_set ?_ GE621.out | refine below_set ?_ GE630.out) | exact HB.out)) hb); clear HO_9; clear HO_617001; clear HO_622001; clear HO_631001; clear HO635; clear BK601; clear BK616; clear BK621; clear BK630; clear HB; have HO_9 := n0_; have HO_617001 := n1_; have HO_622001 := n2_; have HO_631001 := n3_; have HO635 := n4_; have HO639 := n5_; have BK601 := n6_; have BK616 := n7_; have BK621 := n8_; have BK630 := n9_; have HB := n10_; clear n0_ n1_ n2_ n3_ n4_ n5_ n6_ n7_ n8_ n9_ n10_; (try clear hb); (try clear hb2); (try clear hk); (try clear hi); (try clear ho0); obtain ⟨Ao83, co83, eo83⟩ := Kd.R_slice HO639.out; subst eo83) | ((with_reducible refine gate_callee (f := 48) rfl ?_); refine goesL_ (some 62) rfl rfl Try.func48 (by kernel_rfl) rfl #[.slice Ao42 t622.length co42, .slice Ao83 t637.length co83] rfl (by (try simp only [List.map_toArray, List.map_cons, List.map_nil]); first | done | rfl | (simp only [List.length_drop, List.length_take]; rfl)) ?_; (with_reducible refine (laws_eqStringS.calls kj18 _ _ t622 _ _ t637 true _ ?side1 ?side2 ?side3 ?side4 A73.out).mono ?_); (case side1 => repeat (first | exact (Kd.R_reads' HO_9.out).2.2 | (with_reducible refine Kd.C_alloc ?_ _) | (with_reducible refine Kd.C_drewN ?_ _) | (with_reducible refine Kd.C_drew ?_))); (case side2 => exact (Kd.R_reads' HO_9.out).2.1); (case side3 => repeat (first | exact (Kd.R_reads' HO639.out).2.2 | (with_reducible refine Kd.C_alloc ?_ _) | (with_reducible refine Kd.C_drewN ?_ _) | (with_reducible refine Kd.C_drew ?_))); (case side4 => exact (Kd.R_reads' HO639.out).2.1); rintro e w' ⟨rfl, ⟨nd, rfl⟩⟩; refine ⟨_, rfl, ?_⟩; have hnb84 := NB621_601.out; have hnc84 := NB601_621.out; have hnb85 := NB621_616.out; have hnc85 := NB616_621.out; have hnb86 := NB621_630.out; have hnc86 := NB630_621.out; have hcz87_0 : w82.cell? ⟨gb621, 0, none⟩ = some (.int .i64 t617) := (blk_cell BK621.out 0).trans rfl; have hcz87_1 : w82.cell? ⟨gb621, 1, none⟩ = some (.slice Ao39 t618.length co39) := (blk_cell BK621.out 1).trans rfl; have hfz87_0 := blk_frozen BK621.out 0; have hfz87_1 := blk_frozen BK621.out 1) | ((with_reducible refine gate_callee (f := 49) rfl ?_); refine goesL_ (some 66) rfl rfl Try.func49 (by kernel_rfl) rfl #[.agg #[.int .i64 t617, .slice Ao39 t618.length co39], .int .i64 1] rfl (by (try simp only [List.map_toArray, List.map_cons, List.map_nil]); first | done | rfl | (simp only [List.length_drop, List.length_take]; rfl)) ?_; (with_reducible refine (laws_markEdge.calls kj18 t617 (fun k_ => some k_ = (.slice Ao39 t618.length co39 : Value).ownBlock) (.slice Ao39 t618.length co39) t618 1 t641 t642 w _ ?side1 ?side2 A75.out).mono ?_); (case side1 => repeat (first | (with_reducible first | exact HB.out | apply below_alloc | apply pw_below_drewN | apply below_drew1 | refine below_set ?_ GE601.out | refine below_set ?_ GE616.out | refine below_set ?_ GE621.out | refine below_set ?_ GE630.out) | exact HB.out)); (case side2 => exact Kd.R_tight rfl HO_622001.out); rintro e w88 ⟨rfl, hy0, hb, hkp⟩; refine ⟨_, rfl, ?_⟩; have n0_ := Aside0.mk (Kd.R_mono (ok' := fun k_ => some k_ ≠ (.slice Ao32 t612.length co32 : Value).ownBlock ∧ some k_ ≠ (.slice Ao39 t618.length co39 : Value).ownBlock ∧ some k_ ≠ (.slice Ao49 t626.length co49 : Value).ownBlock ∧ some k_ ≠ (.slice Ao80 t633.length co80 : Value).ownBlock ∧ some k_ ≠ (.slice Ao83 t637.length co83 : Value).ownBlock) (Kd.R_keptB (HO_9.out) hkp (fun k_ hk_ hs_ => (hk_.1.1.2.1) hs_)) (fun k_ hk_ => ⟨hk_.1.1.1.1, hk_.1.1.1.2.1, hk_.1.1.1.2.2, hk_.1.1.2, hk_.1.2⟩)); have n1_ := Aside0.mk (Kd.R_mono (ok' := fun k_ => some k_ ≠ (.slice Ao42 t622.length co42 : Value).ownBlock ∧ some k_ ≠ (.slice Ao39 t618.length co39 : Value).ownBlock ∧ some k_ ≠ (.slice Ao49 t626.length co49 : Value).ownBlock ∧ some k_ ≠ (.slice Ao80 t633.length co80 : Value).ownBlock ∧ some k_ ≠ (.slice Ao83 t637.length co83 : Value).ownBlock) (Kd.R_keptB (HO_617001.out) hkp (fun k_ hk_ hs_ => (hk_.1.1.2.1) hs_)) (fun k_ hk_ => ⟨hk_.1.1.1.1, hk_.1.1.1.2.1, hk_.1.1.1.2.2, hk_.1.1.2, hk_.1.2⟩)); have n2_ := Aside0.mk (Kd.R_reok rfl hy0 (fun k_ e_ => HO_622001.out.1 k_ e_)); have n3_ := Aside0.mk (Kd.R_mono (ok' := fun k_ => some k_ ≠ (.slice Ao42 t622.length co42 : Value).ownBlock ∧ some k_ ≠ (.slice Ao32 t612.length co32 : Value).ownBlock ∧ some k_ ≠ (.slice Ao39 t618.length co39 : Value).ownBlock ∧ some k_ ≠ (.slice Ao80 t633.length co80 : Value).ownBlock ∧ some k_ ≠ (.slice Ao83 t637.length co83 : Value).ownBlock) (Kd.R_keptB (HO_631001.out) hkp (fun k_ hk_ hs_ => (hk_.1.1.2.2) hs_)) (fun k_ hk_ => ⟨hk_.1.1.1.1, hk_.1.1.1.2.1, hk_.1.1.1.2.2, hk_.1.1.2, hk_.1.2⟩)); have n4_ := Aside0.mk (blk_kept (g := gb601) (by first | exact BK601.out | exact blk_drewN BK601.out _ | exact blk_drew BK601.out) hkp (Kd.R_ne HO_622001.out BK601.out (by decide))); have n5_ := Aside0.mk (blk_kept (g := gb616) (by first | exact BK616.out | exact blk_drewN BK616.out _ | exact blk_drew BK616.out) hkp (Kd.R_ne HO_622001.out BK616.out (by decide))); have n6_ := Aside0.mk (blk_kept (g := gb621) (by first | exact BK621.out | exact blk_drewN BK621.out _ | exact blk_drew BK621.out) hkp (Kd.R_ne HO_622001.out BK621.out (by decide))); have n7_ := Aside0.mk (blk_kept (g := gb630) (by first | exact BK630.out | exact blk_drewN BK630.out _ | exact blk_drew BK630.out) hkp (Kd.R_ne HO_622001.out BK630.out (by decide))); have n8_ := Aside0.mk (Kd.R_mono (ok' := fun k_ => some k_ ≠ (.slice Ao42 t622.length co42 : Value).ownBlock ∧ some k_ ≠ (.slice Ao32 t612.length co32 : Value).ownBlock ∧ some k_ ≠ (.slice Ao39 t618.length co39 : Value).ownBlock ∧ some k_ ≠ (.slice Ao49 t626.length co49 : Value).ownBlock ∧ some k_ ≠ (.slice Ao83 t637.length co83 : Value).ownBlock) (Kd.R_keptB (HO635.out) hkp (fun k_ hk_ hs_ => (hk_.1.1.2) hs_)) (fun k_ hk_ => ⟨hk_.1.1.1.1.1.2, hk_.1.1.1.1.2, hk_.1.1.1.2, hk_.1.1.2, hk_.1.2⟩)); have n9_ := Aside0.mk (Kd.R_mono (ok' := fun k_ => some k_ ≠ (.slice Ao42 t622.length co42 : Value).ownBlock ∧ some k_ ≠ (.slice Ao32 t612.length co32 : Value).ownBlock ∧ some k_ ≠ (.slice Ao39 t618.length co39 : Value).ownBlock ∧ some k_ ≠ (.slice Ao49 t626.length co49 : Value).ownBlock ∧ some k_ ≠ (.slice Ao80 t633.length co80 : Value).ownBlock) (Kd.R_keptB (HO639.out) hkp (fun k_ hk_ hs_ => (hk_.1.1.2) hs_)) (fun k_ hk_ => ⟨hk_.1.1.1.1.1.2, hk_.1.1.1.1.2, hk_.1.1.1.2, hk_.1.1.2, hk_.1.2⟩)); have n10_ := Aside0.mk (hb); clear HO_9; clear HO_617001; clear HO_622001; clear HO_631001; clear BK601; clear BK616; clear BK621; clear BK630; clear HO635; clear HO639; clear HB; have HO_9 := n0_; have HO_617001 := n1_; have HO_622001 := n2_; have HO_631001 := n3_; have BK601 := n4_; have BK616 := n5_; have BK621 := n6_; have BK630 := n7_; have HO635 := n8_; have HO639 := n9_; have HB := n10_; clear n0_ n1_ n2_ n3_ n4_ n5_ n6_ n7_ n8_ n9_ n10_; (try clear hb); (try clear hkp); (try clear hy0)) | ((with_reducible refine gate_callee (f := 50) rfl ?_); refine goesL_ (some 69) rfl rfl Try.func50 (by kernel_rfl) rfl #[.slice Ao42 t622.length co42, .int .i64 t641] rfl (by (try simp only [List.map_toArray, List.map_cons, List.map_nil]); first | done | rfl | (simp only [List.length_drop, List.length_take]; rfl)) ?_; (with_reducible refine (laws_markStringS.calls kj18 (fun k_ => some k_ = (.slice Ao42 t622.length co42 : Value).ownBlock) (.slice Ao42 t622.length co42) t622 t641 t643 t644 w _ ?side1 ?side2 A76.out).mono ?_); (case side1 => repeat (first | (with_reducible first | exact HB.out | apply below_alloc | apply pw_below_drewN | apply below_drew1 | refine below_set ?_ GE601.out | refine below_set ?_ GE616.out | refine below_set ?_ GE621.out | refine below_set ?_ GE630.out) | exact HB.out)); (case side2 => exact Kd.R_tight rfl HO_9.out); rintro e w89 ⟨rfl, hy0, hb, hkp⟩; refine ⟨_, rfl, ?_⟩; have n0_ := Aside0.mk (Kd.R_reok rfl hy0 (fun k_ e_ => HO_9.out.1 k_ e_)); have n1_ := Aside0.mk (Kd.R_mono (ok' := fun k_ => some k_ ≠ (.slice Ao42 t622.length co42 : Value).ownBlock ∧ some k_ ≠ (.slice Ao39 t618.length co39 : Value).ownBlock ∧ some k_ ≠ (.slice Ao49 t626.length co49 : Value).ownBlock ∧ some k_ ≠ (.slice Ao80 t633.length co80 : Value).ownBlock ∧ some k_ ≠ (.slice Ao83 t637.length co83 : Value).ownBlock) (Kd.R_keptB (HO_617001.out) hkp (fun k_ hk_ hs_ => (hk_.1) hs_)) (fun k_ hk_ => ⟨hk_.1.1, hk_.1.2.1, hk_.1.2.2.1, hk_.1.2.2.2.1, hk_.1.2.2.2.2⟩)); have n2_ := Aside0.mk (Kd.R_mono (ok' := fun k_ => some k_ ≠ (.slice Ao42 t622.length co42 : Value).ownBlock ∧ some k_ ≠ (.slice Ao32 t612.length co32 : Value).ownBlock ∧ some k_ ≠ (.slice Ao49 t626.length co49 : Value).ownBlock ∧ some k_ ≠ (.slice Ao80 t633.length co80 : Value).ownBlock ∧ some k_ ≠ (.slice Ao83 t637.length co83 : Value).ownBlock) (Kd.R_keptB (HO_622001.out) hkp (fun k_ hk_ hs_ => (hk_.1.1.1) hs_)) (fun k_ hk_ => ⟨hk_.1.1.1.1, hk_.1.1.1.2.1, hk_.1.1.1.2.2, hk_.1.1.2, hk_.1.2⟩)); have n3_ := Aside0.mk (Kd.R_mono (ok' := fun k_ => some k_ ≠ (.slice Ao42 t622.length co42 : Value).ownBlock ∧ some k_ ≠ (.slice Ao32 t612.length co32 : Value).ownBlock ∧ some k_ ≠ (.slice Ao39 t618.length co39 : Value).ownBlock ∧ some k_ ≠ (.slice Ao80 t633.length co80 : Value).ownBlock ∧ some k_ ≠ (.slice Ao83 t637.length co83 : Value).ownBlock) (Kd.R_keptB (HO_631001.out) hkp (fun k_ hk_ hs_ => (hk_.1) hs_)) (fun k_ hk_ => ⟨hk_.1.1, hk_.1.2.1, hk_.1.2.2.1, hk_.1.2.2.2.1, hk_.1.2.2.2.2⟩)); have n4_ := Aside0.mk (blk_kept (g := gb601) (by first | exact BK601.out | exact blk_drewN BK601.out _ | exact blk_drew BK601.out) hkp (Kd.R_ne HO_9.out BK601.out (by decide))); have n5_ := Aside0.mk (blk_kept (g := gb616) (by first | exact BK616.out | exact blk_drewN BK616.out _ | exact blk_drew BK616.out) hkp (Kd.R_ne HO_9.out BK616.out (by decide))); have n6_ := Aside0.mk (blk_kept (g := gb621) (by first | exact BK621.out | exact blk_drewN BK621.out _ | exact blk_drew BK621.out) hkp (Kd.R_ne HO_9.out BK621.out (by decide))); have n7_ := Aside0.mk (blk_kept (g := gb630) (by first | exact BK630.out | exact blk_drewN BK630.out _ | exact blk_drew BK630.out) hkp (Kd.R_ne HO_9.out BK630.out (by decide))); have n8_ := Aside0.mk (Kd.R_mono (ok' := fun k_ => some k_ ≠ (.slice Ao42 t622.length co42 : Value).ownBlock ∧ some k_ ≠ (.slice Ao32 t612.length co32 : Value).ownBlock ∧ some k_ ≠ (.slice Ao39 t618.length co39 : Value).ownBlock ∧ some k_ ≠ (.slice Ao49 t626.length co49 : Value).ownBlock ∧ some k_ ≠ (.slice Ao83 t637.length co83 : Value).ownBlock) (Kd.R_keptB (HO635.out) hkp (fun k_ hk_ hs_ => (hk_.1) hs_)) (fun k_ hk_ => ⟨hk_.1.1, hk_.1.2.1, hk_.1.2.2.1, hk_.1.2.2.2.1, hk_.1.2.2.2.2⟩)); have n9_ := Aside0.mk (Kd.R_mono (ok' := fun k_ => some k_ ≠ (.slice Ao42 t622.length co42 : Value).ownBlock ∧ some k_ ≠ (.slice Ao32 t612.length co32 : Value).ownBlock ∧ some k_ ≠ (.slice Ao39 t618.length co39 : Value).ownBlock ∧ some k_ ≠ (.slice Ao49 t626.length co49 : Value).ownBlock ∧ some k_ ≠ (.slice Ao80 t633.length co80 : Value).ownBlock) (Kd.R_keptB (HO639.out) hkp (fun k_ hk_ hs_ => (hk_.1) hs_)) (fun k_ hk_ => ⟨hk_.1.1, hk_.1.2.1, hk_.1.2.2.1, hk_.1.2.2.2.1, hk_.1.2.2.2.2⟩)); have n10_ := Aside0.mk (hb); clear HO_9; clear HO_617001; clear HO_622001; clear HO_631001; clear BK601; clear BK616; clear BK621; clear BK630; clear HO635; clear HO639; clear HB; have HO_9 := n0_; have HO_617001 := n1_; have HO_622001 := n2_; have HO_631001 := n3_; have BK601 := n4_; have BK616 := n5_; have BK621 := n6_; have BK630 := n7_; have HO635 := n8_; have HO639 := n9_; have HB := n10_; clear n0_ n1_ n2_ n3_ n4_ n5_ n6_ n7_ n8_ n9_ n10_; (try clear hb); (try clear hkp); (try clear hy0)))
        (try simp only [Act.put, List.setIfInBounds_toArray, List.set_cons_zero, List.set_cons_succ])
        go_cut [82] (fun v82 wc => ∃ (kq : Nat) (x82_76 : Bool), v82 = .bool x82_76 ∧ Aside0 (laws_FnExactEdgeAll.j1 kq l1 t615 x82_76 a0_0 l0_1 t611 t612 t625 t626 = some r) ∧ Aside0 (kq ≤ kj18) ∧ Aside0 (Kd.R Kd.string 9 wc w.heap.size (fun k_ => some k_ ≠ ((.slice Ao39 t618.length co39) : Value).ownBlock ∧ some k_ ≠ ((.slice Ao49 t626.length co49) : Value).ownBlock) (.slice Ao32 t612.length co32) t612) ∧ Aside0 (Kd.R Kd.string 9 wc w.heap.size (fun k_ => some k_ ≠ ((.slice Ao32 t612.length co32) : Value).ownBlock ∧ some k_ ≠ ((.slice Ao49 t626.length co49) : Value).ownBlock) (.slice Ao39 t618.length co39) t642) ∧ Aside0 (Kd.R Kd.string 9 wc w.heap.size (fun k_ => some k_ ≠ ((.slice Ao32 t612.length co32) : Value).ownBlock ∧ some k_ ≠ ((.slice Ao39 t618.length co39) : Value).ownBlock) (.slice Ao49 t626.length co49) t626) ∧ Aside0 (wc.heap[gb601]? = some (.cells #[.int .i64 a0_0, (.slice A0_1 l0_1.length c0_1)] 60 (0, 0))) ∧ Aside0 (wc.heap[gb616]? = some (.cells #[.int .i64 t611, (.slice Ao32 t612.length co32)] 63 (0, 0))) ∧ Aside0 (wc.heap[gb621]? = some (.cells #[.int .i64 t617, (.slice Ao39 t618.length co39)] 63 (0, 0))) ∧ Aside0 (wc.heap[gb630]? = some (.cells #[.int .i64 t625, (.slice Ao49 t626.length co49)] 63 (0, 0))) ∧ Aside0 (Below w.heap.size w wc))
        case first =>
         have H := HC77.out
         clear HC77
         by_cases c90 : t643 < 0
         ·rw [if_pos c90] at H
          have c90b0 : decide (t643 < 0) = true := decide_eq_true c90
          clear c90
          (first | rw [c90b0] | (simp only [i64_w, i32_w]; rw [c90b0]) | skip)
          have H' := Aside0.mk H
          clear H
          go_wp2
          go_meet
          case rel => exact ⟨_, (true), (by first | rfl | (simp; done) | (simp [*]; done)), H', ⟨by have := HJ18.out; first | omega | exact Nat.le_refl _⟩, ⟨by (with_reducible repeat (first | apply Kd.R_alloc | apply Kd.R_drewN | apply Kd.R_drew)); exact Kd.R_mono HO_617001.out (fun _ hk => ⟨hk.2.1, hk.2.2.1⟩)⟩, ⟨by (with_reducible repeat (first | apply Kd.R_alloc | apply Kd.R_drewN | apply Kd.R_drew)); exact Kd.R_mono HO_622001.out (fun _ hk => ⟨hk.2.1, hk.2.2.1⟩)⟩, ⟨by (with_reducible repeat (first | apply Kd.R_alloc | apply Kd.R_drewN | apply Kd.R_drew)); exact Kd.R_mono HO_631001.out (fun _ hk => ⟨hk.2.1, hk.2.2.1⟩)⟩, ⟨by (with_reducible repeat (first | refine blk_drewN ?_ _ | refine blk_drew ?_ | refine blk_alloc ?_ _)); exact BK601.out⟩, ⟨by (with_reducible repeat (first | refine blk_drewN ?_ _ | refine blk_drew ?_ | refine blk_alloc ?_ _)); exact BK616.out⟩, ⟨by (with_reducible repeat (first | refine blk_drewN ?_ _ | refine blk_drew ?_ | refine blk_alloc ?_ _)); exact BK621.out⟩, ⟨by (with_reducible repeat (first | refine blk_drewN ?_ _ | refine blk_drew ?_ | refine blk_alloc ?_ _)); exact BK630.out⟩, ⟨by repeat (first | (with_reducible first | exact HB.out | apply below_alloc | apply pw_below_drewN | apply below_drew1 | refine below_set ?_ GE601.out | refine below_set ?_ GE616.out | refine below_set ?_ GE621.out | refine below_set ?_ GE630.out) | exact HB.out)⟩⟩
         ·rw [if_neg c90] at H
          have c90b0 : decide (t643 < 0) = false := decide_eq_false c90
          clear c90
          (first | rw [c90b0] | (simp only [i64_w, i32_w]; rw [c90b0]) | skip)
          replace H := Option.bind_eq_some_iff.mp H
          obtain ⟨t645, A910, H⟩ := H
          replace H : (if t645 = true then (laws_FnExactEdgeAll.j1 kj18 l1 t615 (t629 != t615) a0_0 l0_1 t611 t612 t625 t626) else (laws_FnExactEdgeAll.j1 kj18 l1 t615 true a0_0 l0_1 t611 t612 t625 t626)) = some r := H
          have A91 := Aside0.mk A910
          clear A910
          by_cases c92 : t645 = true
          ·subst c92
           have H1 : (laws_FnExactEdgeAll.j1 kj18 l1 t615 (t629 != t615) a0_0 l0_1 t611 t612 t625 t626) = some r := by rw [if_pos rfl] at H; exact H
           clear H
           have H := H1
           clear H1
           have H' := Aside0.mk H
           clear H
           have hnb93 := NB630_601.out
           have hnc93 := NB601_630.out
           have hnb94 := NB630_616.out
           have hnc94 := NB616_630.out
           have hnb95 := NB630_621.out
           have hnc95 := NB621_630.out
           have hcz96_0 : w89.cell? ⟨gb630, 0, none⟩ = some (.int .i64 t625) := (blk_cell BK630.out 0).trans rfl
           have hcz96_1 : w89.cell? ⟨gb630, 1, none⟩ = some (.slice Ao49 t626.length co49) := (blk_cell BK630.out 1).trans rfl
           have hfz96_0 := blk_frozen BK630.out 0
           have hfz96_1 := blk_frozen BK630.out 1
           have hnb97 := NB616_601.out
           have hnc97 := NB601_616.out
           have hnb98 := NB616_621.out
           have hnc98 := NB621_616.out
           have hcz99_0 : w89.cell? ⟨gb616, 0, none⟩ = some (.int .i64 t611) := (blk_cell BK616.out 0).trans rfl
           have hcz99_1 : w89.cell? ⟨gb616, 1, none⟩ = some (.slice Ao32 t612.length co32) := (blk_cell BK616.out 1).trans rfl
           have hfz99_0 := blk_frozen BK616.out 0
           have hfz99_1 := blk_frozen BK616.out 1
           go_wp2_with (first | (go_at_call 47; (with_reducible refine (laws_eqEdge.calls kj18 t625 _ _ t626 t611 _ _ t612 true _ ?side1 ?side2 ?side3 ?side4 A91.out).mono ?_); (case side1 => repeat (first | exact (Kd.R_reads' HO_631001.out).2.2 | (with_reducible refine Kd.C_alloc ?_ _) | (with_reducible refine Kd.C_drewN ?_ _) | (with_reducible refine Kd.C_drew ?_))); (case side2 => exact (Kd.R_reads' HO_631001.out).2.1); (case side3 => repeat (first | exact (Kd.R_reads' HO_617001.out).2.2 | (with_reducible refine Kd.C_alloc ?_ _) | (with_reducible refine Kd.C_drewN ?_ _) | (with_reducible refine Kd.C_drew ?_))); (case side4 => exact (Kd.R_reads' HO_617001.out).2.1); rintro e w100 ⟨rfl, hb⟩; have n0_ := Aside0.mk (Kd.R_below (by (with_reducible repeat (first | apply Kd.R_alloc | apply Kd.R_drewN | apply Kd.R_drew)); exact HO_9.out) hb); have n1_ := Aside0.mk (Kd.R_below (by (with_reducible repeat (first | apply Kd.R_alloc | apply Kd.R_drewN | apply Kd.R_drew)); exact HO_617001.out) hb); have n2_ := Aside0.mk (Kd.R_below (by (with_reducible repeat (first | apply Kd.R_alloc | apply Kd.R_drewN | apply Kd.R_drew)); exact HO_622001.out) hb); have n3_ := Aside0.mk (Kd.R_below (by (with_reducible repeat (first | apply Kd.R_alloc | apply Kd.R_drewN | apply Kd.R_drew)); exact HO_631001.out) hb); have n4_ := Aside0.mk (Kd.R_below (by (with_reducible repeat (first | apply Kd.R_alloc | apply Kd.R_drewN | apply Kd.R_drew)); exact HO635.out) hb); have n5_ := Aside0.mk (Kd.R_below (by (with_reducible repeat (first | apply Kd.R_alloc | apply Kd.R_drewN | apply Kd.R_drew)); exact HO639.out) hb); have n6_ := Aside0.mk (blk_below (g := gb601) (o := .cells #[.int .i64 a0_0, .slice A0_1 l0_1.length c0_1] 60 (0, 0)) (by (with_reducible repeat (first | refine blk_drewN ?_ _ | refine blk_drew ?_ | refine blk_alloc ?_ _)); exact BK601.out) hb); have n7_ := Aside0.mk (blk_below (g := gb616) (o := .cells #[.int .i64 t611, .slice Ao32 t612.length co32] 63 (0, 0)) (by (with_reducible repeat (first | refine blk_drewN ?_ _ | refine blk_drew ?_ | refine blk_alloc ?_ _)); exact BK616.out) hb); have n8_ := Aside0.mk (blk_below (g := gb621) (o := .cells #[.int .i64 t617, .slice Ao39 t618.length co39] 63 (0, 0)) (by (with_reducible repeat (first | refine blk_drewN ?_ _ | refine blk_drew ?_ | refine blk_alloc ?_ _)); exact BK621.out) hb); have n9_ := Aside0.mk (blk_below (g := gb630) (o := .cells #[.int .i64 t625, .slice Ao49 t626.length co49] 63 (0, 0)) (by (with_reducible repeat (first | refine blk_drewN ?_ _ | refine blk_drew ?_ | refine blk_alloc ?_ _)); exact BK630.out) hb); have n10_ := Aside0.mk (below_step (by repeat (first | (with_reducible first | exact HB.out | apply below_alloc | apply pw_below_drewN | apply below_drew1 | refine below_set ?_ GE601.out | refine below_set ?_ GE616.out | refine below_set ?_ GE621.out | refine below_set ?_ GE630.out) | exact HB.out)) hb); clear HO_9; clear HO_617001; clear HO_622001; clear HO_631001; clear HO635; clear HO639; clear BK601; clear BK616; clear BK621; clear BK630; clear HB; have HO_9 := n0_; have HO_617001 := n1_; have HO_622001 := n2_; have HO_631001 := n3_; have HO635 := n4_; have HO639 := n5_; have BK601 := n6_; have BK616 := n7_; have BK621 := n8_; have BK630 := n9_; have HB := n10_; clear n0_ n1_ n2_ n3_ n4_ n5_ n6_ n7_ n8_ n9_ n10_; (try clear hb); (try clear hb2); (try clear hk); (try clear hi)))
           go_meet
           case rel => exact ⟨_, ((t629 != t615)), (by first | rfl | (simp; done) | (simp [*]; done)), H', ⟨by have := HJ18.out; first | omega | exact Nat.le_refl _⟩, ⟨by (with_reducible repeat (first | apply Kd.R_alloc | apply Kd.R_drewN | apply Kd.R_drew)); exact Kd.R_mono HO_617001.out (fun _ hk => ⟨hk.2.1, hk.2.2.1⟩)⟩, ⟨by (with_reducible repeat (first | apply Kd.R_alloc | apply Kd.R_drewN | apply Kd.R_drew)); exact Kd.R_mono HO_622001.out (fun _ hk => ⟨hk.2.1, hk.2.2.1⟩)⟩, ⟨by (with_reducible repeat (first | apply Kd.R_alloc | apply Kd.R_drewN | apply Kd.R_drew)); exact Kd.R_mono HO_631001.out (fun _ hk => ⟨hk.2.1, hk.2.2.1⟩)⟩, ⟨by (with_reducible repeat (first | refine blk_drewN ?_ _ | refine blk_drew ?_ | refine blk_alloc ?_ _)); exact BK601.out⟩, ⟨by (with_reducible repeat (first | refine blk_drewN ?_ _ | refine blk_drew ?_ | refine blk_alloc ?_ _)); exact BK616.out⟩, ⟨by (with_reducible repeat (first | refine blk_drewN ?_ _ | refine blk_drew ?_ | refine blk_alloc ?_ _)); exact BK621.out⟩, ⟨by (with_reducible repeat (first | refine blk_drewN ?_ _ | refine blk_drew ?_ | refine blk_alloc ?_ _)); exact BK630.out⟩, ⟨by repeat (first | (with_reducible first | exact HB.out | apply below_alloc | apply pw_below_drewN | apply below_drew1 | refine below_set ?_ GE601.out | refine below_set ?_ GE616.out | refine below_set ?_ GE621.out | refine below_set ?_ GE630.out) | exact HB.out)⟩⟩
          ·replace c92 := Bool.eq_false_iff.mpr c92
           subst c92
           have H1 : (laws_FnExactEdgeAll.j1 kj18 l1 t615 true a0_0 l0_1 t611 t612 t625 t626) = some r := by rw [if_neg (show ¬ (false = true) by decide)] at H; exact H
           clear H
           have H := H1
           clear H1
           have H' := Aside0.mk H
           clear H
           have hnb101 := NB630_601.out
           have hnc101 := NB601_630.out
           have hnb102 := NB630_616.out
           have hnc102 := NB616_630.out
           have hnb103 := NB630_621.out
           have hnc103 := NB621_630.out
           have hcz104_0 : w89.cell? ⟨gb630, 0, none⟩ = some (.int .i64 t625) := (blk_cell BK630.out 0).trans rfl
           have hcz104_1 : w89.cell? ⟨gb630, 1, none⟩ = some (.slice Ao49 t626.length co49) := (blk_cell BK630.out 1).trans rfl
           have hfz104_0 := blk_frozen BK630.out 0
           have hfz104_1 := blk_frozen BK630.out 1
           have hnb105 := NB616_601.out
           have hnc105 := NB601_616.out
           have hnb106 := NB616_621.out
           have hnc106 := NB621_616.out
           have hcz107_0 : w89.cell? ⟨gb616, 0, none⟩ = some (.int .i64 t611) := (blk_cell BK616.out 0).trans rfl
           have hcz107_1 : w89.cell? ⟨gb616, 1, none⟩ = some (.slice Ao32 t612.length co32) := (blk_cell BK616.out 1).trans rfl
           have hfz107_0 := blk_frozen BK616.out 0
           have hfz107_1 := blk_frozen BK616.out 1
           go_wp2_with (first | (go_at_call 47; (with_reducible refine (laws_eqEdge.calls kj18 t625 _ _ t626 t611 _ _ t612 false _ ?side1 ?side2 ?side3 ?side4 A91.out).mono ?_); (case side1 => repeat (first | exact (Kd.R_reads' HO_631001.out).2.2 | (with_reducible refine Kd.C_alloc ?_ _) | (with_reducible refine Kd.C_drewN ?_ _) | (with_reducible refine Kd.C_drew ?_))); (case side2 => exact (Kd.R_reads' HO_631001.out).2.1); (case side3 => repeat (first | exact (Kd.R_reads' HO_617001.out).2.2 | (with_reducible refine Kd.C_alloc ?_ _) | (with_reducible refine Kd.C_drewN ?_ _) | (with_reducible refine Kd.C_drew ?_))); (case side4 => exact (Kd.R_reads' HO_617001.out).2.1); rintro e w108 ⟨rfl, hb⟩; have n0_ := Aside0.mk (Kd.R_below (by (with_reducible repeat (first | apply Kd.R_alloc | apply Kd.R_drewN | apply Kd.R_drew)); exact HO_9.out) hb); have n1_ := Aside0.mk (Kd.R_below (by (with_reducible repeat (first | apply Kd.R_alloc | apply Kd.R_drewN | apply Kd.R_drew)); exact HO_617001.out) hb); have n2_ := Aside0.mk (Kd.R_below (by (with_reducible repeat (first | apply Kd.R_alloc | apply Kd.R_drewN | apply Kd.R_drew)); exact HO_622001.out) hb); have n3_ := Aside0.mk (Kd.R_below (by (with_reducible repeat (first | apply Kd.R_alloc | apply Kd.R_drewN | apply Kd.R_drew)); exact HO_631001.out) hb); have n4_ := Aside0.mk (Kd.R_below (by (with_reducible repeat (first | apply Kd.R_alloc | apply Kd.R_drewN | apply Kd.R_drew)); exact HO635.out) hb); have n5_ := Aside0.mk (Kd.R_below (by (with_reducible repeat (first | apply Kd.R_alloc | apply Kd.R_drewN | apply Kd.R_drew)); exact HO639.out) hb); have n6_ := Aside0.mk (blk_below (g := gb601) (o := .cells #[.int .i64 a0_0, .slice A0_1 l0_1.length c0_1] 60 (0, 0)) (by (with_reducible repeat (first | refine blk_drewN ?_ _ | refine blk_drew ?_ | refine blk_alloc ?_ _)); exact BK601.out) hb); have n7_ := Aside0.mk (blk_below (g := gb616) (o := .cells #[.int .i64 t611, .slice Ao32 t612.length co32] 63 (0, 0)) (by (with_reducible repeat (first | refine blk_drewN ?_ _ | refine blk_drew ?_ | refine blk_alloc ?_ _)); exact BK616.out) hb); have n8_ := Aside0.mk (blk_below (g := gb621) (o := .cells #[.int .i64 t617, .slice Ao39 t618.length co39] 63 (0, 0)) (by (with_reducible repeat (first | refine blk_drewN ?_ _ | refine blk_drew ?_ | refine blk_alloc ?_ _)); exact BK621.out) hb); have n9_ := Aside0.mk (blk_below (g := gb630) (o := .cells #[.int .i64 t625, .slice Ao49 t626.length co49] 63 (0, 0)) (by (with_reducible repeat (first | refine blk_drewN ?_ _ | refine blk_drew ?_ | refine blk_alloc ?_ _)); exact BK630.out) hb); have n10_ := Aside0.mk (below_step (by repeat (first | (with_reducible first | exact HB.out | apply below_alloc | apply pw_below_drewN | apply below_drew1 | refine below_set ?_ GE601.out | refine below_set ?_ GE616.out | refine below_set ?_ GE621.out | refine below_set ?_ GE630.out) | exact HB.out)) hb); clear HO_9; clear HO_617001; clear HO_622001; clear HO_631001; clear HO635; clear HO639; clear BK601; clear BK616; clear BK621; clear BK630; clear HB; have HO_9 := n0_; have HO_617001 := n1_; have HO_622001 := n2_; have HO_631001 := n3_; have HO635 := n4_; have HO639 := n5_; have BK601 := n6_; have BK616 := n7_; have BK621 := n8_; have BK630 := n9_; have HB := n10_; clear n0_ n1_ n2_ n3_ n4_ n5_ n6_ n7_ n8_ n9_ n10_; (try clear hb); (try clear hb2); (try clear hk); (try clear hi)))
           go_meet
           case rel => exact ⟨_, (true), (by first | rfl | (simp; done) | (simp [*]; done)), H', ⟨by have := HJ18.out; first | omega | exact Nat.le_refl _⟩, ⟨by (with_reducible repeat (first | apply Kd.R_alloc | apply Kd.R_drewN | apply Kd.R_drew)); exact Kd.R_mono HO_617001.out (fun _ hk => ⟨hk.2.1, hk.2.2.1⟩)⟩, ⟨by (with_reducible repeat (first | apply Kd.R_alloc | apply Kd.R_drewN | apply Kd.R_drew)); exact Kd.R_mono HO_622001.out (fun _ hk => ⟨hk.2.1, hk.2.2.1⟩)⟩, ⟨by (with_reducible repeat (first | apply Kd.R_alloc | apply Kd.R_drewN | apply Kd.R_drew)); exact Kd.R_mono HO_631001.out (fun _ hk => ⟨hk.2.1, hk.2.2.1⟩)⟩, ⟨by (with_reducible repeat (first | refine blk_drewN ?_ _ | refine blk_drew ?_ | refine blk_alloc ?_ _)); exact BK601.out⟩, ⟨by (with_reducible repeat (first | refine blk_drewN ?_ _ | refine blk_drew ?_ | refine blk_alloc ?_ _)); exact BK616.out⟩, ⟨by (with_reducible repeat (first | refine blk_drewN ?_ _ | refine blk_drew ?_ | refine blk_alloc ?_ _)); exact BK621.out⟩, ⟨by (with_reducible repeat (first | refine blk_drewN ?_ _ | refine blk_drew ?_ | refine blk_alloc ?_ _)); exact BK630.out⟩, ⟨by repeat (first | (with_reducible first | exact HB.out | apply below_alloc | apply pw_below_drewN | apply below_drew1 | refine below_set ?_ GE601.out | refine below_set ?_ GE616.out | refine below_set ?_ GE621.out | refine below_set ?_ GE630.out) | exact HB.out)⟩⟩
        case rest =>
         clear HC77
         try clear c1
         try clear p2
         try clear c3
         try clear c4
         try clear c4b0
         try clear c5
         try clear c6
         try clear c7
         try clear c8
         try clear c9
         try clear c9b0
         try clear c10
         try clear c30
         try clear c36
         try clear c37
         try clear c41
         try clear c42
         try clear c43
         try clear c44
         try clear c45
         try clear c46
         try clear c47
         try clear c48
         try clear c49
         try clear c50
         try clear c51
         try clear c52
         try clear c53
         try clear c54
         try clear c56
         try clear c57
         try clear c60
         try clear c61
         try clear c62
         try clear c64
         try clear c65
         try clear c68
         try clear c71
         try clear c74
         try clear c84
         try clear c85
         try clear c86
         try clear c90
         try clear c90b0
         try clear c92
         try clear c93
         try clear c94
         try clear c95
         try clear c97
         try clear c98
         try clear c101
         try clear c102
         try clear c103
         try clear c105
         try clear c106
         try clear hcz104_0
         try clear hcz104_1
         try clear hcz107_0
         try clear hcz107_1
         try clear hcz11_0
         try clear hcz11_1
         try clear hcz21_0
         try clear hcz21_1
         try clear hcz23_0
         try clear hcz23_1
         try clear hcz31_0
         try clear hcz31_1
         try clear hcz33_0
         try clear hcz33_1
         try clear hcz38_0
         try clear hcz38_1
         try clear hcz41_0
         try clear hcz41_1
         try clear hcz48_0
         try clear hcz48_1
         try clear hcz55_0
         try clear hcz55_1
         try clear hcz58_0
         try clear hcz58_1
         try clear hcz63_0
         try clear hcz63_1
         try clear hcz66_0
         try clear hcz66_1
         try clear hcz6_0
         try clear hcz6_1
         try clear hcz87_0
         try clear hcz87_1
         try clear hcz96_0
         try clear hcz96_1
         try clear hcz99_0
         try clear hcz99_1
         try clear hfz104_0
         try clear hfz104_1
         try clear hfz107_0
         try clear hfz107_1
         try clear hfz11_0
         try clear hfz11_1
         try clear hfz21_0
         try clear hfz21_1
         try clear hfz23_0
         try clear hfz23_1
         try clear hfz31_0
         try clear hfz31_1
         try clear hfz33_0
         try clear hfz33_1
         try clear hfz38_0
         try clear hfz38_1
         try clear hfz41_0
         try clear hfz41_1
         try clear hfz48_0
         try clear hfz48_1
         try clear hfz55_0
         try clear hfz55_1
         try clear hfz58_0
         try clear hfz58_1
         try clear hfz63_0
         try clear hfz63_1
         try clear hfz66_0
         try clear hfz66_1
         try clear hfz6_0
         try clear hfz6_1
         try clear hfz87_0
         try clear hfz87_1
         try clear hfz96_0
         try clear hfz96_1
         try clear hfz99_0
         try clear hfz99_1
         try clear p2
         obtain ⟨kq, x82_76, rfl, HA, HJ76, HO_617001, HO_622001, HO_631001, BK601, BK616, BK621, BK630, HB⟩ := hcut
         have hl622001_76 := (Kd.R_reads' HO_622001.out).1
         rw [hl622001_76] at HO_622001
         (try simp only [hl622001_76])
         (try simp only [hl622001_76] at BK601)
         (try simp only [hl622001_76] at BK616)
         (try simp only [hl622001_76] at BK621)
         (try simp only [hl622001_76] at BK630)
         (try simp only [hl622001_76] at HO_617001)
         (try simp only [hl622001_76] at HO_631001)
         cases kq with
         | zero => exact absurd HA.out (by simp [laws_FnExactEdgeAll.j1])
         | succ kj76 =>
          have H := HA.out
          clear HA
          simp only [laws_FnExactEdgeAll.j1] at H
          by_cases c109 : x82_76 = true
          ·subst c109
           have H1 : (none) = some r := by rw [if_pos rfl] at H; exact H
           clear H
           have H := H1
           clear H1
           exact absurd H (by simp)
          ·replace c109 := Bool.eq_false_iff.mpr c109
           subst c109
           have H1 : ((laws_markEdge.f kj76 t625 t626 1).bind fun bt646 => ((laws_heldEdge.f kj76 t625 bt646.2 1).bind fun t648 => (if t648 < 0 then (none) else (if t648 = bt646.1 then ((laws_toEdge.f kj76 a0_0 l0_1).bind fun bt649 => ((laws_toStringS.f kj76 l1).bind fun t653 => ((impl_EdgeAll.f kj76 bt649.1 bt649.2 t653).bind fun bt656 => ((laws_eqEdge.f kj76 bt656.1 bt656.2.1 t611 t612).bind fun t662 => (if t662 = true then (laws_FnExactEdgeAll.j2 kj76 bt646.1 (bt656.2.2 != t615) t625 bt646.2) else (laws_FnExactEdgeAll.j2 kj76 bt646.1 true t625 bt646.2)))))) else (none))))) = some r := by rw [if_neg (show ¬ (false = true) by decide)] at H; exact H
           clear H
           have H := H1
           clear H1
           replace H := Option.bind_eq_some_iff.mp H
           obtain ⟨⟨t646, t647⟩, A1100, H⟩ := H
           replace H : ((laws_heldEdge.f kj76 t625 t647 1).bind fun t648 => (if t648 < 0 then (none) else (if t648 = t646 then ((laws_toEdge.f kj76 a0_0 l0_1).bind fun bt649 => ((laws_toStringS.f kj76 l1).bind fun t653 => ((impl_EdgeAll.f kj76 bt649.1 bt649.2 t653).bind fun bt656 => ((laws_eqEdge.f kj76 bt656.1 bt656.2.1 t611 t612).bind fun t662 => (if t662 = true then (laws_FnExactEdgeAll.j2 kj76 t646 (bt656.2.2 != t615) t625 t647) else (laws_FnExactEdgeAll.j2 kj76 t646 true t625 t647)))))) else (none)))) = some r := H
           have A110 := Aside0.mk A1100
           clear A1100
           replace H := Option.bind_eq_some_iff.mp H
           obtain ⟨t648, A1110, H⟩ := H
           replace H : (if t648 < 0 then (none) else (if t648 = t646 then ((laws_toEdge.f kj76 a0_0 l0_1).bind fun bt649 => ((laws_toStringS.f kj76 l1).bind fun t653 => ((impl_EdgeAll.f kj76 bt649.1 bt649.2 t653).bind fun bt656 => ((laws_eqEdge.f kj76 bt656.1 bt656.2.1 t611 t612).bind fun t662 => (if t662 = true then (laws_FnExactEdgeAll.j2 kj76 t646 (bt656.2.2 != t615) t625 t647) else (laws_FnExactEdgeAll.j2 kj76 t646 true t625 t647)))))) else (none))) = some r := H
           have A111 := Aside0.mk A1110
           clear A1110
           by_cases c112 : t648 < 0
           ·rw [if_pos c112] at H
            exact absurd H (by simp)
           ·rw [if_neg c112] at H
            have c112b0 : decide (t648 < 0) = false := decide_eq_false c112
            clear c112
            by_cases c113 : t648 = t646
            ·rw [if_pos c113] at H
             have c113b0 : (t648 == t646) = true := beq_iff_eq.mpr c113
             have c113b1 : (t648 != t646) = false := bne_eq_false_iff_eq.mpr c113
             clear c113
             replace H := Option.bind_eq_some_iff.mp H
             obtain ⟨⟨t649, t650⟩, A1140, H⟩ := H
             replace H : ((laws_toStringS.f kj76 l1).bind fun t653 => ((impl_EdgeAll.f kj76 t649 t650 t653).bind fun bt656 => ((laws_eqEdge.f kj76 bt656.1 bt656.2.1 t611 t612).bind fun t662 => (if t662 = true then (laws_FnExactEdgeAll.j2 kj76 t646 (bt656.2.2 != t615) t625 t647) else (laws_FnExactEdgeAll.j2 kj76 t646 true t625 t647))))) = some r := H
             have A114 := Aside0.mk A1140
             clear A1140
             replace H := Option.bind_eq_some_iff.mp H
             obtain ⟨t653, A1150, H⟩ := H
             replace H : ((impl_EdgeAll.f kj76 t649 t650 t653).bind fun bt656 => ((laws_eqEdge.f kj76 bt656.1 bt656.2.1 t611 t612).bind fun t662 => (if t662 = true then (laws_FnExactEdgeAll.j2 kj76 t646 (bt656.2.2 != t615) t625 t647) else (laws_FnExactEdgeAll.j2 kj76 t646 true t625 t647)))) = some r := H
             have A115 := Aside0.mk A1150
             clear A1150
             replace H := Option.bind_eq_some_iff.mp H
             obtain ⟨⟨t656, t657, t660⟩, A1160, H⟩ := H
             replace H : ((laws_eqEdge.f kj76 t656 t657 t611 t612).bind fun t662 => (if t662 = true then (laws_FnExactEdgeAll.j2 kj76 t646 (t660 != t615) t625 t647) else (laws_FnExactEdgeAll.j2 kj76 t646 true t625 t647))) = some r := H
             have A116 := Aside0.mk A1160
             clear A1160
             have HC117 := Aside0.mk H
             clear H
             have hnb118 := NB630_601.out
             have hnc118 := NB601_630.out
             have hnb119 := NB630_616.out
             have hnc119 := NB616_630.out
             have hnb120 := NB630_621.out
             have hnc120 := NB621_630.out
             have hcz121_0 : wc.cell? ⟨gb630, 0, none⟩ = some (.int .i64 t625) := (blk_cell BK630.out 0).trans rfl
             have hcz121_1 : wc.cell? ⟨gb630, 1, none⟩ = some (.slice Ao49 t626.length co49) := (blk_cell BK630.out 1).trans rfl
             have hfz121_0 := blk_frozen BK630.out 0
             have hfz121_1 := blk_frozen BK630.out 1
             go_upto_region 32 with (first | ((with_reducible refine gate_callee (f := 49) rfl ?_); refine goesL_ (some 85) rfl rfl Try.func49 (by kernel_rfl) rfl #[.agg #[.int .i64 t625, .slice Ao49 t626.length co49], .int .i64 1] rfl (by (try simp only [List.map_toArray, List.map_cons, List.map_nil]); first | done | rfl | (simp only [List.length_drop, List.length_take]; rfl)) ?_; (with_reducible refine (laws_markEdge.calls kj76 t625 (fun k_ => some k_ = (.slice Ao49 t626.length co49 : Value).ownBlock) (.slice Ao49 t626.length co49) t626 1 t646 t647 w _ ?side1 ?side2 A110.out).mono ?_); (case side1 => repeat (first | (with_reducible first | exact HB.out | apply below_alloc | apply pw_below_drewN | apply below_drew1 | refine below_set ?_ GE601.out | refine below_set ?_ GE616.out | refine below_set ?_ GE621.out | refine below_set ?_ GE630.out) | exact HB.out)); (case side2 => exact Kd.R_tight rfl HO_631001.out); rintro e w122 ⟨rfl, hy0, hb, hkp⟩; refine ⟨_, rfl, ?_⟩; have n0_ := Aside0.mk (Kd.R_mono (ok' := fun k_ => some k_ ≠ (.slice Ao39 t642.length co39 : Value).ownBlock ∧ some k_ ≠ (.slice Ao49 t626.length co49 : Value).ownBlock) (Kd.R_keptB (HO_617001.out) hkp (fun k_ hk_ hs_ => (hk_.2) hs_)) (fun k_ hk_ => ⟨hk_.1.1, hk_.1.2⟩)); have n1_ := Aside0.mk (Kd.R_mono (ok' := fun k_ => some k_ ≠ (.slice Ao32 t612.length co32 : Value).ownBlock ∧ some k_ ≠ (.slice Ao49 t626.length co49 : Value).ownBlock) (Kd.R_keptB (HO_622001.out) hkp (fun k_ hk_ hs_ => (hk_.2) hs_)) (fun k_ hk_ => ⟨hk_.1.1, hk_.1.2⟩)); have n2_ := Aside0.mk (Kd.R_reok rfl hy0 (fun k_ e_ => HO_631001.out.1 k_ e_)); have n3_ := Aside0.mk (blk_kept (g := gb601) (by first | exact BK601.out | exact blk_drewN BK601.out _ | exact blk_drew BK601.out) hkp (Kd.R_ne HO_631001.out BK601.out (by decide))); have n4_ := Aside0.mk (blk_kept (g := gb616) (by first | exact BK616.out | exact blk_drewN BK616.out _ | exact blk_drew BK616.out) hkp (Kd.R_ne HO_631001.out BK616.out (by decide))); have n5_ := Aside0.mk (blk_kept (g := gb621) (by first | exact BK621.out | exact blk_drewN BK621.out _ | exact blk_drew BK621.out) hkp (Kd.R_ne HO_631001.out BK621.out (by decide))); have n6_ := Aside0.mk (blk_kept (g := gb630) (by first | exact BK630.out | exact blk_drewN BK630.out _ | exact blk_drew BK630.out) hkp (Kd.R_ne HO_631001.out BK630.out (by decide))); have n7_ := Aside0.mk (hb); clear HO_617001; clear HO_622001; clear HO_631001; clear BK601; clear BK616; clear BK621; clear BK630; clear HB; have HO_617001 := n0_; have HO_622001 := n1_; have HO_631001 := n2_; have BK601 := n3_; have BK616 := n4_; have BK621 := n5_; have BK630 := n6_; have HB := n7_; clear n0_ n1_ n2_ n3_ n4_ n5_ n6_ n7_; (try clear hb); (try clear hkp); (try clear hy0); have hcz123_0 : w122.cell? ⟨gb630, 0, none⟩ = some (.int .i64 t625) := (blk_cell BK630.out 0).trans rfl; have hcz123_1 : w122.cell? ⟨gb630, 1, none⟩ = some (.slice Ao49 t626.length co49) := (blk_cell BK630.out 1).trans rfl; have hfz123_0 := blk_frozen BK630.out 0; have hfz123_1 := blk_frozen BK630.out 1) | ((with_reducible refine gate_callee (f := 51) rfl ?_); refine goesL_ (some 88) rfl rfl Try.func51 (by kernel_rfl) rfl #[.agg #[.int .i64 t625, .slice Ao49 t647.length co49], .int .i64 1] rfl (by (try simp only [List.map_toArray, List.map_cons, List.map_nil]); first | done | (rw [show t647.length = t626.length from (Kd.R_reads' HO_631001.out).1.symm] <;> rfl) | rfl | (simp only [List.length_drop, List.length_take]; rfl)) ?_; (with_reducible refine (laws_heldEdge.calls kj76 t625 _ _ t647 1 t648 _ ?side1 ?side2 A111.out).mono ?_); (case side1 => repeat (first | exact (Kd.R_reads' HO_631001.out).2.2 | (with_reducible refine Kd.C_alloc ?_ _) | (with_reducible refine Kd.C_drewN ?_ _) | (with_reducible refine Kd.C_drew ?_))); (case side2 => rw [show t647.length = t626.length from (Kd.R_reads' HO_631001.out).1.symm]; exact (Kd.R_reads' HO_631001.out).2.1); rintro e w124 ⟨rfl, hb⟩; refine ⟨_, rfl, ?_⟩; have n0_ := Aside0.mk (Kd.R_below (by (with_reducible repeat (first | apply Kd.R_alloc | apply Kd.R_drewN | apply Kd.R_drew)); exact HO_617001.out) hb); have n1_ := Aside0.mk (Kd.R_below (by (with_reducible repeat (first | apply Kd.R_alloc | apply Kd.R_drewN | apply Kd.R_drew)); exact HO_622001.out) hb); have n2_ := Aside0.mk (Kd.R_below (by (with_reducible repeat (first | apply Kd.R_alloc | apply Kd.R_drewN | apply Kd.R_drew)); exact HO_631001.out) hb); have n3_ := Aside0.mk (blk_below (g := gb601) (o := .cells #[.int .i64 a0_0, .slice A0_1 l0_1.length c0_1] 60 (0, 0)) (by (with_reducible repeat (first | refine blk_drewN ?_ _ | refine blk_drew ?_ | refine blk_alloc ?_ _)); exact BK601.out) hb); have n4_ := Aside0.mk (blk_below (g := gb616) (o := .cells #[.int .i64 t611, .slice Ao32 t612.length co32] 63 (0, 0)) (by (with_reducible repeat (first | refine blk_drewN ?_ _ | refine blk_drew ?_ | refine blk_alloc ?_ _)); exact BK616.out) hb); have n5_ := Aside0.mk (blk_below (g := gb621) (o := .cells #[.int .i64 t617, .slice Ao39 t642.length co39] 63 (0, 0)) (by (with_reducible repeat (first | refine blk_drewN ?_ _ | refine blk_drew ?_ | refine blk_alloc ?_ _)); exact BK621.out) hb); have n6_ := Aside0.mk (blk_below (g := gb630) (o := .cells #[.int .i64 t625, .slice Ao49 t626.length co49] 63 (0, 0)) (by (with_reducible repeat (first | refine blk_drewN ?_ _ | refine blk_drew ?_ | refine blk_alloc ?_ _)); exact BK630.out) hb); have n7_ := Aside0.mk (below_step (by repeat (first | (with_reducible first | exact HB.out | apply below_alloc | apply pw_below_drewN | apply below_drew1 | refine below_set ?_ GE601.out | refine below_set ?_ GE616.out | refine below_set ?_ GE621.out | refine below_set ?_ GE630.out) | exact HB.out)) hb); clear HO_617001; clear HO_622001; clear HO_631001; clear BK601; clear BK616; clear BK621; clear BK630; clear HB; have HO_617001 := n0_; have HO_622001 := n1_; have HO_631001 := n2_; have BK601 := n3_; have BK616 := n4_; have BK621 := n5_; have BK630 := n6_; have HB := n7_; clear n0_ n1_ n2_ n3_ n4_ n5_ n6_ n7_; (try clear hb); (try clear hb2); (try clear hk); (try clear hi); have hnb125 := NB601_616.out; have hnc125 := NB616_601.out; have hnb126 := NB601_621.out; have hnc126 := NB621_601.out; have hcz127_0 : w124.cell? ⟨gb601, 0, none⟩ = some (.int .i64 a0_0) := (blk_cell BK601.out 0).trans rfl; have hcz127_1 : w124.cell? ⟨gb601, 1, none⟩ = some (.slice A0_1 l0_1.length c0_1) := (blk_cell BK601.out 1).trans rfl; have hfz127_0 := blk_frozen BK601.out 0; have hfz127_1 := blk_frozen BK601.out 1) | ((with_reducible refine gate_callee (f := 44) rfl ?_); refine goesL_ (some 96) rfl rfl Try.func44 (by kernel_rfl) rfl #[.agg #[.int .i64 a0_0, .slice A0_1 l0_1.length c0_1]] rfl (by (try simp only [List.map_toArray, List.map_cons, List.map_nil]); first | done | rfl | (simp only [List.length_drop, List.length_take]; rfl)) ?_; (with_reducible refine (laws_toEdge.calls kj76 a0_0 _ _ l0_1 t649 t650 _ ?side1 ?side2 A114.out).mono ?_); (case side1 => repeat (first | exact (Kd.C_below HR0_1.out HB.out) | (with_reducible refine Kd.C_alloc ?_ _) | (with_reducible refine Kd.C_drewN ?_ _) | (with_reducible refine Kd.C_drew ?_))); (case side2 => exact HC0_1.out); rintro e w128 ⟨v651, rfl, ho0, hb⟩; refine ⟨_, rfl, ?_⟩; have n0_ := Aside0.mk (Kd.R_elder' (by (with_reducible repeat (first | apply Kd.R_alloc | apply Kd.R_drewN | apply Kd.R_drew)); exact HO_617001.out) (Kd.R_base ho0) hb); have n1_ := Aside0.mk (Kd.R_elder' (by (with_reducible repeat (first | apply Kd.R_alloc | apply Kd.R_drewN | apply Kd.R_drew)); exact HO_622001.out) (Kd.R_base ho0) hb); have n2_ := Aside0.mk (Kd.R_elder' (by (with_reducible repeat (first | apply Kd.R_alloc | apply Kd.R_drewN | apply Kd.R_drew)); exact HO_631001.out) (Kd.R_base ho0) hb); have n3_ := Aside0.mk (Kd.R_lower (Kd.R_new' (Kd.R_new' (Kd.R_new' ho0 (Kd.R_lt (by (with_reducible repeat (first | apply Kd.R_alloc | apply Kd.R_drewN | apply Kd.R_drew)); exact HO_617001.out))) (Kd.R_lt (by (with_reducible repeat (first | apply Kd.R_alloc | apply Kd.R_drewN | apply Kd.R_drew)); exact HO_622001.out))) (Kd.R_lt (by (with_reducible repeat (first | apply Kd.R_alloc | apply Kd.R_drewN | apply Kd.R_drew)); exact HO_631001.out))) (below_size (by repeat (first | (with_reducible first | exact HB.out | apply below_alloc | apply pw_below_drewN | apply below_drew1 | refine below_set ?_ GE601.out | refine below_set ?_ GE616.out | refine below_set ?_ GE621.out | refine below_set ?_ GE630.out) | exact HB.out)))); have n4_ := Aside0.mk (blk_below (g := gb601) (o := .cells #[.int .i64 a0_0, .slice A0_1 l0_1.length c0_1] 60 (0, 0)) (by (with_reducible repeat (first | refine blk_drewN ?_ _ | refine blk_drew ?_ | refine blk_alloc ?_ _)); exact BK601.out) hb); have n5_ := Aside0.mk (blk_below (g := gb616) (o := .cells #[.int .i64 t611, .slice Ao32 t612.length co32] 63 (0, 0)) (by (with_reducible repeat (first | refine blk_drewN ?_ _ | refine blk_drew ?_ | refine blk_alloc ?_ _)); exact BK616.out) hb); have n6_ := Aside0.mk (blk_below (g := gb621) (o := .cells #[.int .i64 t617, .slice Ao39 t642.length co39] 63 (0, 0)) (by (with_reducible repeat (first | refine blk_drewN ?_ _ | refine blk_drew ?_ | refine blk_alloc ?_ _)); exact BK621.out) hb); have n7_ := Aside0.mk (blk_below (g := gb630) (o := .cells #[.int .i64 t625, .slice Ao49 t626.length co49] 63 (0, 0)) (by (with_reducible repeat (first | refine blk_drewN ?_ _ | refine blk_drew ?_ | refine blk_alloc ?_ _)); exact BK630.out) hb); have n8_ := Aside0.mk (below_step (by repeat (first | (with_reducible first | exact HB.out | apply below_alloc | apply pw_below_drewN | apply below_drew1 | refine below_set ?_ GE601.out | refine below_set ?_ GE616.out | refine below_set ?_ GE621.out | refine below_set ?_ GE630.out) | exact HB.out)) hb); clear HO_617001; clear HO_622001; clear HO_631001; clear BK601; clear BK616; clear BK621; clear BK630; clear HB; have HO_617001 := n0_; have HO_622001 := n1_; have HO_631001 := n2_; have HO652 := n3_; have BK601 := n4_; have BK616 := n5_; have BK621 := n6_; have BK630 := n7_; have HB := n8_; clear n0_ n1_ n2_ n3_ n4_ n5_ n6_ n7_ n8_; (try clear hb); (try clear hb2); (try clear hk); (try clear hi); (try clear ho0)) | ((with_reducible refine gate_callee (f := 45) rfl ?_); refine goesL_ (some 98) rfl rfl Try.func45 (by kernel_rfl) rfl #[.slice A1 l1.length c1] rfl (by (try simp only [List.map_toArray, List.map_cons, List.map_nil]); first | done | rfl | (simp only [List.length_drop, List.length_take]; rfl)) ?_; (with_reducible refine (laws_toStringS.calls kj76 _ _ l1 t653 _ ?side1 ?side2 A115.out).mono ?_); (case side1 => repeat (first | exact (Kd.C_below HR1.out HB.out) | (with_reducible refine Kd.C_alloc ?_ _) | (with_reducible refine Kd.C_drewN ?_ _) | (with_reducible refine Kd.C_drew ?_))); (case side2 => exact HC1.out); rintro e w129 ⟨v654, rfl, ho0, hb⟩; refine ⟨_, rfl, ?_⟩; have n0_ := Aside0.mk (Kd.R_elder' (by (with_reducible repeat (first | apply Kd.R_alloc | apply Kd.R_drewN | apply Kd.R_drew)); exact HO_617001.out) (Kd.R_base ho0) hb); have n1_ := Aside0.mk (Kd.R_elder' (by (with_reducible repeat (first | apply Kd.R_alloc | apply Kd.R_drewN | apply Kd.R_drew)); exact HO_622001.out) (Kd.R_base ho0) hb); have n2_ := Aside0.mk (Kd.R_elder' (by (with_reducible repeat (first | apply Kd.R_alloc | apply Kd.R_drewN | apply Kd.R_drew)); exact HO_631001.out) (Kd.R_base ho0) hb); have n3_ := Aside0.mk (Kd.R_elder' (by (with_reducible repeat (first | apply Kd.R_alloc | apply Kd.R_drewN | apply Kd.R_drew)); exact HO652.out) (Kd.R_base ho0) hb); have n4_ := Aside0.mk (Kd.R_lower (Kd.R_new' (Kd.R_new' (Kd.R_new' (Kd.R_new' ho0 (Kd.R_lt (by (with_reducible repeat (first | apply Kd.R_alloc | apply Kd.R_drewN | apply Kd.R_drew)); exact HO_617001.out))) (Kd.R_lt (by (with_reducible repeat (first | apply Kd.R_alloc | apply Kd.R_drewN | apply Kd.R_drew)); exact HO_622001.out))) (Kd.R_lt (by (with_reducible repeat (first | apply Kd.R_alloc | apply Kd.R_drewN | apply Kd.R_drew)); exact HO_631001.out))) (Kd.R_lt (by (with_reducible repeat (first | apply Kd.R_alloc | apply Kd.R_drewN | apply Kd.R_drew)); exact HO652.out))) (below_size (by repeat (first | (with_reducible first | exact HB.out | apply below_alloc | apply pw_below_drewN | apply below_drew1 | refine below_set ?_ GE601.out | refine below_set ?_ GE616.out | refine below_set ?_ GE621.out | refine below_set ?_ GE630.out) | exact HB.out)))); have n5_ := Aside0.mk (blk_below (g := gb601) (o := .cells #[.int .i64 a0_0, .slice A0_1 l0_1.length c0_1] 60 (0, 0)) (by (with_reducible repeat (first | refine blk_drewN ?_ _ | refine blk_drew ?_ | refine blk_alloc ?_ _)); exact BK601.out) hb); have n6_ := Aside0.mk (blk_below (g := gb616) (o := .cells #[.int .i64 t611, .slice Ao32 t612.length co32] 63 (0, 0)) (by (with_reducible repeat (first | refine blk_drewN ?_ _ | refine blk_drew ?_ | refine blk_alloc ?_ _)); exact BK616.out) hb); have n7_ := Aside0.mk (blk_below (g := gb621) (o := .cells #[.int .i64 t617, .slice Ao39 t642.length co39] 63 (0, 0)) (by (with_reducible repeat (first | refine blk_drewN ?_ _ | refine blk_drew ?_ | refine blk_alloc ?_ _)); exact BK621.out) hb); have n8_ := Aside0.mk (blk_below (g := gb630) (o := .cells #[.int .i64 t625, .slice Ao49 t626.length co49] 63 (0, 0)) (by (with_reducible repeat (first | refine blk_drewN ?_ _ | refine blk_drew ?_ | refine blk_alloc ?_ _)); exact BK630.out) hb); have n9_ := Aside0.mk (below_step (by repeat (first | (with_reducible first | exact HB.out | apply below_alloc | apply pw_below_drewN | apply below_drew1 | refine below_set ?_ GE601.out | refine below_set ?_ GE616.out | refine below_set ?_ GE621.out | refine below_set ?_ GE630.out) | exact HB.out)) hb); clear HO_617001; clear HO_622001; clear HO_631001; clear HO652; clear BK601; clear BK616; clear BK621; clear BK630; clear HB; have HO_617001 := n0_; have HO_622001 := n1_; have HO_631001 := n2_; have HO652 := n3_; have HO655 := n4_; have BK601 := n5_; have BK616 := n6_; have BK621 := n7_; have BK630 := n8_; have HB := n9_; clear n0_ n1_ n2_ n3_ n4_ n5_ n6_ n7_ n8_ n9_; (try clear hb); (try clear hb2); (try clear hk); (try clear hi); (try clear ho0); obtain ⟨Ao130, co130, eo130⟩ := Kd.R_slice HO652.out; subst eo130; obtain ⟨Ao131, co131, eo131⟩ := Kd.R_slice HO655.out; subst eo131) | ((with_reducible refine gate_callee (f := 46) rfl ?_); refine goesL_ (some 99) rfl rfl Try.func46 (by kernel_rfl) rfl #[.agg #[.int .i64 t649, .slice Ao130 t650.length co130], .slice Ao131 t653.length co131] rfl (by (try simp only [List.map_toArray, List.map_cons, List.map_nil]); first | done | rfl | (simp only [List.length_drop, List.length_take]; rfl)) ?_; (with_reducible refine (impl_EdgeAll.calls kj76 t649 _ _ t650 _ _ t653 t656 t657 t660 _ ?side1 ?side2 ?side3 ?side4 A116.out).mono ?_); (case side1 => repeat (first | exact (Kd.R_reads' HO652.out).2.2 | (with_reducible refine Kd.C_alloc ?_ _) | (with_reducible refine Kd.C_drewN ?_ _) | (with_reducible refine Kd.C_drew ?_))); (case side2 => exact (Kd.R_reads' HO652.out).2.1); (case side3 => repeat (first | exact (Kd.R_reads' HO655.out).2.2 | (with_reducible refine Kd.C_alloc ?_ _) | (with_reducible refine Kd.C_drewN ?_ _) | (with_reducible refine Kd.C_drew ?_))); (case side4 => exact (Kd.R_reads' HO655.out).2.1); rintro e w132 ⟨v658, rfl, ho0, hb⟩; refine ⟨_, rfl, ?_⟩; have n0_ := Aside0.mk (Kd.R_elder' (by (with_reducible repeat (first | apply Kd.R_alloc | apply Kd.R_drewN | apply Kd.R_drew)); exact HO_617001.out) (Kd.R_base ho0) hb); have n1_ := Aside0.mk (Kd.R_elder' (by (with_reducible repeat (first | apply Kd.R_alloc | apply Kd.R_drewN | apply Kd.R_drew)); exact HO_622001.out) (Kd.R_base ho0) hb); have n2_ := Aside0.mk (Kd.R_elder' (by (with_reducible repeat (first | apply Kd.R_alloc | apply Kd.R_drewN | apply Kd.R_drew)); exact HO_631001.out) (Kd.R_base ho0) hb); have n3_ := Aside0.mk (Kd.R_elder' (by (with_reducible repeat (first | apply Kd.R_alloc | apply Kd.R_drewN | apply Kd.R_drew)); exact HO652.out) (Kd.R_base ho0) hb); have n4_ := Aside0.mk (Kd.R_elder' (by (with_reducible repeat (first | apply Kd.R_alloc | apply Kd.R_drewN | apply Kd.R_drew)); exact HO655.out) (Kd.R_base ho0) hb); have n5_ := Aside0.mk (Kd.R_lower (Kd.R_new' (Kd.R_new' (Kd.R_new' (Kd.R_new' (Kd.R_new' ho0 (Kd.R_lt (by (with_reducible repeat (first | apply Kd.R_alloc | apply Kd.R_drewN | apply Kd.R_drew)); exact HO_617001.out))) (Kd.R_lt (by (with_reducible repeat (first | apply Kd.R_alloc | apply Kd.R_drewN | apply Kd.R_drew)); exact HO_622001.out))) (Kd.R_lt (by (with_reducible repeat (first | apply Kd.R_alloc | apply Kd.R_drewN | apply Kd.R_drew)); exact HO_631001.out))) (Kd.R_lt (by (with_reducible repeat (first | apply Kd.R_alloc | apply Kd.R_drewN | apply Kd.R_drew)); exact HO652.out))) (Kd.R_lt (by (with_reducible repeat (first | apply Kd.R_alloc | apply Kd.R_drewN | apply Kd.R_drew)); exact HO655.out))) (below_size (by repeat (first | (with_reducible first | exact HB.out | apply below_alloc | apply pw_below_drewN | apply below_drew1 | refine below_set ?_ GE601.out | refine below_set ?_ GE616.out | refine below_set ?_ GE621.out | refine below_set ?_ GE630.out) | exact HB.out)))); have n6_ := Aside0.mk (blk_below (g := gb601) (o := .cells #[.int .i64 a0_0, .slice A0_1 l0_1.length c0_1] 60 (0, 0)) (by (with_reducible repeat (first | refine blk_drewN ?_ _ | refine blk_drew ?_ | refine blk_alloc ?_ _)); exact BK601.out) hb); have n7_ := Aside0.mk (blk_below (g := gb616) (o := .cells #[.int .i64 t611, .slice Ao32 t612.length co32] 63 (0, 0)) (by (with_reducible repeat (first | refine blk_drewN ?_ _ | refine blk_drew ?_ | refine blk_alloc ?_ _)); exact BK616.out) hb); have n8_ := Aside0.mk (blk_below (g := gb621) (o := .cells #[.int .i64 t617, .slice Ao39 t642.length co39] 63 (0, 0)) (by (with_reducible repeat (first | refine blk_drewN ?_ _ | refine blk_drew ?_ | refine blk_alloc ?_ _)); exact BK621.out) hb); have n9_ := Aside0.mk (blk_below (g := gb630) (o := .cells #[.int .i64 t625, .slice Ao49 t626.length co49] 63 (0, 0)) (by (with_reducible repeat (first | refine blk_drewN ?_ _ | refine blk_drew ?_ | refine blk_alloc ?_ _)); exact BK630.out) hb); have n10_ := Aside0.mk (below_step (by repeat (first | (with_reducible first | exact HB.out | apply below_alloc | apply pw_below_drewN | apply below_drew1 | refine below_set ?_ GE601.out | refine below_set ?_ GE616.out | refine below_set ?_ GE621.out | refine below_set ?_ GE630.out) | exact HB.out)) hb); clear HO_617001; clear HO_622001; clear HO_631001; clear HO652; clear HO655; clear BK601; clear BK616; clear BK621; clear BK630; clear HB; have HO_617001 := n0_; have HO_622001 := n1_; have HO_631001 := n2_; have HO652 := n3_; have HO655 := n4_; have HO659 := n5_; have BK601 := n6_; have BK616 := n7_; have BK621 := n8_; have BK630 := n9_; have HB := n10_; clear n0_ n1_ n2_ n3_ n4_ n5_ n6_ n7_ n8_ n9_ n10_; (try clear hb); (try clear hb2); (try clear hk); (try clear hi); (try clear ho0)) | ((with_reducible refine gate_dst (N := 15) rfl ?_); refine box_event ?hg (N := 15) ?hd (cs := #[.int .i64 0, .slice none 0 0]) (t := 63) ?hr ?_; (case hd => rfl); (case hg => rfl); (case hr => first | (go_simp; done) | (go_simp; rfl)); intro gb661 hg w133 hbox hb; have n0_ := Aside0.mk (Kd.R_below (by (with_reducible repeat (first | apply Kd.R_alloc | apply Kd.R_drewN | apply Kd.R_drew)); exact HO_617001.out) hb); have n1_ := Aside0.mk (Kd.R_below (by (with_reducible repeat (first | apply Kd.R_alloc | apply Kd.R_drewN | apply Kd.R_drew)); exact HO_622001.out) hb); have n2_ := Aside0.mk (Kd.R_below (by (with_reducible repeat (first | apply Kd.R_alloc | apply Kd.R_drewN | apply Kd.R_drew)); exact HO_631001.out) hb); have n3_ := Aside0.mk (Kd.R_below (by (with_reducible repeat (first | apply Kd.R_alloc | apply Kd.R_drewN | apply Kd.R_drew)); exact HO652.out) hb); have n4_ := Aside0.mk (Kd.R_below (by (with_reducible repeat (first | apply Kd.R_alloc | apply Kd.R_drewN | apply Kd.R_drew)); exact HO655.out) hb); have n5_ := Aside0.mk (Kd.R_below (by (with_reducible repeat (first | apply Kd.R_alloc | apply Kd.R_drewN | apply Kd.R_drew)); exact HO659.out) hb); have n6_ := Aside0.mk (blk_below (g := gb601) (o := .cells #[.int .i64 a0_0, .slice A0_1 l0_1.length c0_1] 60 (0, 0)) (by (with_reducible repeat (first | refine blk_drewN ?_ _ | refine blk_drew ?_ | refine blk_alloc ?_ _)); exact BK601.out) hb); have n7_ := Aside0.mk (blk_below (g := gb616) (o := .cells #[.int .i64 t611, .slice Ao32 t612.length co32] 63 (0, 0)) (by (with_reducible repeat (first | refine blk_drewN ?_ _ | refine blk_drew ?_ | refine blk_alloc ?_ _)); exact BK616.out) hb); have n8_ := Aside0.mk (blk_below (g := gb621) (o := .cells #[.int .i64 t617, .slice Ao39 t642.length co39] 63 (0, 0)) (by (with_reducible repeat (first | refine blk_drewN ?_ _ | refine blk_drew ?_ | refine blk_alloc ?_ _)); exact BK621.out) hb); have n9_ := Aside0.mk (blk_below (g := gb630) (o := .cells #[.int .i64 t625, .slice Ao49 t626.length co49] 63 (0, 0)) (by (with_reducible repeat (first | refine blk_drewN ?_ _ | refine blk_drew ?_ | refine blk_alloc ?_ _)); exact BK630.out) hb); have n10_ := Aside0.mk (below_step (by repeat (first | (with_reducible first | exact HB.out | apply below_alloc | apply pw_below_drewN | apply below_drew1 | refine below_set ?_ GE601.out | refine below_set ?_ GE616.out | refine below_set ?_ GE621.out | refine below_set ?_ GE630.out) | exact HB.out)) hb); have n11_ := Aside0.mk (hbox); have n12_ := Aside0.mk ((by rw [hg]; exact (below_size (by repeat (first | (with_reducible first | exact HB.out | apply below_alloc | apply pw_below_drewN | apply below_drew1 | refine below_set ?_ GE601.out | refine below_set ?_ GE616.out | refine below_set ?_ GE621.out | refine below_set ?_ GE630.out) | exact HB.out))) : w.heap.size ≤ gb661)); have n13_ := Aside0.mk ((by rw [hg]; exact (below_size (by repeat (first | (with_reducible first | exact HB.out | apply below_alloc | apply pw_below_drewN | apply below_drew1 | refine below_set ?_ GE601.out | refine below_set ?_ GE616.out | refine below_set ?_ GE621.out | refine below_set ?_ GE630.out) | exact HB.out))) : w.heap.size ≤ gb661)); have n14_ := Aside0.mk ((by rw [hg]; exact Nat.ne_of_lt (blk_lt (g := gb601) (o := .cells #[.int .i64 a0_0, .slice A0_1 l0_1.length c0_1] 60 (0, 0)) (by (with_reducible repeat (first | refine blk_drewN ?_ _ | refine blk_drew ?_ | refine blk_alloc ?_ _)); exact BK601.out)) : gb601 ≠ gb661)); have n15_ := Aside0.mk ((by rw [hg]; exact Nat.ne_of_gt (blk_lt (g := gb601) (o := .cells #[.int .i64 a0_0, .slice A0_1 l0_1.length c0_1] 60 (0, 0)) (by (with_reducible repeat (first | refine blk_drewN ?_ _ | refine blk_drew ?_ | refine blk_alloc ?_ _)); exact BK601.out)) : gb661 ≠ gb601)); have n16_ := Aside0.mk ((by rw [hg]; exact Nat.ne_of_lt (blk_lt (g := gb616) (o := .cells #[.int .i64 t611, .slice Ao32 t612.length co32] 63 (0, 0)) (by (with_reducible repeat (first | refine blk_drewN ?_ _ | refine blk_drew ?_ | refine blk_alloc ?_ _)); exact BK616.out)) : gb616 ≠ gb661)); have n17_ := Aside0.mk ((by rw [hg]; exact Nat.ne_of_gt (blk_lt (g := gb616) (o := .cells #[.int .i64 t611, .slice Ao32 t612.length co32] 63 (0, 0)) (by (with_reducible repeat (first | refine blk_drewN ?_ _ | refine blk_drew ?_ | refine blk_alloc ?_ _)); exact BK616.out)) : gb661 ≠ gb616)); have n18_ := Aside0.mk ((by rw [hg]; exact Nat.ne_of_lt (blk_lt (g := gb621) (o := .cells #[.int .i64 t617, .slice Ao39 t642.length co39] 63 (0, 0)) (by (with_reducible repeat (first | refine blk_drewN ?_ _ | refine blk_drew ?_ | refine blk_alloc ?_ _)); exact BK621.out)) : gb621 ≠ gb661)); have n19_ := Aside0.mk ((by rw [hg]; exact Nat.ne_of_gt (blk_lt (g := gb621) (o := .cells #[.int .i64 t617, .slice Ao39 t642.length co39] 63 (0, 0)) (by (with_reducible repeat (first | refine blk_drewN ?_ _ | refine blk_drew ?_ | refine blk_alloc ?_ _)); exact BK621.out)) : gb661 ≠ gb621)); have n20_ := Aside0.mk ((by rw [hg]; exact Nat.ne_of_lt (blk_lt (g := gb630) (o := .cells #[.int .i64 t625, .slice Ao49 t626.length co49] 63 (0, 0)) (by (with_reducible repeat (first | refine blk_drewN ?_ _ | refine blk_drew ?_ | refine blk_alloc ?_ _)); exact BK630.out)) : gb630 ≠ gb661)); have n21_ := Aside0.mk ((by rw [hg]; exact Nat.ne_of_gt (blk_lt (g := gb630) (o := .cells #[.int .i64 t625, .slice Ao49 t626.length co49] 63 (0, 0)) (by (with_reducible repeat (first | refine blk_drewN ?_ _ | refine blk_drew ?_ | refine blk_alloc ?_ _)); exact BK630.out)) : gb661 ≠ gb630)); clear HO_617001; clear HO_622001; clear HO_631001; clear HO652; clear HO655; clear HO659; clear BK601; clear BK616; clear BK621; clear BK630; clear HB; have HO_617001 := n0_; have HO_622001 := n1_; have HO_631001 := n2_; have HO652 := n3_; have HO655 := n4_; have HO659 := n5_; have BK601 := n6_; have BK616 := n7_; have BK621 := n8_; have BK630 := n9_; have HB := n10_; have BK661 := n11_; have GW661 := n12_; have GE661 := n13_; have NB601_661 := n14_; have NB661_601 := n15_; have NB616_661 := n16_; have NB661_616 := n17_; have NB621_661 := n18_; have NB661_621 := n19_; have NB630_661 := n20_; have NB661_630 := n21_; clear n0_ n1_ n2_ n3_ n4_ n5_ n6_ n7_ n8_ n9_ n10_ n11_ n12_ n13_ n14_ n15_ n16_ n17_ n18_ n19_ n20_ n21_; clear hb hbox hg; have hnb134 := NB661_601.out; have hnc134 := NB601_661.out; have hnb135 := NB661_616.out; have hnc135 := NB616_661.out; have hnb136 := NB661_621.out; have hnc136 := NB621_661.out; have hnb137 := NB661_630.out; have hnc137 := NB630_661.out; have hcz138_0 : w133.cell? ⟨gb661, 0, none⟩ = some (.int .i64 0) := (blk_cell BK661.out 0).trans rfl; have hcz138_1 : w133.cell? ⟨gb661, 1, none⟩ = some (.slice none 0 0) := (blk_cell BK661.out 1).trans rfl; have hfz138_0 := blk_frozen BK661.out 0; have hfz138_1 := blk_frozen BK661.out 1; obtain ⟨Ao139, co139, eo139⟩ := Kd.R_slice HO659.out; subst eo139))
             (try simp only [Act.put, List.setIfInBounds_toArray, List.set_cons_zero, List.set_cons_succ])
             go_cut [110] (fun v110 wc => ∃ (kq : Nat) (x110_116 : Bool), v110 = .bool x110_116 ∧ Aside0 (laws_FnExactEdgeAll.j2 kq t646 x110_116 t625 t647 = some r) ∧ Aside0 (kq ≤ kj76) ∧ Aside0 (Kd.R Kd.string 9 wc w.heap.size (fun k_ => some k_ ≠ ((.slice Ao39 t642.length co39) : Value).ownBlock ∧ some k_ ≠ ((.slice Ao49 t626.length co49) : Value).ownBlock ∧ some k_ ≠ ((.slice Ao139 t657.length co139) : Value).ownBlock) (.slice Ao32 t612.length co32) t612) ∧ Aside0 (Kd.R Kd.string 9 wc w.heap.size (fun k_ => some k_ ≠ ((.slice Ao32 t612.length co32) : Value).ownBlock ∧ some k_ ≠ ((.slice Ao49 t626.length co49) : Value).ownBlock ∧ some k_ ≠ ((.slice Ao139 t657.length co139) : Value).ownBlock) (.slice Ao39 t642.length co39) t642) ∧ Aside0 (Kd.R Kd.string 9 wc w.heap.size (fun k_ => some k_ ≠ ((.slice Ao32 t612.length co32) : Value).ownBlock ∧ some k_ ≠ ((.slice Ao39 t642.length co39) : Value).ownBlock ∧ some k_ ≠ ((.slice Ao139 t657.length co139) : Value).ownBlock) (.slice Ao49 t626.length co49) t647) ∧ Aside0 (Kd.R Kd.string 9 wc w.heap.size (fun k_ => some k_ ≠ ((.slice Ao32 t612.length co32) : Value).ownBlock ∧ some k_ ≠ ((.slice Ao39 t642.length co39) : Value).ownBlock ∧ some k_ ≠ ((.slice Ao49 t626.length co49) : Value).ownBlock) (.slice Ao139 t657.length co139) t657) ∧ Aside0 (wc.heap[gb601]? = some (.cells #[.int .i64 a0_0, (.slice A0_1 l0_1.length c0_1)] 60 (0, 0))) ∧ Aside0 (wc.heap[gb616]? = some (.cells #[.int .i64 t611, (.slice Ao32 t612.length co32)] 63 (0, 0))) ∧ Aside0 (wc.heap[gb621]? = some (.cells #[.int .i64 t617, (.slice Ao39 t642.length co39)] 63 (0, 0))) ∧ Aside0 (wc.heap[gb630]? = some (.cells #[.int .i64 t625, (.slice Ao49 t626.length co49)] 63 (0, 0))) ∧ Aside0 (wc.heap[gb661]? = some (.cells #[.int .i64 t656, (.slice Ao139 t657.length co139)] 63 (0, 0))) ∧ Aside0 (Below w.heap.size w wc))
             case first =>
              have H := HC117.out
              clear HC117
              replace H := Option.bind_eq_some_iff.mp H
              obtain ⟨t662, A1400, H⟩ := H
              replace H : (if t662 = true then (laws_FnExactEdgeAll.j2 kj76 t646 (t660 != t615) t625 t647) else (laws_FnExactEdgeAll.j2 kj76 t646 true t625 t647)) = some r := H
              have A140 := Aside0.mk A1400
              clear A1400
              by_cases c141 : t662 = true
              ·subst c141
               have H1 : (laws_FnExactEdgeAll.j2 kj76 t646 (t660 != t615) t625 t647) = some r := by rw [if_pos rfl] at H; exact H
               clear H
               have H := H1
               clear H1
               have H' := Aside0.mk H
               clear H
               have hnb142 := NB661_601.out
               have hnc142 := NB601_661.out
               have hnb143 := NB661_616.out
               have hnc143 := NB616_661.out
               have hnb144 := NB661_621.out
               have hnc144 := NB621_661.out
               have hnb145 := NB661_630.out
               have hnc145 := NB630_661.out
               have hcz146_0 : w133.cell? ⟨gb661, 0, none⟩ = some (.int .i64 0) := (blk_cell BK661.out 0).trans rfl
               have hcz146_1 : w133.cell? ⟨gb661, 1, none⟩ = some (.slice none 0 0) := (blk_cell BK661.out 1).trans rfl
               have hfz146_0 := blk_frozen BK661.out 0
               have hfz146_1 := blk_frozen BK661.out 1
               have hnb147 := NB616_601.out
               have hnc147 := NB601_616.out
               have hnb148 := NB616_621.out
               have hnc148 := NB621_616.out
               have hnb149 := NB616_630.out
               have hnc149 := NB630_616.out
               have hcz150_0 : w133.cell? ⟨gb616, 0, none⟩ = some (.int .i64 t611) := (blk_cell BK616.out 0).trans rfl
               have hcz150_1 : w133.cell? ⟨gb616, 1, none⟩ = some (.slice Ao32 t612.length co32) := (blk_cell BK616.out 1).trans rfl
               have hfz150_0 := blk_frozen BK616.out 0
               have hfz150_1 := blk_frozen BK616.out 1
               go_wp2_with (first | ((with_reducible refine gate_callee (f := 47) rfl ?_); refine goesL_ (some 104) rfl rfl Try.func47 (by kernel_rfl) rfl #[.agg #[.int .i64 t656, .slice Ao139 t657.length co139], .agg #[.int .i64 t611, .slice Ao32 t612.length co32]] rfl (by (try simp only [List.map_toArray, List.map_cons, List.map_nil]); first | done | rfl | (simp only [List.length_drop, List.length_take]; rfl)) ?_; (with_reducible refine (laws_eqEdge.calls kj76 t656 _ _ t657 t611 _ _ t612 true _ ?side1 ?side2 ?side3 ?side4 A140.out).mono ?_); (case side1 => refine (Kd.R_reads' (e := 9) (base := w.heap.size) (ok := fun k_ => (((((True ∧ some k_ ≠ (.slice Ao32 t612.length co32 : Value).ownBlock) ∧ some k_ ≠ (.slice Ao39 t642.length co39 : Value).ownBlock) ∧ some k_ ≠ (.slice Ao49 t626.length co49 : Value).ownBlock) ∧ some k_ ≠ (.slice Ao130 t650.length co130 : Value).ownBlock) ∧ some k_ ≠ (.slice Ao131 t653.length co131 : Value).ownBlock)) (n := t657.length) (c := co139) ?_).2.2; exact (by (with_reducible repeat (first | apply Kd.R_alloc | apply Kd.R_drewN | apply Kd.R_drew)); exact (Kd.R_mono (Kd.R_far (p := ⟨gb661, 1, none⟩) (Kd.R_far (p := ⟨gb661, 0, none⟩) (Kd.R_types HO659.out BK661.out (by decide)) (fun _ hk => hk.2) (.int .i64 t656)) (fun _ hk => hk.2) (.slice Ao139 t657.length co139)) (fun _ h_ => h_.1)))); (case side2 => exact (Kd.R_reads' HO659.out).2.1); (case side3 => refine (Kd.R_reads' (e := 9) (base := w.heap.size) (ok := fun k_ => ((((some k_ ≠ (.slice Ao39 t642.length co39 : Value).ownBlock ∧ some k_ ≠ (.slice Ao49 t626.length co49 : Value).ownBlock) ∧ some k_ ≠ (.slice Ao130 t650.length co130 : Value).ownBlock) ∧ some k_ ≠ (.slice Ao131 t653.length co131 : Value).ownBlock) ∧ some k_ ≠ (.slice Ao139 t657.length co139 : Value).ownBlock)) (n := t612.length) (c := co32) ?_).2.2; exact (by (with_reducible repeat (first | apply Kd.R_alloc | apply Kd.R_drewN | apply Kd.R_drew)); exact (Kd.R_mono (Kd.R_far (p := ⟨gb661, 1, none⟩) (Kd.R_far (p := ⟨gb661, 0, none⟩) (Kd.R_types HO_617001.out BK661.out (by decide)) (fun _ hk => hk.2) (.int .i64 t656)) (fun _ hk => hk.2) (.slice Ao139 t657.length co139)) (fun _ h_ => h_.1)))); (case side4 => exact (Kd.R_reads' HO_617001.out).2.1); rintro e w151 ⟨rfl, hb⟩; refine ⟨_, rfl, ?_⟩; have n0_ := Aside0.mk (Kd.R_below (by (with_reducible repeat (first | apply Kd.R_alloc | apply Kd.R_drewN | apply Kd.R_drew)); exact (Kd.R_mono (Kd.R_far (p := ⟨gb661, 1, none⟩) (Kd.R_far (p := ⟨gb661, 0, none⟩) (Kd.R_types HO_617001.out BK661.out (by decide)) (fun _ hk => hk.2) (.int .i64 t656)) (fun _ hk => hk.2) (.slice Ao139 t657.length co139)) (fun _ h_ => h_.1))) hb); have n1_ := Aside0.mk (Kd.R_below (by (with_reducible repeat (first | apply Kd.R_alloc | apply Kd.R_drewN | apply Kd.R_drew)); exact (Kd.R_mono (Kd.R_far (p := ⟨gb661, 1, none⟩) (Kd.R_far (p := ⟨gb661, 0, none⟩) (Kd.R_types HO_622001.out BK661.out (by decide)) (fun _ hk => hk.2) (.int .i64 t656)) (fun _ hk => hk.2) (.slice Ao139 t657.length co139)) (fun _ h_ => h_.1))) hb); have n2_ := Aside0.mk (Kd.R_below (by (with_reducible repeat (first | apply Kd.R_alloc | apply Kd.R_drewN | apply Kd.R_drew)); exact (Kd.R_mono (Kd.R_far (p := ⟨gb661, 1, none⟩) (Kd.R_far (p := ⟨gb661, 0, none⟩) (Kd.R_types HO_631001.out BK661.out (by decide)) (fun _ hk => hk.2) (.int .i64 t656)) (fun _ hk => hk.2) (.slice Ao139 t657.length co139)) (fun _ h_ => h_.1))) hb); have n3_ := Aside0.mk (Kd.R_below (by (with_reducible repeat (first | apply Kd.R_alloc | apply Kd.R_drewN | apply Kd.R_drew)); exact (Kd.R_mono (Kd.R_far (p := ⟨gb661, 1, none⟩) (Kd.R_far (p := ⟨gb661, 0, none⟩) (Kd.R_types HO652.out BK661.out (by decide)) (fun _ hk => hk.2) (.int .i64 t656)) (fun _ hk => hk.2) (.slice Ao139 t657.length co139)) (fun _ h_ => h_.1))) hb); have n4_ := Aside0.mk (Kd.R_below (by (with_reducible repeat (first | apply Kd.R_alloc | apply Kd.R_drewN | apply Kd.R_drew)); exact (Kd.R_mono (Kd.R_far (p := ⟨gb661, 1, none⟩) (Kd.R_far (p := ⟨gb661, 0, none⟩) (Kd.R_types HO655.out BK661.out (by decide)) (fun _ hk => hk.2) (.int .i64 t656)) (fun _ hk => hk.2) (.slice Ao139 t657.length co139)) (fun _ h_ => h_.1))) hb); have n5_ := Aside0.mk (Kd.R_below (by (with_reducible repeat (first | apply Kd.R_alloc | apply Kd.R_drewN | apply Kd.R_drew)); exact (Kd.R_mono (Kd.R_far (p := ⟨gb661, 1, none⟩) (Kd.R_far (p := ⟨gb661, 0, none⟩) (Kd.R_types HO659.out BK661.out (by decide)) (fun _ hk => hk.2) (.int .i64 t656)) (fun _ hk => hk.2) (.slice Ao139 t657.length co139)) (fun _ h_ => h_.1))) hb); have n6_ := Aside0.mk (blk_below (g := gb601) (o := .cells #[.int .i64 a0_0, .slice A0_1 l0_1.length c0_1] 60 (0, 0)) (by (with_reducible repeat (first | refine blk_drewN ?_ _ | refine blk_drew ?_ | refine blk_alloc ?_ _)); refine blk_far ?_ NB601_661.out _; (with_reducible repeat (first | refine blk_drewN ?_ _ | refine blk_drew ?_ | refine blk_alloc ?_ _)); refine blk_far ?_ NB601_661.out _; (with_reducible repeat (first | refine blk_drewN ?_ _ | refine blk_drew ?_ | refine blk_alloc ?_ _)); exact BK601.out) hb); have n7_ := Aside0.mk (blk_below (g := gb616) (o := .cells #[.int .i64 t611, .slice Ao32 t612.length co32] 63 (0, 0)) (by (with_reducible repeat (first | refine blk_drewN ?_ _ | refine blk_drew ?_ | refine blk_alloc ?_ _)); refine blk_far ?_ NB616_661.out _; (with_reducible repeat (first | refine blk_drewN ?_ _ | refine blk_drew ?_ | refine blk_alloc ?_ _)); refine blk_far ?_ NB616_661.out _; (with_reducible repeat (first | refine blk_drewN ?_ _ | refine blk_drew ?_ | refine blk_alloc ?_ _)); exact BK616.out) hb); have n8_ := Aside0.mk (blk_below (g := gb621) (o := .cells #[.int .i64 t617, .slice Ao39 t642.length co39] 63 (0, 0)) (by (with_reducible repeat (first | refine blk_drewN ?_ _ | refine blk_drew ?_ | refine blk_alloc ?_ _)); refine blk_far ?_ NB621_661.out _; (with_reducible repeat (first | refine blk_drewN ?_ _ | refine blk_drew ?_ | refine blk_alloc ?_ _)); refine blk_far ?_ NB621_661.out _; (with_reducible repeat (first | refine blk_drewN ?_ _ | refine blk_drew ?_ | refine blk_alloc ?_ _)); exact BK621.out) hb); have n9_ := Aside0.mk (blk_below (g := gb630) (o := .cells #[.int .i64 t625, .slice Ao49 t626.length co49] 63 (0, 0)) (by (with_reducible repeat (first | refine blk_drewN ?_ _ | refine blk_drew ?_ | refine blk_alloc ?_ _)); refine blk_far ?_ NB630_661.out _; (with_reducible repeat (first | refine blk_drewN ?_ _ | refine blk_drew ?_ | refine blk_alloc ?_ _)); refine blk_far ?_ NB630_661.out _; (with_reducible repeat (first | refine blk_drewN ?_ _ | refine blk_drew ?_ | refine blk_alloc ?_ _)); exact BK630.out) hb); have n10_ := Aside0.mk (blk_below (g := gb661) (o := .cells #[.int .i64 t656, .slice Ao139 t657.length co139] 63 (0, 0)) (by (with_reducible repeat (first | refine blk_drewN ?_ _ | refine blk_drew ?_ | refine blk_alloc ?_ _)); refine blk_put (cs := #[.int .i64 t656, .slice none 0 0]) ?_ 1 _ rfl; (with_reducible repeat (first | refine blk_drewN ?_ _ | refine blk_drew ?_ | refine blk_alloc ?_ _)); refine blk_put (cs := #[.int .i64 0, .slice none 0 0]) ?_ 0 _ rfl; (with_reducible repeat (first | refine blk_drewN ?_ _ | refine blk_drew ?_ | refine blk_alloc ?_ _)); exact BK661.out) hb); have n11_ := Aside0.mk (below_step (by repeat (first | (with_reducible first | exact HB.out | apply below_alloc | apply pw_below_drewN | apply below_drew1 | refine below_set ?_ GE601.out | refine below_set ?_ GE616.out | refine below_set ?_ GE621.out | refine below_set ?_ GE630.out | refine below_set ?_ GE661.out) | exact HB.out)) hb); clear HO_617001; clear HO_622001; clear HO_631001; clear HO652; clear HO655; clear HO659; clear BK601; clear BK616; clear BK621; clear BK630; clear BK661; clear HB; have HO_617001 := n0_; have HO_622001 := n1_; have HO_631001 := n2_; have HO652 := n3_; have HO655 := n4_; have HO659 := n5_; have BK601 := n6_; have BK616 := n7_; have BK621 := n8_; have BK630 := n9_; have BK661 := n10_; have HB := n11_; clear n0_ n1_ n2_ n3_ n4_ n5_ n6_ n7_ n8_ n9_ n10_ n11_; (try clear hb); (try clear hb2); (try clear hk); (try clear hi)))
               go_meet
               case rel => exact ⟨_, ((t660 != t615)), (by first | rfl | (simp; done) | (simp [*]; done)), H', ⟨by have := HJ18.out; have := HJ76.out; first | omega | exact Nat.le_refl _⟩, ⟨by (try simp only [hl622001_76]); (with_reducible repeat (first | apply Kd.R_alloc | apply Kd.R_drewN | apply Kd.R_drew)); exact Kd.R_mono HO_617001.out (fun _ hk => ⟨hk.1.1.1.1, ⟨hk.1.1.1.2, hk.2⟩⟩)⟩, ⟨by (try simp only [hl622001_76]); (with_reducible repeat (first | apply Kd.R_alloc | apply Kd.R_drewN | apply Kd.R_drew)); exact Kd.R_mono HO_622001.out (fun _ hk => ⟨hk.1.1.1.1, ⟨hk.1.1.1.2, hk.2⟩⟩)⟩, ⟨by (try simp only [hl622001_76]); (with_reducible repeat (first | apply Kd.R_alloc | apply Kd.R_drewN | apply Kd.R_drew)); exact Kd.R_mono HO_631001.out (fun _ hk => ⟨hk.1.1.1.1, ⟨hk.1.1.1.2, hk.2⟩⟩)⟩, ⟨by (try simp only [hl622001_76]); (with_reducible repeat (first | apply Kd.R_alloc | apply Kd.R_drewN | apply Kd.R_drew)); exact Kd.R_mono HO659.out (fun _ hk => ⟨hk.1.1.1.1.2, ⟨hk.1.1.1.2, hk.1.1.2⟩⟩)⟩, ⟨by (try simp only [hl622001_76]); (with_reducible repeat (first | refine blk_drewN ?_ _ | refine blk_drew ?_ | refine blk_alloc ?_ _)); exact BK601.out⟩, ⟨by (try simp only [hl622001_76]); (with_reducible repeat (first | refine blk_drewN ?_ _ | refine blk_drew ?_ | refine blk_alloc ?_ _)); exact BK616.out⟩, ⟨by (try simp only [hl622001_76]); (with_reducible repeat (first | refine blk_drewN ?_ _ | refine blk_drew ?_ | refine blk_alloc ?_ _)); exact BK621.out⟩, ⟨by (try simp only [hl622001_76]); (with_reducible repeat (first | refine blk_drewN ?_ _ | refine blk_drew ?_ | refine blk_alloc ?_ _)); exact BK630.out⟩, ⟨by (try simp only [hl622001_76]); (with_reducible repeat (first | refine blk_drewN ?_ _ | refine blk_drew ?_ | refine blk_alloc ?_ _)); exact BK661.out⟩, ⟨by repeat (first | (with_reducible first | exact HB.out | apply below_alloc | apply pw_below_drewN | apply below_drew1 | refine below_set ?_ GE601.out | refine below_set ?_ GE616.out | refine below_set ?_ GE621.out | refine below_set ?_ GE630.out | refine below_set ?_ GE661.out) | exact HB.out)⟩⟩
              ·replace c141 := Bool.eq_false_iff.mpr c141
               subst c141
               have H1 : (laws_FnExactEdgeAll.j2 kj76 t646 true t625 t647) = some r := by rw [if_neg (show ¬ (false = true) by decide)] at H; exact H
               clear H
               have H := H1
               clear H1
               have H' := Aside0.mk H
               clear H
               have hnb152 := NB661_601.out
               have hnc152 := NB601_661.out
               have hnb153 := NB661_616.out
               have hnc153 := NB616_661.out
               have hnb154 := NB661_621.out
               have hnc154 := NB621_661.out
               have hnb155 := NB661_630.out
               have hnc155 := NB630_661.out
               have hcz156_0 : w133.cell? ⟨gb661, 0, none⟩ = some (.int .i64 0) := (blk_cell BK661.out 0).trans rfl
               have hcz156_1 : w133.cell? ⟨gb661, 1, none⟩ = some (.slice none 0 0) := (blk_cell BK661.out 1).trans rfl
               have hfz156_0 := blk_frozen BK661.out 0
               have hfz156_1 := blk_frozen BK661.out 1
               have hnb157 := NB616_601.out
               have hnc157 := NB601_616.out
               have hnb158 := NB616_621.out
               have hnc158 := NB621_616.out
               have hnb159 := NB616_630.out
               have hnc159 := NB630_616.out
               have hcz160_0 : w133.cell? ⟨gb616, 0, none⟩ = some (.int .i64 t611) := (blk_cell BK616.out 0).trans rfl
               have hcz160_1 : w133.cell? ⟨gb616, 1, none⟩ = some (.slice Ao32 t612.length co32) := (blk_cell BK616.out 1).trans rfl
               have hfz160_0 := blk_frozen BK616.out 0
               have hfz160_1 := blk_frozen BK616.out 1
               go_wp2_with (first | ((with_reducible refine gate_callee (f := 47) rfl ?_); refine goesL_ (some 104) rfl rfl Try.func47 (by kernel_rfl) rfl #[.agg #[.int .i64 t656, .slice Ao139 t657.length co139], .agg #[.int .i64 t611, .slice Ao32 t612.length co32]] rfl (by (try simp only [List.map_toArray, List.map_cons, List.map_nil]); first | done | rfl | (simp only [List.length_drop, List.length_take]; rfl)) ?_; (with_reducible refine (laws_eqEdge.calls kj76 t656 _ _ t657 t611 _ _ t612 false _ ?side1 ?side2 ?side3 ?side4 A140.out).mono ?_); (case side1 => refine (Kd.R_reads' (e := 9) (base := w.heap.size) (ok := fun k_ => (((((True ∧ some k_ ≠ (.slice Ao32 t612.length co32 : Value).ownBlock) ∧ some k_ ≠ (.slice Ao39 t642.length co39 : Value).ownBlock) ∧ some k_ ≠ (.slice Ao49 t626.length co49 : Value).ownBlock) ∧ some k_ ≠ (.slice Ao130 t650.length co130 : Value).ownBlock) ∧ some k_ ≠ (.slice Ao131 t653.length co131 : Value).ownBlock)) (n := t657.length) (c := co139) ?_).2.2; exact (by (with_reducible repeat (first | apply Kd.R_alloc | apply Kd.R_drewN | apply Kd.R_drew)); exact (Kd.R_mono (Kd.R_far (p := ⟨gb661, 1, none⟩) (Kd.R_far (p := ⟨gb661, 0, none⟩) (Kd.R_types HO659.out BK661.out (by decide)) (fun _ hk => hk.2) (.int .i64 t656)) (fun _ hk => hk.2) (.slice Ao139 t657.length co139)) (fun _ h_ => h_.1)))); (case side2 => exact (Kd.R_reads' HO659.out).2.1); (case side3 => refine (Kd.R_reads' (e := 9) (base := w.heap.size) (ok := fun k_ => ((((some k_ ≠ (.slice Ao39 t642.length co39 : Value).ownBlock ∧ some k_ ≠ (.slice Ao49 t626.length co49 : Value).ownBlock) ∧ some k_ ≠ (.slice Ao130 t650.length co130 : Value).ownBlock) ∧ some k_ ≠ (.slice Ao131 t653.length co131 : Value).ownBlock) ∧ some k_ ≠ (.slice Ao139 t657.length co139 : Value).ownBlock)) (n := t612.length) (c := co32) ?_).2.2; exact (by (with_reducible repeat (first | apply Kd.R_alloc | apply Kd.R_drewN | apply Kd.R_drew)); exact (Kd.R_mono (Kd.R_far (p := ⟨gb661, 1, none⟩) (Kd.R_far (p := ⟨gb661, 0, none⟩) (Kd.R_types HO_617001.out BK661.out (by decide)) (fun _ hk => hk.2) (.int .i64 t656)) (fun _ hk => hk.2) (.slice Ao139 t657.length co139)) (fun _ h_ => h_.1)))); (case side4 => exact (Kd.R_reads' HO_617001.out).2.1); rintro e w161 ⟨rfl, hb⟩; refine ⟨_, rfl, ?_⟩; have n0_ := Aside0.mk (Kd.R_below (by (with_reducible repeat (first | apply Kd.R_alloc | apply Kd.R_drewN | apply Kd.R_drew)); exact (Kd.R_mono (Kd.R_far (p := ⟨gb661, 1, none⟩) (Kd.R_far (p := ⟨gb661, 0, none⟩) (Kd.R_types HO_617001.out BK661.out (by decide)) (fun _ hk => hk.2) (.int .i64 t656)) (fun _ hk => hk.2) (.slice Ao139 t657.length co139)) (fun _ h_ => h_.1))) hb); have n1_ := Aside0.mk (Kd.R_below (by (with_reducible repeat (first | apply Kd.R_alloc | apply Kd.R_drewN | apply Kd.R_drew)); exact (Kd.R_mono (Kd.R_far (p := ⟨gb661, 1, none⟩) (Kd.R_far (p := ⟨gb661, 0, none⟩) (Kd.R_types HO_622001.out BK661.out (by decide)) (fun _ hk => hk.2) (.int .i64 t656)) (fun _ hk => hk.2) (.slice Ao139 t657.length co139)) (fun _ h_ => h_.1))) hb); have n2_ := Aside0.mk (Kd.R_below (by (with_reducible repeat (first | apply Kd.R_alloc | apply Kd.R_drewN | apply Kd.R_drew)); exact (Kd.R_mono (Kd.R_far (p := ⟨gb661, 1, none⟩) (Kd.R_far (p := ⟨gb661, 0, none⟩) (Kd.R_types HO_631001.out BK661.out (by decide)) (fun _ hk => hk.2) (.int .i64 t656)) (fun _ hk => hk.2) (.slice Ao139 t657.length co139)) (fun _ h_ => h_.1))) hb); have n3_ := Aside0.mk (Kd.R_below (by (with_reducible repeat (first | apply Kd.R_alloc | apply Kd.R_drewN | apply Kd.R_drew)); exact (Kd.R_mono (Kd.R_far (p := ⟨gb661, 1, none⟩) (Kd.R_far (p := ⟨gb661, 0, none⟩) (Kd.R_types HO652.out BK661.out (by decide)) (fun _ hk => hk.2) (.int .i64 t656)) (fun _ hk => hk.2) (.slice Ao139 t657.length co139)) (fun _ h_ => h_.1))) hb); have n4_ := Aside0.mk (Kd.R_below (by (with_reducible repeat (first | apply Kd.R_alloc | apply Kd.R_drewN | apply Kd.R_drew)); exact (Kd.R_mono (Kd.R_far (p := ⟨gb661, 1, none⟩) (Kd.R_far (p := ⟨gb661, 0, none⟩) (Kd.R_types HO655.out BK661.out (by decide)) (fun _ hk => hk.2) (.int .i64 t656)) (fun _ hk => hk.2) (.slice Ao139 t657.length co139)) (fun _ h_ => h_.1))) hb); have n5_ := Aside0.mk (Kd.R_below (by (with_reducible repeat (first | apply Kd.R_alloc | apply Kd.R_drewN | apply Kd.R_drew)); exact (Kd.R_mono (Kd.R_far (p := ⟨gb661, 1, none⟩) (Kd.R_far (p := ⟨gb661, 0, none⟩) (Kd.R_types HO659.out BK661.out (by decide)) (fun _ hk => hk.2) (.int .i64 t656)) (fun _ hk => hk.2) (.slice Ao139 t657.length co139)) (fun _ h_ => h_.1))) hb); have n6_ := Aside0.mk (blk_below (g := gb601) (o := .cells #[.int .i64 a0_0, .slice A0_1 l0_1.length c0_1] 60 (0, 0)) (by (with_reducible repeat (first | refine blk_drewN ?_ _ | refine blk_drew ?_ | refine blk_alloc ?_ _)); refine blk_far ?_ NB601_661.out _; (with_reducible repeat (first | refine blk_drewN ?_ _ | refine blk_drew ?_ | refine blk_alloc ?_ _)); refine blk_far ?_ NB601_661.out _; (with_reducible repeat (first | refine blk_drewN ?_ _ | refine blk_drew ?_ | refine blk_alloc ?_ _)); exact BK601.out) hb); have n7_ := Aside0.mk (blk_below (g := gb616) (o := .cells #[.int .i64 t611, .slice Ao32 t612.length co32] 63 (0, 0)) (by (with_reducible repeat (first | refine blk_drewN ?_ _ | refine blk_drew ?_ | refine blk_alloc ?_ _)); refine blk_far ?_ NB616_661.out _; (with_reducible repeat (first | refine blk_drewN ?_ _ | refine blk_drew ?_ | refine blk_alloc ?_ _)); refine blk_far ?_ NB616_661.out _; (with_reducible repeat (first | refine blk_drewN ?_ _ | refine blk_drew ?_ | refine blk_alloc ?_ _)); exact BK616.out) hb); have n8_ := Aside0.mk (blk_below (g := gb621) (o := .cells #[.int .i64 t617, .slice Ao39 t642.length co39] 63 (0, 0)) (by (with_reducible repeat (first | refine blk_drewN ?_ _ | refine blk_drew ?_ | refine blk_alloc ?_ _)); refine blk_far ?_ NB621_661.out _; (with_reducible repeat (first | refine blk_drewN ?_ _ | refine blk_drew ?_ | refine blk_alloc ?_ _)); refine blk_far ?_ NB621_661.out _; (with_reducible repeat (first | refine blk_drewN ?_ _ | refine blk_drew ?_ | refine blk_alloc ?_ _)); exact BK621.out) hb); have n9_ := Aside0.mk (blk_below (g := gb630) (o := .cells #[.int .i64 t625, .slice Ao49 t626.length co49] 63 (0, 0)) (by (with_reducible repeat (first | refine blk_drewN ?_ _ | refine blk_drew ?_ | refine blk_alloc ?_ _)); refine blk_far ?_ NB630_661.out _; (with_reducible repeat (first | refine blk_drewN ?_ _ | refine blk_drew ?_ | refine blk_alloc ?_ _)); refine blk_far ?_ NB630_661.out _; (with_reducible repeat (first | refine blk_drewN ?_ _ | refine blk_drew ?_ | refine blk_alloc ?_ _)); exact BK630.out) hb); have n10_ := Aside0.mk (blk_below (g := gb661) (o := .cells #[.int .i64 t656, .slice Ao139 t657.length co139] 63 (0, 0)) (by (with_reducible repeat (first | refine blk_drewN ?_ _ | refine blk_drew ?_ | refine blk_alloc ?_ _)); refine blk_put (cs := #[.int .i64 t656, .slice none 0 0]) ?_ 1 _ rfl; (with_reducible repeat (first | refine blk_drewN ?_ _ | refine blk_drew ?_ | refine blk_alloc ?_ _)); refine blk_put (cs := #[.int .i64 0, .slice none 0 0]) ?_ 0 _ rfl; (with_reducible repeat (first | refine blk_drewN ?_ _ | refine blk_drew ?_ | refine blk_alloc ?_ _)); exact BK661.out) hb); have n11_ := Aside0.mk (below_step (by repeat (first | (with_reducible first | exact HB.out | apply below_alloc | apply pw_below_drewN | apply below_drew1 | refine below_set ?_ GE601.out | refine below_set ?_ GE616.out | refine below_set ?_ GE621.out | refine below_set ?_ GE630.out | refine below_set ?_ GE661.out) | exact HB.out)) hb); clear HO_617001; clear HO_622001; clear HO_631001; clear HO652; clear HO655; clear HO659; clear BK601; clear BK616; clear BK621; clear BK630; clear BK661; clear HB; have HO_617001 := n0_; have HO_622001 := n1_; have HO_631001 := n2_; have HO652 := n3_; have HO655 := n4_; have HO659 := n5_; have BK601 := n6_; have BK616 := n7_; have BK621 := n8_; have BK630 := n9_; have BK661 := n10_; have HB := n11_; clear n0_ n1_ n2_ n3_ n4_ n5_ n6_ n7_ n8_ n9_ n10_ n11_; (try clear hb); (try clear hb2); (try clear hk); (try clear hi)))
               go_meet
               case rel => exact ⟨_, (true), (by first | rfl | (simp; done) | (simp [*]; done)), H', ⟨by have := HJ18.out; have := HJ76.out; first | omega | exact Nat.le_refl _⟩, ⟨by (try simp only [hl622001_76]); (with_reducible repeat (first | apply Kd.R_alloc | apply Kd.R_drewN | apply Kd.R_drew)); exact Kd.R_mono HO_617001.out (fun _ hk => ⟨hk.1.1.1.1, ⟨hk.1.1.1.2, hk.2⟩⟩)⟩, ⟨by (try simp only [hl622001_76]); (with_reducible repeat (first | apply Kd.R_alloc | apply Kd.R_drewN | apply Kd.R_drew)); exact Kd.R_mono HO_622001.out (fun _ hk => ⟨hk.1.1.1.1, ⟨hk.1.1.1.2, hk.2⟩⟩)⟩, ⟨by (try simp only [hl622001_76]); (with_reducible repeat (first | apply Kd.R_alloc | apply Kd.R_drewN | apply Kd.R_drew)); exact Kd.R_mono HO_631001.out (fun _ hk => ⟨hk.1.1.1.1, ⟨hk.1.1.1.2, hk.2⟩⟩)⟩, ⟨by (try simp only [hl622001_76]); (with_reducible repeat (first | apply Kd.R_alloc | apply Kd.R_drewN | apply Kd.R_drew)); exact Kd.R_mono HO659.out (fun _ hk => ⟨hk.1.1.1.1.2, ⟨hk.1.1.1.2, hk.1.1.2⟩⟩)⟩, ⟨by (try simp only [hl622001_76]); (with_reducible repeat (first | refine blk_drewN ?_ _ | refine blk_drew ?_ | refine blk_alloc ?_ _)); exact BK601.out⟩, ⟨by (try simp only [hl622001_76]); (with_reducible repeat (first | refine blk_drewN ?_ _ | refine blk_drew ?_ | refine blk_alloc ?_ _)); exact BK616.out⟩, ⟨by (try simp only [hl622001_76]); (with_reducible repeat (first | refine blk_drewN ?_ _ | refine blk_drew ?_ | refine blk_alloc ?_ _)); exact BK621.out⟩, ⟨by (try simp only [hl622001_76]); (with_reducible repeat (first | refine blk_drewN ?_ _ | refine blk_drew ?_ | refine blk_alloc ?_ _)); exact BK630.out⟩, ⟨by (try simp only [hl622001_76]); (with_reducible repeat (first | refine blk_drewN ?_ _ | refine blk_drew ?_ | refine blk_alloc ?_ _)); exact BK661.out⟩, ⟨by repeat (first | (with_reducible first | exact HB.out | apply below_alloc | apply pw_below_drewN | apply below_drew1 | refine below_set ?_ GE601.out | refine below_set ?_ GE616.out | refine below_set ?_ GE621.out | refine below_set ?_ GE630.out | refine below_set ?_ GE661.out) | exact HB.out)⟩⟩
             case rest =>
              clear HC117
              try clear c1
              try clear p2
              try clear c3
              try clear c4
              try clear c4b0
              try clear c5
              try clear c6
              try clear c7
              try clear c8
              try clear c9
              try clear c9b0
              try clear c10
              try clear c11
              try clear c12
              try clear c13
              try clear c14
              try clear c15
              try clear c30
              try clear c36
              try clear c37
              try clear c41
              try clear c42
              try clear c43
              try clear c44
              try clear c45
              try clear c46
              try clear c47
              try clear c48
              try clear c49
              try clear c50
              try clear c51
              try clear c52
              try clear c53
              try clear c54
              try clear c56
              try clear c57
              try clear c60
              try clear c61
              try clear c62
              try clear c64
              try clear c65
              try clear c68
              try clear c71
              try clear c74
              try clear c84
              try clear c85
              try clear c86
              try clear c90
              try clear c90b0
              try clear c92
              try clear c93
              try clear c94
              try clear c95
              try clear c97
              try clear c98
              try clear c101
              try clear c102
              try clear c103
              try clear c105
              try clear c106
              try clear c109
              try clear c112
              try clear c112b0
              try clear c113
              try clear c113b0
              try clear c113b1
              try clear c118
              try clear c119
              try clear c120
              try clear c125
              try clear c126
              try clear c134
              try clear c135
              try clear c136
              try clear c137
              try clear c141
              try clear c142
              try clear c143
              try clear c144
              try clear c145
              try clear c147
              try clear c148
              try clear c149
              try clear c152
              try clear c153
              try clear c154
              try clear c155
              try clear c157
              try clear c158
              try clear c159
              try clear hcz104_0
              try clear hcz104_1
              try clear hcz107_0
              try clear hcz107_1
              try clear hcz11_0
              try clear hcz11_1
              try clear hcz121_0
              try clear hcz121_1
              try clear hcz123_0
              try clear hcz123_1
              try clear hcz127_0
              try clear hcz127_1
              try clear hcz138_0
              try clear hcz138_1
              try clear hcz146_0
              try clear hcz146_1
              try clear hcz150_0
              try clear hcz150_1
              try clear hcz156_0
              try clear hcz156_1
              try clear hcz160_0
              try clear hcz160_1
              try clear hcz21_0
              try clear hcz21_1
              try clear hcz23_0
              try clear hcz23_1
              try clear hcz31_0
              try clear hcz31_1
              try clear hcz33_0
              try clear hcz33_1
              try clear hcz38_0
              try clear hcz38_1
              try clear hcz41_0
              try clear hcz41_1
              try clear hcz48_0
              try clear hcz48_1
              try clear hcz55_0
              try clear hcz55_1
              try clear hcz58_0
              try clear hcz58_1
              try clear hcz63_0
              try clear hcz63_1
              try clear hcz66_0
              try clear hcz66_1
              try clear hcz6_0
              try clear hcz6_1
              try clear hcz87_0
              try clear hcz87_1
              try clear hcz96_0
              try clear hcz96_1
              try clear hcz99_0
              try clear hcz99_1
              try clear hfz104_0
              try clear hfz104_1
              try clear hfz107_0
              try clear hfz107_1
              try clear hfz11_0
              try clear hfz11_1
              try clear hfz121_0
              try clear hfz121_1
              try clear hfz123_0
              try clear hfz123_1
              try clear hfz127_0
              try clear hfz127_1
              try clear hfz138_0
              try clear hfz138_1
              try clear hfz146_0
              try clear hfz146_1
              try clear hfz150_0
              try clear hfz150_1
              try clear hfz156_0
              try clear hfz156_1
              try clear hfz160_0
              try clear hfz160_1
              try clear hfz21_0
              try clear hfz21_1
              try clear hfz23_0
              try clear hfz23_1
              try clear hfz31_0
              try clear hfz31_1
              try clear hfz33_0
              try clear hfz33_1
              try clear hfz38_0
              try clear hfz38_1
              try clear hfz41_0
              try clear hfz41_1
              try clear hfz48_0
              try clear hfz48_1
              try clear hfz55_0
              try clear hfz55_1
              try clear hfz58_0
              try clear hfz58_1
              try clear hfz63_0
              try clear hfz63_1
              try clear hfz66_0
              try clear hfz66_1
              try clear hfz6_0
              try clear hfz6_1
              try clear hfz87_0
              try clear hfz87_1
              try clear hfz96_0
              try clear hfz96_1
              try clear hfz99_0
              try clear hfz99_1
              try clear p2
              obtain ⟨kq, x110_116, rfl, HA, HJ116, HO_617001, HO_622001, HO_631001, HO_662001, BK601, BK616, BK621, BK630, BK661, HB⟩ := hcut
              have hl631001_116 := (Kd.R_reads' HO_631001.out).1
              rw [hl631001_116] at HO_631001
              (try simp only [hl631001_116])
              (try simp only [hl631001_116] at BK601)
              (try simp only [hl631001_116] at BK616)
              (try simp only [hl631001_116] at BK621)
              (try simp only [hl631001_116] at BK630)
              (try simp only [hl631001_116] at BK661)
              (try simp only [hl631001_116] at HO_617001)
              (try simp only [hl631001_116] at HO_622001)
              (try simp only [hl631001_116] at HO_662001)
              cases kq with
              | zero => exact absurd HA.out (by simp [laws_FnExactEdgeAll.j2])
              | succ kj116 =>
               have H := HA.out
               clear HA
               simp only [laws_FnExactEdgeAll.j2] at H
               by_cases c162 : x110_116 = true
               ·subst c162
                have H1 : (none) = some r := by rw [if_pos rfl] at H; exact H
                clear H
                have H := H1
                clear H1
                exact absurd H (by simp)
               ·replace c162 := Bool.eq_false_iff.mpr c162
                subst c162
                have H1 : ((laws_heldEdge.f kj116 t625 t647 1).bind fun t663 => (if t663 < 0 then (none) else (if t663 = t646 then (some true) else (none)))) = some r := by rw [if_neg (show ¬ (false = true) by decide)] at H; exact H
                clear H
                have H := H1
                clear H1
                replace H := Option.bind_eq_some_iff.mp H
                obtain ⟨t663, A1630, H⟩ := H
                replace H : (if t663 < 0 then (none) else (if t663 = t646 then (some true) else (none))) = some r := H
                have A163 := Aside0.mk A1630
                clear A1630
                by_cases c164 : t663 < 0
                ·rw [if_pos c164] at H
                 exact absurd H (by simp)
                ·rw [if_neg c164] at H
                 have c164b0 : decide (t663 < 0) = false := decide_eq_false c164
                 clear c164
                 by_cases c165 : t663 = t646
                 ·rw [if_pos c165] at H
                  have c165b0 : (t663 == t646) = true := beq_iff_eq.mpr c165
                  have c165b1 : (t663 != t646) = false := bne_eq_false_iff_eq.mpr c165
                  clear c165
                  obtain rfl := Option.some.inj H
                  have hnb166 := NB630_601.out
                  have hnc166 := NB601_630.out
                  have hnb167 := NB630_616.out
                  have hnc167 := NB616_630.out
                  have hnb168 := NB630_621.out
                  have hnc168 := NB621_630.out
                  have hnb169 := NB630_661.out
                  have hnc169 := NB661_630.out
                  have hcz170_0 : wc.cell? ⟨gb630, 0, none⟩ = some (.int .i64 t625) := (blk_cell BK630.out 0).trans rfl
                  have hcz170_1 : wc.cell? ⟨gb630, 1, none⟩ = some (.slice Ao49 t647.length co49) := (blk_cell BK630.out 1).trans rfl
                  have hfz170_0 := blk_frozen BK630.out 0
                  have hfz170_1 := blk_frozen BK630.out 1
                  go_wp2_with (first | ((with_reducible refine gate_callee (f := 51) rfl ?_); refine goesL_ (some 113) rfl rfl Try.func51 (by kernel_rfl) rfl #[.agg #[.int .i64 t625, .slice Ao49 t647.length co49], .int .i64 1] rfl (by (try simp only [List.map_toArray, List.map_cons, List.map_nil]); first | done | rfl | (simp only [List.length_drop, List.length_take]; rfl)) ?_; (with_reducible refine (laws_heldEdge.calls kj116 t625 _ _ t647 1 t663 _ ?side1 ?side2 A163.out).mono ?_); (case side1 => repeat (first | exact (Kd.R_reads' HO_631001.out).2.2 | (with_reducible refine Kd.C_alloc ?_ _) | (with_reducible refine Kd.C_drewN ?_ _) | (with_reducible refine Kd.C_drew ?_))); (case side2 => exact (Kd.R_reads' HO_631001.out).2.1); rintro e w171 ⟨rfl, hb⟩; refine ⟨_, rfl, ?_⟩; have n0_ := Aside0.mk (Kd.R_below (by (with_reducible repeat (first | apply Kd.R_alloc | apply Kd.R_drewN | apply Kd.R_drew)); exact HO_617001.out) hb); have n1_ := Aside0.mk (Kd.R_below (by (with_reducible repeat (first | apply Kd.R_alloc | apply Kd.R_drewN | apply Kd.R_drew)); exact HO_622001.out) hb); have n2_ := Aside0.mk (Kd.R_below (by (with_reducible repeat (first | apply Kd.R_alloc | apply Kd.R_drewN | apply Kd.R_drew)); exact HO_631001.out) hb); have n3_ := Aside0.mk (Kd.R_below (by (with_reducible repeat (first | apply Kd.R_alloc | apply Kd.R_drewN | apply Kd.R_drew)); exact HO_662001.out) hb); have n4_ := Aside0.mk (blk_below (g := gb601) (o := .cells #[.int .i64 a0_0, .slice A0_1 l0_1.length c0_1] 60 (0, 0)) (by (with_reducible repeat (first | refine blk_drewN ?_ _ | refine blk_drew ?_ | refine blk_alloc ?_ _)); exact BK601.out) hb); have n5_ := Aside0.mk (blk_below (g := gb616) (o := .cells #[.int .i64 t611, .slice Ao32 t612.length co32] 63 (0, 0)) (by (with_reducible repeat (first | refine blk_drewN ?_ _ | refine blk_drew ?_ | refine blk_alloc ?_ _)); exact BK616.out) hb); have n6_ := Aside0.mk (blk_below (g := gb621) (o := .cells #[.int .i64 t617, .slice Ao39 t642.length co39] 63 (0, 0)) (by (with_reducible repeat (first | refine blk_drewN ?_ _ | refine blk_drew ?_ | refine blk_alloc ?_ _)); exact BK621.out) hb); have n7_ := Aside0.mk (blk_below (g := gb630) (o := .cells #[.int .i64 t625, .slice Ao49 t647.length co49] 63 (0, 0)) (by (with_reducible repeat (first | refine blk_drewN ?_ _ | refine blk_drew ?_ | refine blk_alloc ?_ _)); exact BK630.out) hb); have n8_ := Aside0.mk (blk_below (g := gb661) (o := .cells #[.int .i64 t656, .slice Ao139 t657.length co139] 63 (0, 0)) (by (with_reducible repeat (first | refine blk_drewN ?_ _ | refine blk_drew ?_ | refine blk_alloc ?_ _)); exact BK661.out) hb); have n9_ := Aside0.mk (below_step (by repeat (first | (with_reducible first | exact HB.out | apply below_alloc | apply pw_below_drewN | apply below_drew1 | refine below_set ?_ GE601.out | refine below_set ?_ GE616.out | refine below_set ?_ GE621.out | refine below_set ?_ GE630.out | refine below_set ?_ GE661.out) | exact HB.out)) hb); clear HO_617001; clear HO_622001; clear HO_631001; clear HO_662001; clear BK601; clear BK616; clear BK621; clear BK630; clear BK661; clear HB; have HO_617001 := n0_; have HO_622001 := n1_; have HO_631001 := n2_; have HO_662001 := n3_; have BK601 := n4_; have BK616 := n5_; have BK621 := n6_; have BK630 := n7_; have BK661 := n8_; have HB := n9_; clear n0_ n1_ n2_ n3_ n4_ n5_ n6_ n7_ n8_ n9_; (try clear hb); (try clear hb2); (try clear hk); (try clear hi)))
                  go_ret
                  exact ⟨by first | rfl | (simp [errW_none, errW_some] <;> rfl) | (simp [*, errW_none, errW_some] <;> rfl), by repeat (first | (with_reducible first | exact HB.out | apply below_alloc | apply pw_below_drewN | apply below_drew1 | refine below_set ?_ GE601.out | refine below_set ?_ GE616.out | refine below_set ?_ GE621.out | refine below_set ?_ GE630.out | refine below_set ?_ GE661.out) | exact HB.out)⟩
                 ·rw [if_neg c165] at H
                  exact absurd H (by simp)
            ·rw [if_neg c113] at H
             exact absurd H (by simp)
       ·replace c74 := Bool.eq_false_iff.mpr c74
        subst c74
        have H1 : (none) = some r := by rw [if_neg (show ¬ (false = true) by decide)] at H; exact H
        clear H
        have H := H1
        clear H1
        exact absurd H (by simp)
      ·replace c71 := Bool.eq_false_iff.mpr c71
       subst c71
       have H1 : (none) = some r := by rw [if_neg (show ¬ (false = true) by decide)] at H; exact H
       clear H
       have H := H1
       clear H1
       exact absurd H (by simp)
end Go.Proofs.Ytcogimnpffnanaa.Q
end
