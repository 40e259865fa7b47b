-- Joined and shortened by a program of this session (wip/tools/shakecopy.py): the words of the print, texts of pp.sh and of mine.
import Derived.Test.YtcogimnpffnanaaKFnExactGetMsg2
section
-- Written by a program of this session (wip/tools/pp.sh) over the print of the kit.
namespace Go.Proofs.Ytcogimnpffnanaa.Q
open Go.RowKit Go.Proofs.YtcogimnpffnanaaW.PrintWords Go.Proofs.YtcogimnpffnanaaW.PrintLast Go.Proofs.YtcogimnpffnanaaW.PrintMore
attribute [local go_sem] max2_int min2_int max_two min_two max_three min_three max_four min_four   -- for this text's walks alone
set_option linter.unusedVariables false
set_option linter.unusedSimpArgs false

/-! ### impl_MsgOk: function 74 -/
def impl_MsgOk.j0 : Nat → Bool → Int → Int → Int → Int → ByteArray → Int → List ByteArray → Option (Bool)
 | 0, _, _, _, _, _, _, _, _ => none
 | k + 1, x31, x602000, x602001, x602002, x602003, x602004, x602005, x602006 => if x31 = true then (some false) else (if x602000 = 1 then (if x602005 = 0 then (some ((x602006.length : Int) == 0)) else (some false)) else (if x602000 = 2 then (if x602005 < x602003 then (some ((x602006.length : Int) == 0)) else (some false)) else (if x602000 = 3 then (if x602005 < x602003 then (some ((x602006.length : Int) == (wrap64 (x602003 - x602005)))) else (some false)) else (some false))))
def impl_MsgOk.f (k : Nat) (a0_0 : Int) (a0_1 : Int) (a0_2 : Int) (a0_3 : Int) (a0_4 : ByteArray) (a0_5 : Int) (l0_6 : List ByteArray) : Option (Bool) := (impl_isId.f a0_1).bind fun t602 => (if t602 = true then ((impl_isId.f a0_2).bind fun t603 => (if t603 = true then (if a0_1 = a0_2 then (impl_MsgOk.j0 k true a0_0 a0_1 a0_2 a0_3 a0_4 a0_5 l0_6) else ((impl_HeadOk.f a0_3 a0_4).bind fun t604 => (if t604 = true then ((impl_inRange.f a0_5 0 200).bind fun t605 => (impl_MsgOk.j0 k (!t605) a0_0 a0_1 a0_2 a0_3 a0_4 a0_5 l0_6)) else (impl_MsgOk.j0 k true a0_0 a0_1 a0_2 a0_3 a0_4 a0_5 l0_6)))) else (impl_MsgOk.j0 k true a0_0 a0_1 a0_2 a0_3 a0_4 a0_5 l0_6))) else (impl_MsgOk.j0 k true a0_0 a0_1 a0_2 a0_3 a0_4 a0_5 l0_6))
theorem impl_MsgOk.mono_l : ∀ k, (∀ y0 y1 y2 y3 y4 y5 y6 y7, LeO (impl_MsgOk.j0 k y0 y1 y2 y3 y4 y5 y6 y7) (impl_MsgOk.j0 (k + 1) y0 y1 y2 y3 y4 y5 y6 y7))
 | 0 => fun _ _ _ _ _ _ _ _ r h => by simp [impl_MsgOk.j0] at h
 | k + 1 => by
  have ih0 := impl_MsgOk.mono_l k
  ·intro y0 y1 y2 y3 y4 y5 y6 y7
   unfold impl_MsgOk.j0
   repeat' first
   | (with_reducible exact ih0 _ _ _ _ _ _ _ _)
   | (with_reducible exact LeO.refl _)
   | (with_reducible exact LeO.none _)
   | (with_reducible refine LeO.ite ?_ ?_)
   | (with_reducible refine LeO.bind ?_ (fun _ => ?_))
   | exact ih0 _ _ _ _ _ _ _ _
   | exact LeO.none _
   | refine LeO.ite ?_ ?_
   | refine LeO.bind ?_ (fun _ => ?_)
theorem impl_MsgOk.mono : ∀ a0 a1 a2 a3 a4 a5 a6 k, LeO (impl_MsgOk.f k a0 a1 a2 a3 a4 a5 a6) (impl_MsgOk.f (k + 1) a0 a1 a2 a3 a4 a5 a6) := by
 intro a0 a1 a2 a3 a4 a5 a6 k
 have ih0 := impl_MsgOk.mono_l k
 unfold impl_MsgOk.f
 repeat' first
   | (with_reducible exact ih0 _ _ _ _ _ _ _ _)
   | (with_reducible exact LeO.refl _)
   | (with_reducible exact LeO.none _)
   | (with_reducible refine LeO.ite ?_ ?_)
   | (with_reducible refine LeO.bind ?_ (fun _ => ?_))
   | exact ih0 _ _ _ _ _ _ _ _
   | exact LeO.none _
   | refine LeO.ite ?_ ?_
   | refine LeO.bind ?_ (fun _ => ?_)
set_option maxHeartbeats 8000000 in
set_option maxRecDepth 100000 in
theorem impl_MsgOk.calls (k : Nat) (a0_0 : Int) (a0_1 : Int) (a0_2 : Int) (a0_3 : Int) (a0_4 : ByteArray) (a0_5 : Int) (A0_6 : Option Addr) (c0_6 : Nat) (l0_6 : List ByteArray) (r : Bool) (w : World) (hr0_6 : Kd.C Kd.string w A0_6 l0_6.length l0_6) (hc0_6 : l0_6.length ≤ c0_6) (h : impl_MsgOk.f k a0_0 a0_1 a0_2 a0_3 a0_4 a0_5 l0_6 = some r) :
  Calls Try.prog 74 #[.agg #[.int .i64 a0_0, .int .i64 a0_1, .int .i64 a0_2, .int .i64 a0_3, .string a0_4, .int .i64 a0_5, .slice A0_6 l0_6.length c0_6]] w fun e w' => e = .returned (.bool r) ∧ Below w.heap.size w w' := by
 have hu33 := Try.underlying33
 have hu31 := Try.underlying31
 have HR0_6 := Aside0.mk hr0_6
 have HC0_6 := Aside0.mk hc0_6
 clear hr0_6 hc0_6
 have HB := Aside0.mk (Below.refl w.heap.size w)
 have H : ((impl_isId.f a0_1).bind fun t602 => (if t602 = true then ((impl_isId.f a0_2).bind fun t603 => (if t603 = true then (if a0_1 = a0_2 then (impl_MsgOk.j0 k true a0_0 a0_1 a0_2 a0_3 a0_4 a0_5 l0_6) else ((impl_HeadOk.f a0_3 a0_4).bind fun t604 => (if t604 = true then ((impl_inRange.f a0_5 0 200).bind fun t605 => (impl_MsgOk.j0 k (!t605) a0_0 a0_1 a0_2 a0_3 a0_4 a0_5 l0_6)) else (impl_MsgOk.j0 k true a0_0 a0_1 a0_2 a0_3 a0_4 a0_5 l0_6)))) else (impl_MsgOk.j0 k true a0_0 a0_1 a0_2 a0_3 a0_4 a0_5 l0_6))) else (impl_MsgOk.j0 k true a0_0 a0_1 a0_2 a0_3 a0_4 a0_5 l0_6))) = some r := h
 clear h
 have HC2 := Aside0.mk H
 clear H
 go_enter Try.func74, Try.ntmps74
 go_upto_region 1 with (first | ((with_reducible refine gate_dst (N := 1) rfl ?_); (try (refine gate_guard (by rfl) ?_; dsimp only)); refine box_event ?hg (N := 1) ?hd (cs := #[.int .i64 a0_0, .int .i64 a0_1, .int .i64 a0_2, .int .i64 a0_3, .string a0_4, .int .i64 a0_5, .slice A0_6 l0_6.length c0_6]) (t := 33) ?hr ?_; (case hd => rfl); (case hg => rfl); (case hr => first | (go_simp; done) | (go_simp; rfl)); intro gb601 hg w3 hbox hb; have n0_ := Aside0.mk (below_step (by repeat (first | (with_reducible first | exact HB.out | apply below_alloc | apply pw_below_drewN | apply below_drew1) | exact HB.out)) hb); have n1_ := Aside0.mk (hbox); have n2_ := Aside0.mk ((by rw [hg]; exact (below_size (by repeat (first | (with_reducible first | exact HB.out | apply below_alloc | apply pw_below_drewN | apply below_drew1) | exact HB.out))) : w.heap.size ≤ gb601)); have n3_ := Aside0.mk ((by rw [hg]; exact (below_size (by repeat (first | (with_reducible first | exact HB.out | apply below_alloc | apply pw_below_drewN | apply below_drew1) | exact HB.out))) : w.heap.size ≤ gb601)); clear HB; have HB := n0_; have BK601 := n1_; have GW601 := n2_; have GE601 := n3_; clear n0_ n1_ n2_ n3_; clear hb hbox hg))
 (try simp only [Act.put, List.setIfInBounds_toArray, List.set_cons_zero, List.set_cons_succ])
 go_cut [31] (fun v31 wc => ∃ (kq : Nat) (x31_1 : Bool), v31 = .bool x31_1 ∧ Aside0 (impl_MsgOk.j0 kq x31_1 a0_0 a0_1 a0_2 a0_3 a0_4 a0_5 l0_6 = some r) ∧ Aside0 (kq ≤ k) ∧ Aside0 (wc.heap[gb601]? = some (.cells #[.int .i64 a0_0, .int .i64 a0_1, .int .i64 a0_2, .int .i64 a0_3, .string a0_4, .int .i64 a0_5, (.slice A0_6 l0_6.length c0_6)] 33 (0, 0))) ∧ Aside0 (Below w.heap.size w wc))
 case first =>
  have H := HC2.out
  clear HC2
  replace H := Option.bind_eq_some_iff.mp H
  obtain ⟨t602, A40, H⟩ := H
  replace H : (if t602 = true then ((impl_isId.f a0_2).bind fun t603 => (if t603 = true then (if a0_1 = a0_2 then (impl_MsgOk.j0 k true a0_0 a0_1 a0_2 a0_3 a0_4 a0_5 l0_6) else ((impl_HeadOk.f a0_3 a0_4).bind fun t604 => (if t604 = true then ((impl_inRange.f a0_5 0 200).bind fun t605 => (impl_MsgOk.j0 k (!t605) a0_0 a0_1 a0_2 a0_3 a0_4 a0_5 l0_6)) else (impl_MsgOk.j0 k true a0_0 a0_1 a0_2 a0_3 a0_4 a0_5 l0_6)))) else (impl_MsgOk.j0 k true a0_0 a0_1 a0_2 a0_3 a0_4 a0_5 l0_6))) else (impl_MsgOk.j0 k true a0_0 a0_1 a0_2 a0_3 a0_4 a0_5 l0_6)) = some r := H
  have A4 := Aside0.mk A40
  clear A40
  by_cases c5 : t602 = true
  ·subst c5
   have H1 : ((impl_isId.f a0_2).bind fun t603 => (if t603 = true then (if a0_1 = a0_2 then (impl_MsgOk.j0 k true a0_0 a0_1 a0_2 a0_3 a0_4 a0_5 l0_6) else ((impl_HeadOk.f a0_3 a0_4).bind fun t604 => (if t604 = true then ((impl_inRange.f a0_5 0 200).bind fun t605 => (impl_MsgOk.j0 k (!t605) a0_0 a0_1 a0_2 a0_3 a0_4 a0_5 l0_6)) else (impl_MsgOk.j0 k true a0_0 a0_1 a0_2 a0_3 a0_4 a0_5 l0_6)))) else (impl_MsgOk.j0 k true a0_0 a0_1 a0_2 a0_3 a0_4 a0_5 l0_6))) = some r := by rw [if_pos rfl] at H; exact H
   clear H
   have H := H1
   clear H1
   replace H := Option.bind_eq_some_iff.mp H
   obtain ⟨t603, A60, H⟩ := H
   replace H : (if t603 = true then (if a0_1 = a0_2 then (impl_MsgOk.j0 k true a0_0 a0_1 a0_2 a0_3 a0_4 a0_5 l0_6) else ((impl_HeadOk.f a0_3 a0_4).bind fun t604 => (if t604 = true then ((impl_inRange.f a0_5 0 200).bind fun t605 => (impl_MsgOk.j0 k (!t605) a0_0 a0_1 a0_2 a0_3 a0_4 a0_5 l0_6)) else (impl_MsgOk.j0 k true a0_0 a0_1 a0_2 a0_3 a0_4 a0_5 l0_6)))) else (impl_MsgOk.j0 k true a0_0 a0_1 a0_2 a0_3 a0_4 a0_5 l0_6)) = some r := H
   have A6 := Aside0.mk A60
   clear A60
   by_cases c7 : t603 = true
   ·subst c7
    have H1 : (if a0_1 = a0_2 then (impl_MsgOk.j0 k true a0_0 a0_1 a0_2 a0_3 a0_4 a0_5 l0_6) else ((impl_HeadOk.f a0_3 a0_4).bind fun t604 => (if t604 = true then ((impl_inRange.f a0_5 0 200).bind fun t605 => (impl_MsgOk.j0 k (!t605) a0_0 a0_1 a0_2 a0_3 a0_4 a0_5 l0_6)) else (impl_MsgOk.j0 k true a0_0 a0_1 a0_2 a0_3 a0_4 a0_5 l0_6)))) = some r := by rw [if_pos rfl] at H; exact H
    clear H
    have H := H1
    clear H1
    by_cases c8 : a0_1 = a0_2
    ·rw [if_pos c8] at H
     have c8b0 : (a0_1 == a0_2) = true := beq_iff_eq.mpr c8
     have c8b1 : (a0_1 != a0_2) = false := bne_eq_false_iff_eq.mpr c8
     clear c8
     (first | rw [c8b0] | (simp only [i64_w, i32_w]; rw [c8b0]) | skip)
     have H' := Aside0.mk H
     clear H
     have hcz9_0 : w3.cell? ⟨gb601, 0, none⟩ = some (.int .i64 a0_0) := (blk_cell BK601.out 0).trans rfl
     have hcz9_1 : w3.cell? ⟨gb601, 1, none⟩ = some (.int .i64 a0_1) := (blk_cell BK601.out 1).trans rfl
     have hcz9_2 : w3.cell? ⟨gb601, 2, none⟩ = some (.int .i64 a0_2) := (blk_cell BK601.out 2).trans rfl
     have hcz9_3 : w3.cell? ⟨gb601, 3, none⟩ = some (.int .i64 a0_3) := (blk_cell BK601.out 3).trans rfl
     have hcz9_4 : w3.cell? ⟨gb601, 4, none⟩ = some (.string a0_4) := (blk_cell BK601.out 4).trans rfl
     have hcz9_5 : w3.cell? ⟨gb601, 5, none⟩ = some (.int .i64 a0_5) := (blk_cell BK601.out 5).trans rfl
     have hcz9_6 : w3.cell? ⟨gb601, 6, none⟩ = some (.slice A0_6 l0_6.length c0_6) := (blk_cell BK601.out 6).trans rfl
     have hfz9_0 := blk_frozen BK601.out 0
     have hfz9_1 := blk_frozen BK601.out 1
     have hfz9_2 := blk_frozen BK601.out 2
     have hfz9_3 := blk_frozen BK601.out 3
     have hfz9_4 := blk_frozen BK601.out 4
     have hfz9_5 := blk_frozen BK601.out 5
     have hfz9_6 := blk_frozen BK601.out 6
     go_wp2_with (first | ((with_reducible refine gate_callee (f := 141) rfl ?_); refine goesL_ (some 5) rfl rfl Try.func141 (by kernel_rfl) rfl #[.int .i64 a0_1] rfl (by (try simp only [List.map_toArray, List.map_cons, List.map_nil]); first | done | rfl | (simp only [List.length_drop, List.length_take]; rfl)) ?_; (with_reducible refine (impl_isId.calls a0_1 true _ A4.out).mono ?_); rintro e w' ⟨rfl, ⟨nd, rfl⟩⟩; refine ⟨_, rfl, ?_⟩) | (go_at_call 141; (with_reducible refine (impl_isId.calls a0_2 true _ A6.out).mono ?_); rintro e w' ⟨rfl, ⟨nd, rfl⟩⟩))
     go_meet
     case rel => exact ⟨_, (true), (by first | rfl | (simp; done) | (simp [*]; done)), H', ⟨by first | omega | exact Nat.le_refl _⟩, ⟨by (with_reducible repeat (first | refine blk_drewN ?_ _ | refine blk_drew ?_ | refine blk_alloc ?_ _)); exact BK601.out⟩, ⟨by repeat (first | (with_reducible first | exact HB.out | apply below_alloc | apply pw_below_drewN | apply below_drew1 | refine below_set ?_ GE601.out) | exact HB.out)⟩⟩
    ·rw [if_neg c8] at H
     have c8b0 : (a0_1 == a0_2) = false := beq_eq_false_iff_ne.mpr c8
     have c8b1 : (a0_1 != a0_2) = true := bne_iff_ne.mpr c8
     (first | rw [c8b0] | (simp only [i64_w, i32_w]; rw [c8b0]) | skip)
     replace H := Option.bind_eq_some_iff.mp H
     obtain ⟨t604, A100, H⟩ := H
     replace H : (if t604 = true then ((impl_inRange.f a0_5 0 200).bind fun t605 => (impl_MsgOk.j0 k (!t605) a0_0 a0_1 a0_2 a0_3 a0_4 a0_5 l0_6)) else (impl_MsgOk.j0 k true a0_0 a0_1 a0_2 a0_3 a0_4 a0_5 l0_6)) = some r := H
     have A10 := Aside0.mk A100
     clear A100
     by_cases c11 : t604 = true
     ·subst c11
      have H1 : ((impl_inRange.f a0_5 0 200).bind fun t605 => (impl_MsgOk.j0 k (!t605) a0_0 a0_1 a0_2 a0_3 a0_4 a0_5 l0_6)) = some r := by rw [if_pos rfl] at H; exact H
      clear H
      have H := H1
      clear H1
      replace H := Option.bind_eq_some_iff.mp H
      obtain ⟨t605, A120, H⟩ := H
      replace H : (impl_MsgOk.j0 k (!t605) a0_0 a0_1 a0_2 a0_3 a0_4 a0_5 l0_6) = some r := H
      have A12 := Aside0.mk A120
      clear A120
      have H' := Aside0.mk H
      clear H
      have hcz13_0 : w3.cell? ⟨gb601, 0, none⟩ = some (.int .i64 a0_0) := (blk_cell BK601.out 0).trans rfl
      have hcz13_1 : w3.cell? ⟨gb601, 1, none⟩ = some (.int .i64 a0_1) := (blk_cell BK601.out 1).trans rfl
      have hcz13_2 : w3.cell? ⟨gb601, 2, none⟩ = some (.int .i64 a0_2) := (blk_cell BK601.out 2).trans rfl
      have hcz13_3 : w3.cell? ⟨gb601, 3, none⟩ = some (.int .i64 a0_3) := (blk_cell BK601.out 3).trans rfl
      have hcz13_4 : w3.cell? ⟨gb601, 4, none⟩ = some (.string a0_4) := (blk_cell BK601.out 4).trans rfl
      have hcz13_5 : w3.cell? ⟨gb601, 5, none⟩ = some (.int .i64 a0_5) := (blk_cell BK601.out 5).trans rfl
      have hcz13_6 : w3.cell? ⟨gb601, 6, none⟩ = some (.slice A0_6 l0_6.length c0_6) := (blk_cell BK601.out 6).trans rfl
      have hfz13_0 := blk_frozen BK601.out 0
      have hfz13_1 := blk_frozen BK601.out 1
      have hfz13_2 := blk_frozen BK601.out 2
      have hfz13_3 := blk_frozen BK601.out 3
      have hfz13_4 := blk_frozen BK601.out 4
      have hfz13_5 := blk_frozen BK601.out 5
      have hfz13_6 := blk_frozen BK601.out 6
      go_wp2_with (first | ((with_reducible refine gate_callee (f := 141) rfl ?_); refine goesL_ (some 5) rfl rfl Try.func141 (by kernel_rfl) rfl #[.int .i64 a0_1] rfl (by (try simp only [List.map_toArray, List.map_cons, List.map_nil]); first | done | rfl | (simp only [List.length_drop, List.length_take]; rfl)) ?_; (with_reducible refine (impl_isId.calls a0_1 true _ A4.out).mono ?_); rintro e w' ⟨rfl, ⟨nd, rfl⟩⟩; refine ⟨_, rfl, ?_⟩) | (go_at_call 141; (with_reducible refine (impl_isId.calls a0_2 true _ A6.out).mono ?_); rintro e w' ⟨rfl, ⟨nd, rfl⟩⟩) | (go_at_call 119; (with_reducible refine (impl_HeadOk.calls a0_3 a0_4 true _ A10.out).mono ?_); rintro e w14 ⟨rfl, hb⟩; have n0_ := Aside0.mk (blk_below (g := gb601) (o := .cells #[.int .i64 a0_0, .int .i64 a0_1, .int .i64 a0_2, .int .i64 a0_3, .string a0_4, .int .i64 a0_5, .slice A0_6 l0_6.length c0_6] 33 (0, 0)) (by (with_reducible repeat (first | refine blk_drewN ?_ _ | refine blk_drew ?_ | refine blk_alloc ?_ _)); exact BK601.out) hb); have n1_ := Aside0.mk (below_step (by repeat (first | (with_reducible first | exact HB.out | apply below_alloc | apply pw_below_drewN | apply below_drew1 | refine below_set ?_ GE601.out) | exact HB.out)) hb); clear BK601; clear HB; have BK601 := n0_; have HB := n1_; clear n0_ n1_; (try clear hb); (try clear hb2); (try clear hk); (try clear hi); have hcz15_0 : w14.cell? ⟨gb601, 0, none⟩ = some (.int .i64 a0_0) := (blk_cell BK601.out 0).trans rfl; have hcz15_1 : w14.cell? ⟨gb601, 1, none⟩ = some (.int .i64 a0_1) := (blk_cell BK601.out 1).trans rfl; have hcz15_2 : w14.cell? ⟨gb601, 2, none⟩ = some (.int .i64 a0_2) := (blk_cell BK601.out 2).trans rfl; have hcz15_3 : w14.cell? ⟨gb601, 3, none⟩ = some (.int .i64 a0_3) := (blk_cell BK601.out 3).trans rfl; have hcz15_4 : w14.cell? ⟨gb601, 4, none⟩ = some (.string a0_4) := (blk_cell BK601.out 4).trans rfl; have hcz15_5 : w14.cell? ⟨gb601, 5, none⟩ = some (.int .i64 a0_5) := (blk_cell BK601.out 5).trans rfl; have hcz15_6 : w14.cell? ⟨gb601, 6, none⟩ = some (.slice A0_6 l0_6.length c0_6) := (blk_cell BK601.out 6).trans rfl; have hfz15_0 := blk_frozen BK601.out 0; have hfz15_1 := blk_frozen BK601.out 1; have hfz15_2 := blk_frozen BK601.out 2; have hfz15_3 := blk_frozen BK601.out 3; have hfz15_4 := blk_frozen BK601.out 4; have hfz15_5 := blk_frozen BK601.out 5; have hfz15_6 := blk_frozen BK601.out 6) | (go_at_call 93; (with_reducible refine (impl_inRange.calls a0_5 0 200 t605 _ A12.out).mono ?_); rintro e w' ⟨rfl, ⟨nd, rfl⟩⟩))
      go_meet
      case rel => exact ⟨_, (!t605), (by first | rfl | (simp; done) | (simp [*]; done)), H', ⟨by first | omega | exact Nat.le_refl _⟩, ⟨by (with_reducible repeat (first | refine blk_drewN ?_ _ | refine blk_drew ?_ | refine blk_alloc ?_ _)); exact BK601.out⟩, ⟨by repeat (first | (with_reducible first | exact HB.out | apply below_alloc | apply pw_below_drewN | apply below_drew1 | refine below_set ?_ GE601.out) | exact HB.out)⟩⟩
     ·replace c11 := Bool.eq_false_iff.mpr c11
      subst c11
      have H1 : (impl_MsgOk.j0 k true a0_0 a0_1 a0_2 a0_3 a0_4 a0_5 l0_6) = some r := by rw [if_neg (show ¬ (false = true) by decide)] at H; exact H
      clear H
      have H := H1
      clear H1
      have H' := Aside0.mk H
      clear H
      have hcz16_0 : w3.cell? ⟨gb601, 0, none⟩ = some (.int .i64 a0_0) := (blk_cell BK601.out 0).trans rfl
      have hcz16_1 : w3.cell? ⟨gb601, 1, none⟩ = some (.int .i64 a0_1) := (blk_cell BK601.out 1).trans rfl
      have hcz16_2 : w3.cell? ⟨gb601, 2, none⟩ = some (.int .i64 a0_2) := (blk_cell BK601.out 2).trans rfl
      have hcz16_3 : w3.cell? ⟨gb601, 3, none⟩ = some (.int .i64 a0_3) := (blk_cell BK601.out 3).trans rfl
      have hcz16_4 : w3.cell? ⟨gb601, 4, none⟩ = some (.string a0_4) := (blk_cell BK601.out 4).trans rfl
      have hcz16_5 : w3.cell? ⟨gb601, 5, none⟩ = some (.int .i64 a0_5) := (blk_cell BK601.out 5).trans rfl
      have hcz16_6 : w3.cell? ⟨gb601, 6, none⟩ = some (.slice A0_6 l0_6.length c0_6) := (blk_cell BK601.out 6).trans rfl
      have hfz16_0 := blk_frozen BK601.out 0
      have hfz16_1 := blk_frozen BK601.out 1
      have hfz16_2 := blk_frozen BK601.out 2
      have hfz16_3 := blk_frozen BK601.out 3
      have hfz16_4 := blk_frozen BK601.out 4
      have hfz16_5 := blk_frozen BK601.out 5
      have hfz16_6 := blk_frozen BK601.out 6
      go_wp2_with (first | ((with_reducible refine gate_callee (f := 141) rfl ?_); refine goesL_ (some 5) rfl rfl Try.func141 (by kernel_rfl) rfl #[.int .i64 a0_1] rfl (by (try simp only [List.map_toArray, List.map_cons, List.map_nil]); first | done | rfl | (simp only [List.length_drop, List.length_take]; rfl)) ?_; (with_reducible refine (impl_isId.calls a0_1 true _ A4.out).mono ?_); rintro e w' ⟨rfl, ⟨nd, rfl⟩⟩; refine ⟨_, rfl, ?_⟩) | (go_at_call 141; (with_reducible refine (impl_isId.calls a0_2 true _ A6.out).mono ?_); rintro e w' ⟨rfl, ⟨nd, rfl⟩⟩) | (go_at_call 119; (with_reducible refine (impl_HeadOk.calls a0_3 a0_4 false _ A10.out).mono ?_); rintro e w17 ⟨rfl, hb⟩; have n0_ := Aside0.mk (blk_below (g := gb601) (o := .cells #[.int .i64 a0_0, .int .i64 a0_1, .int .i64 a0_2, .int .i64 a0_3, .string a0_4, .int .i64 a0_5, .slice A0_6 l0_6.length c0_6] 33 (0, 0)) (by (with_reducible repeat (first | refine blk_drewN ?_ _ | refine blk_drew ?_ | refine blk_alloc ?_ _)); exact BK601.out) hb); have n1_ := Aside0.mk (below_step (by repeat (first | (with_reducible first | exact HB.out | apply below_alloc | apply pw_below_drewN | apply below_drew1 | refine below_set ?_ GE601.out) | exact HB.out)) hb); clear BK601; clear HB; have BK601 := n0_; have HB := n1_; clear n0_ n1_; (try clear hb); (try clear hb2); (try clear hk); (try clear hi)))
      go_meet
      case rel => exact ⟨_, (true), (by first | rfl | (simp; done) | (simp [*]; done)), H', ⟨by first | omega | exact Nat.le_refl _⟩, ⟨by (with_reducible repeat (first | refine blk_drewN ?_ _ | refine blk_drew ?_ | refine blk_alloc ?_ _)); exact BK601.out⟩, ⟨by repeat (first | (with_reducible first | exact HB.out | apply below_alloc | apply pw_below_drewN | apply below_drew1 | refine below_set ?_ GE601.out) | exact HB.out)⟩⟩
   ·replace c7 := Bool.eq_false_iff.mpr c7
    subst c7
    have H1 : (impl_MsgOk.j0 k true a0_0 a0_1 a0_2 a0_3 a0_4 a0_5 l0_6) = some r := by rw [if_neg (show ¬ (false = true) by decide)] at H; exact H
    clear H
    have H := H1
    clear H1
    have H' := Aside0.mk H
    clear H
    have hcz18_0 : w3.cell? ⟨gb601, 0, none⟩ = some (.int .i64 a0_0) := (blk_cell BK601.out 0).trans rfl
    have hcz18_1 : w3.cell? ⟨gb601, 1, none⟩ = some (.int .i64 a0_1) := (blk_cell BK601.out 1).trans rfl
    have hcz18_2 : w3.cell? ⟨gb601, 2, none⟩ = some (.int .i64 a0_2) := (blk_cell BK601.out 2).trans rfl
    have hcz18_3 : w3.cell? ⟨gb601, 3, none⟩ = some (.int .i64 a0_3) := (blk_cell BK601.out 3).trans rfl
    have hcz18_4 : w3.cell? ⟨gb601, 4, none⟩ = some (.string a0_4) := (blk_cell BK601.out 4).trans rfl
    have hcz18_5 : w3.cell? ⟨gb601, 5, none⟩ = some (.int .i64 a0_5) := (blk_cell BK601.out 5).trans rfl
    have hcz18_6 : w3.cell? ⟨gb601, 6, none⟩ = some (.slice A0_6 l0_6.length c0_6) := (blk_cell BK601.out 6).trans rfl
    have hfz18_0 := blk_frozen BK601.out 0
    have hfz18_1 := blk_frozen BK601.out 1
    have hfz18_2 := blk_frozen BK601.out 2
    have hfz18_3 := blk_frozen BK601.out 3
    have hfz18_4 := blk_frozen BK601.out 4
    have hfz18_5 := blk_frozen BK601.out 5
    have hfz18_6 := blk_frozen BK601.out 6
    go_wp2_with (first | ((with_reducible refine gate_callee (f := 141) rfl ?_); refine goesL_ (some 5) rfl rfl Try.func141 (by kernel_rfl) rfl #[.int .i64 a0_1] rfl (by (try simp only [List.map_toArray, List.map_cons, List.map_nil]); first | done | rfl | (simp only [List.length_drop, List.length_take]; rfl)) ?_; (with_reducible refine (impl_isId.calls a0_1 true _ A4.out).mono ?_); rintro e w' ⟨rfl, ⟨nd, rfl⟩⟩; refine ⟨_, rfl, ?_⟩) | (go_at_call 141; (with_reducible refine (impl_isId.calls a0_2 false _ A6.out).mono ?_); rintro e w' ⟨rfl, ⟨nd, rfl⟩⟩))
    go_meet
    case rel => exact ⟨_, (true), (by first | rfl | (simp; done) | (simp [*]; done)), H', ⟨by first | omega | exact Nat.le_refl _⟩, ⟨by (with_reducible repeat (first | refine blk_drewN ?_ _ | refine blk_drew ?_ | refine blk_alloc ?_ _)); exact BK601.out⟩, ⟨by repeat (first | (with_reducible first | exact HB.out | apply below_alloc | apply pw_below_drewN | apply below_drew1 | refine below_set ?_ GE601.out) | exact HB.out)⟩⟩
  ·replace c5 := Bool.eq_false_iff.mpr c5
   subst c5
   have H1 : (impl_MsgOk.j0 k true a0_0 a0_1 a0_2 a0_3 a0_4 a0_5 l0_6) = some r := by rw [if_neg (show ¬ (false = true) by decide)] at H; exact H
   clear H
   have H := H1
   clear H1
   have H' := Aside0.mk H
   clear H
   have hcz19_0 : w3.cell? ⟨gb601, 0, none⟩ = some (.int .i64 a0_0) := (blk_cell BK601.out 0).trans rfl
   have hcz19_1 : w3.cell? ⟨gb601, 1, none⟩ = some (.int .i64 a0_1) := (blk_cell BK601.out 1).trans rfl
   have hcz19_2 : w3.cell? ⟨gb601, 2, none⟩ = some (.int .i64 a0_2) := (blk_cell BK601.out 2).trans rfl
   have hcz19_3 : w3.cell? ⟨gb601, 3, none⟩ = some (.int .i64 a0_3) := (blk_cell BK601.out 3).trans rfl
   have hcz19_4 : w3.cell? ⟨gb601, 4, none⟩ = some (.string a0_4) := (blk_cell BK601.out 4).trans rfl
   have hcz19_5 : w3.cell? ⟨gb601, 5, none⟩ = some (.int .i64 a0_5) := (blk_cell BK601.out 5).trans rfl
   have hcz19_6 : w3.cell? ⟨gb601, 6, none⟩ = some (.slice A0_6 l0_6.length c0_6) := (blk_cell BK601.out 6).trans rfl
   have hfz19_0 := blk_frozen BK601.out 0
   have hfz19_1 := blk_frozen BK601.out 1
   have hfz19_2 := blk_frozen BK601.out 2
   have hfz19_3 := blk_frozen BK601.out 3
   have hfz19_4 := blk_frozen BK601.out 4
   have hfz19_5 := blk_frozen BK601.out 5
   have hfz19_6 := blk_frozen BK601.out 6
   go_wp2_with (first | ((with_reducible refine gate_callee (f := 141) rfl ?_); refine goesL_ (some 5) rfl rfl Try.func141 (by kernel_rfl) rfl #[.int .i64 a0_1] rfl (by (try simp only [List.map_toArray, List.map_cons, List.map_nil]); first | done | rfl | (simp only [List.length_drop, List.length_take]; rfl)) ?_; (with_reducible refine (impl_isId.calls a0_1 false _ A4.out).mono ?_); rintro e w' ⟨rfl, ⟨nd, rfl⟩⟩; refine ⟨_, rfl, ?_⟩))
   go_meet
   case rel => exact ⟨_, (true), (by first | rfl | (simp; done) | (simp [*]; done)), H', ⟨by first | omega | exact Nat.le_refl _⟩, ⟨by (with_reducible repeat (first | refine blk_drewN ?_ _ | refine blk_drew ?_ | refine blk_alloc ?_ _)); exact BK601.out⟩, ⟨by repeat (first | (with_reducible first | exact HB.out | apply below_alloc | apply pw_below_drewN | apply below_drew1 | refine below_set ?_ GE601.out) | exact HB.out)⟩⟩
 case rest =>
  clear HC2
  try clear c1
  try clear p2
  try clear c5
  try clear c7
  try clear c8
  try clear c8b0
  try clear c8b1
  try clear c11
  try clear c14
  try clear hcz13_0
  try clear hcz13_1
  try clear hcz13_2
  try clear hcz13_3
  try clear hcz13_4
  try clear hcz13_5
  try clear hcz13_6
  try clear hcz15_0
  try clear hcz15_1
  try clear hcz15_2
  try clear hcz15_3
  try clear hcz15_4
  try clear hcz15_5
  try clear hcz15_6
  try clear hcz16_0
  try clear hcz16_1
  try clear hcz16_2
  try clear hcz16_3
  try clear hcz16_4
  try clear hcz16_5
  try clear hcz16_6
  try clear hcz18_0
  try clear hcz18_1
  try clear hcz18_2
  try clear hcz18_3
  try clear hcz18_4
  try clear hcz18_5
  try clear hcz18_6
  try clear hcz19_0
  try clear hcz19_1
  try clear hcz19_2
  try clear hcz19_3
  try clear hcz19_4
  try clear hcz19_5
  try clear hcz19_6
  try clear hcz9_0
  try clear hcz9_1
  try clear hcz9_2
  try clear hcz9_3
  try clear hcz9_4
  try clear hcz9_5
  try clear hcz9_6
  try clear hfz13_0
  try clear hfz13_1
  try clear hfz13_2
  try clear hfz13_3
  try clear hfz13_4
  try clear hfz13_5
  try clear hfz13_6
  try clear hfz15_0
  try clear hfz15_1
  try clear hfz15_2
  try clear hfz15_3
  try clear hfz15_4
  try clear hfz15_5
  try clear hfz15_6
  try clear hfz16_0
  try clear hfz16_1
  try clear hfz16_2
  try clear hfz16_3
  try clear hfz16_4
  try clear hfz16_5
  try clear hfz16_6
  try clear hfz18_0
  try clear hfz18_1
  try clear hfz18_2
  try clear hfz18_3
  try clear hfz18_4
  try clear hfz18_5
  try clear hfz18_6
  try clear hfz19_0
  try clear hfz19_1
  try clear hfz19_2
  try clear hfz19_3
  try clear hfz19_4
  try clear hfz19_5
  try clear hfz19_6
  try clear hfz9_0
  try clear hfz9_1
  try clear hfz9_2
  try clear hfz9_3
  try clear hfz9_4
  try clear hfz9_5
  try clear hfz9_6
  obtain ⟨kq, x31_1, rfl, HA, HJ1, BK601, HB⟩ := hcut
  cases kq with
  | zero => exact absurd HA.out (by simp [impl_MsgOk.j0])
  | succ kj1 =>
   have H := HA.out
   clear HA
   simp only [impl_MsgOk.j0] at H
   by_cases c20 : x31_1 = true
   ·subst c20
    have H1 : (some false) = some r := by rw [if_pos rfl] at H; exact H
    clear H
    have H := H1
    clear H1
    obtain rfl := Option.some.inj H
    go_wp2
    go_ret
    exact ⟨by first | rfl | (simp [errW_none, errW_some] <;> rfl) | (simp [*, errW_none, errW_some] <;> rfl), by repeat (first | (with_reducible first | exact HB.out | apply below_alloc | apply pw_below_drewN | apply below_drew1 | refine below_set ?_ GE601.out) | exact HB.out)⟩
   ·replace c20 := Bool.eq_false_iff.mpr c20
    subst c20
    have H1 : (if a0_0 = 1 then (if a0_5 = 0 then (some ((l0_6.length : Int) == 0)) else (some false)) else (if a0_0 = 2 then (if a0_5 < a0_3 then (some ((l0_6.length : Int) == 0)) else (some false)) else (if a0_0 = 3 then (if a0_5 < a0_3 then (some ((l0_6.length : Int) == (wrap64 (a0_3 - a0_5)))) else (some false)) else (some false)))) = some r := by rw [if_neg (show ¬ (false = true) by decide)] at H; exact H
    clear H
    have H := H1
    clear H1
    by_cases c21 : a0_0 = 1
    ·rw [if_pos c21] at H
     have c21b0 : (a0_0 == 1) = true := beq_iff_eq.mpr c21
     have c21b1 : (a0_0 != 1) = false := bne_eq_false_iff_eq.mpr c21
     clear c21
     by_cases c22 : a0_5 = 0
     ·rw [if_pos c22] at H
      have c22b0 : (a0_5 == 0) = true := beq_iff_eq.mpr c22
      have c22b1 : (a0_5 != 0) = false := bne_eq_false_iff_eq.mpr c22
      clear c22
      obtain rfl := Option.some.inj H
      have hcz23_0 : wc.cell? ⟨gb601, 0, none⟩ = some (.int .i64 a0_0) := (blk_cell BK601.out 0).trans rfl
      have hcz23_1 : wc.cell? ⟨gb601, 1, none⟩ = some (.int .i64 a0_1) := (blk_cell BK601.out 1).trans rfl
      have hcz23_2 : wc.cell? ⟨gb601, 2, none⟩ = some (.int .i64 a0_2) := (blk_cell BK601.out 2).trans rfl
      have hcz23_3 : wc.cell? ⟨gb601, 3, none⟩ = some (.int .i64 a0_3) := (blk_cell BK601.out 3).trans rfl
      have hcz23_4 : wc.cell? ⟨gb601, 4, none⟩ = some (.string a0_4) := (blk_cell BK601.out 4).trans rfl
      have hcz23_5 : wc.cell? ⟨gb601, 5, none⟩ = some (.int .i64 a0_5) := (blk_cell BK601.out 5).trans rfl
      have hcz23_6 : wc.cell? ⟨gb601, 6, none⟩ = some (.slice A0_6 l0_6.length c0_6) := (blk_cell BK601.out 6).trans rfl
      have hfz23_0 := blk_frozen BK601.out 0
      have hfz23_1 := blk_frozen BK601.out 1
      have hfz23_2 := blk_frozen BK601.out 2
      have hfz23_3 := blk_frozen BK601.out 3
      have hfz23_4 := blk_frozen BK601.out 4
      have hfz23_5 := blk_frozen BK601.out 5
      have hfz23_6 := blk_frozen BK601.out 6
      go_wp2
      go_ret
      exact ⟨by first | rfl | (simp [errW_none, errW_some] <;> rfl) | (simp [*, errW_none, errW_some] <;> rfl), by repeat (first | (with_reducible first | exact HB.out | apply below_alloc | apply pw_below_drewN | apply below_drew1 | refine below_set ?_ GE601.out) | exact HB.out)⟩
     ·rw [if_neg c22] at H
      have c22b0 : (a0_5 == 0) = false := beq_eq_false_iff_ne.mpr c22
      have c22b1 : (a0_5 != 0) = true := bne_iff_ne.mpr c22
      obtain rfl := Option.some.inj H
      have hcz24_0 : wc.cell? ⟨gb601, 0, none⟩ = some (.int .i64 a0_0) := (blk_cell BK601.out 0).trans rfl
      have hcz24_1 : wc.cell? ⟨gb601, 1, none⟩ = some (.int .i64 a0_1) := (blk_cell BK601.out 1).trans rfl
      have hcz24_2 : wc.cell? ⟨gb601, 2, none⟩ = some (.int .i64 a0_2) := (blk_cell BK601.out 2).trans rfl
      have hcz24_3 : wc.cell? ⟨gb601, 3, none⟩ = some (.int .i64 a0_3) := (blk_cell BK601.out 3).trans rfl
      have hcz24_4 : wc.cell? ⟨gb601, 4, none⟩ = some (.string a0_4) := (blk_cell BK601.out 4).trans rfl
      have hcz24_5 : wc.cell? ⟨gb601, 5, none⟩ = some (.int .i64 a0_5) := (blk_cell BK601.out 5).trans rfl
      have hcz24_6 : wc.cell? ⟨gb601, 6, none⟩ = some (.slice A0_6 l0_6.length c0_6) := (blk_cell BK601.out 6).trans rfl
      have hfz24_0 := blk_frozen BK601.out 0
      have hfz24_1 := blk_frozen BK601.out 1
      have hfz24_2 := blk_frozen BK601.out 2
      have hfz24_3 := blk_frozen BK601.out 3
      have hfz24_4 := blk_frozen BK601.out 4
      have hfz24_5 := blk_frozen BK601.out 5
      have hfz24_6 := blk_frozen BK601.out 6
      go_wp2
      go_ret
      exact ⟨by first | rfl | (simp [errW_none, errW_some] <;> rfl) | (simp [*, errW_none, errW_some] <;> rfl), by repeat (first | (with_reducible first | exact HB.out | apply below_alloc | apply pw_below_drewN | apply below_drew1 | refine below_set ?_ GE601.out) | exact HB.out)⟩
    ·rw [if_neg c21] at H
     have c21b0 : (a0_0 == 1) = false := beq_eq_false_iff_ne.mpr c21
     have c21b1 : (a0_0 != 1) = true := bne_iff_ne.mpr c21
     by_cases c25 : a0_0 = 2
     ·rw [if_pos c25] at H
      have c25b0 : (a0_0 == 2) = true := beq_iff_eq.mpr c25
      have c25b1 : (a0_0 != 2) = false := bne_eq_false_iff_eq.mpr c25
      clear c25
      by_cases c26 : a0_5 < a0_3
      ·rw [if_pos c26] at H
       have c26b0 : decide (a0_5 < a0_3) = true := decide_eq_true c26
       clear c26
       obtain rfl := Option.some.inj H
       have hcz27_0 : wc.cell? ⟨gb601, 0, none⟩ = some (.int .i64 a0_0) := (blk_cell BK601.out 0).trans rfl
       have hcz27_1 : wc.cell? ⟨gb601, 1, none⟩ = some (.int .i64 a0_1) := (blk_cell BK601.out 1).trans rfl
       have hcz27_2 : wc.cell? ⟨gb601, 2, none⟩ = some (.int .i64 a0_2) := (blk_cell BK601.out 2).trans rfl
       have hcz27_3 : wc.cell? ⟨gb601, 3, none⟩ = some (.int .i64 a0_3) := (blk_cell BK601.out 3).trans rfl
       have hcz27_4 : wc.cell? ⟨gb601, 4, none⟩ = some (.string a0_4) := (blk_cell BK601.out 4).trans rfl
       have hcz27_5 : wc.cell? ⟨gb601, 5, none⟩ = some (.int .i64 a0_5) := (blk_cell BK601.out 5).trans rfl
       have hcz27_6 : wc.cell? ⟨gb601, 6, none⟩ = some (.slice A0_6 l0_6.length c0_6) := (blk_cell BK601.out 6).trans rfl
       have hfz27_0 := blk_frozen BK601.out 0
       have hfz27_1 := blk_frozen BK601.out 1
       have hfz27_2 := blk_frozen BK601.out 2
       have hfz27_3 := blk_frozen BK601.out 3
       have hfz27_4 := blk_frozen BK601.out 4
       have hfz27_5 := blk_frozen BK601.out 5
       have hfz27_6 := blk_frozen BK601.out 6
       go_wp2
       go_ret
       exact ⟨by first | rfl | (simp [errW_none, errW_some] <;> rfl) | (simp [*, errW_none, errW_some] <;> rfl), by repeat (first | (with_reducible first | exact HB.out | apply below_alloc | apply pw_below_drewN | apply below_drew1 | refine below_set ?_ GE601.out) | exact HB.out)⟩
      ·rw [if_neg c26] at H
       have c26b0 : decide (a0_5 < a0_3) = false := decide_eq_false c26
       clear c26
       obtain rfl := Option.some.inj H
       have hcz28_0 : wc.cell? ⟨gb601, 0, none⟩ = some (.int .i64 a0_0) := (blk_cell BK601.out 0).trans rfl
       have hcz28_1 : wc.cell? ⟨gb601, 1, none⟩ = some (.int .i64 a0_1) := (blk_cell BK601.out 1).trans rfl
       have hcz28_2 : wc.cell? ⟨gb601, 2, none⟩ = some (.int .i64 a0_2) := (blk_cell BK601.out 2).trans rfl
       have hcz28_3 : wc.cell? ⟨gb601, 3, none⟩ = some (.int .i64 a0_3) := (blk_cell BK601.out 3).trans rfl
       have hcz28_4 : wc.cell? ⟨gb601, 4, none⟩ = some (.string a0_4) := (blk_cell BK601.out 4).trans rfl
       have hcz28_5 : wc.cell? ⟨gb601, 5, none⟩ = some (.int .i64 a0_5) := (blk_cell BK601.out 5).trans rfl
       have hcz28_6 : wc.cell? ⟨gb601, 6, none⟩ = some (.slice A0_6 l0_6.length c0_6) := (blk_cell BK601.out 6).trans rfl
       have hfz28_0 := blk_frozen BK601.out 0
       have hfz28_1 := blk_frozen BK601.out 1
       have hfz28_2 := blk_frozen BK601.out 2
       have hfz28_3 := blk_frozen BK601.out 3
       have hfz28_4 := blk_frozen BK601.out 4
       have hfz28_5 := blk_frozen BK601.out 5
       have hfz28_6 := blk_frozen BK601.out 6
       go_wp2
       go_ret
       exact ⟨by first | rfl | (simp [errW_none, errW_some] <;> rfl) | (simp [*, errW_none, errW_some] <;> rfl), by repeat (first | (with_reducible first | exact HB.out | apply below_alloc | apply pw_below_drewN | apply below_drew1 | refine below_set ?_ GE601.out) | exact HB.out)⟩
     ·rw [if_neg c25] at H
      have c25b0 : (a0_0 == 2) = false := beq_eq_false_iff_ne.mpr c25
      have c25b1 : (a0_0 != 2) = true := bne_iff_ne.mpr c25
      by_cases c29 : a0_0 = 3
      ·rw [if_pos c29] at H
       have c29b0 : (a0_0 == 3) = true := beq_iff_eq.mpr c29
       have c29b1 : (a0_0 != 3) = false := bne_eq_false_iff_eq.mpr c29
       clear c29
       by_cases c30 : a0_5 < a0_3
       ·rw [if_pos c30] at H
        have c30b0 : decide (a0_5 < a0_3) = true := decide_eq_true c30
        clear c30
        obtain rfl := Option.some.inj H
        have hcz31_0 : wc.cell? ⟨gb601, 0, none⟩ = some (.int .i64 a0_0) := (blk_cell BK601.out 0).trans rfl
        have hcz31_1 : wc.cell? ⟨gb601, 1, none⟩ = some (.int .i64 a0_1) := (blk_cell BK601.out 1).trans rfl
        have hcz31_2 : wc.cell? ⟨gb601, 2, none⟩ = some (.int .i64 a0_2) := (blk_cell BK601.out 2).trans rfl
        have hcz31_3 : wc.cell? ⟨gb601, 3, none⟩ = some (.int .i64 a0_3) := (blk_cell BK601.out 3).trans rfl
        have hcz31_4 : wc.cell? ⟨gb601, 4, none⟩ = some (.string a0_4) := (blk_cell BK601.out 4).trans rfl
        have hcz31_5 : wc.cell? ⟨gb601, 5, none⟩ = some (.int .i64 a0_5) := (blk_cell BK601.out 5).trans rfl
        have hcz31_6 : wc.cell? ⟨gb601, 6, none⟩ = some (.slice A0_6 l0_6.length c0_6) := (blk_cell BK601.out 6).trans rfl
        have hfz31_0 := blk_frozen BK601.out 0
        have hfz31_1 := blk_frozen BK601.out 1
        have hfz31_2 := blk_frozen BK601.out 2
        have hfz31_3 := blk_frozen BK601.out 3
        have hfz31_4 := blk_frozen BK601.out 4
        have hfz31_5 := blk_frozen BK601.out 5
        have hfz31_6 := blk_frozen BK601.out 6
        go_wp2
        go_ret
        exact ⟨by first | rfl | (simp [errW_none, errW_some] <;> rfl) | (simp [*, errW_none, errW_some] <;> rfl), by repeat (first | (with_reducible first | exact HB.out | apply below_alloc | apply pw_below_drewN | apply below_drew1 | refine below_set ?_ GE601.out) | exact HB.out)⟩
       ·rw [if_neg c30] at H
        have c30b0 : decide (a0_5 < a0_3) = false := decide_eq_false c30
        clear c30
        obtain rfl := Option.some.inj H
        have hcz32_0 : wc.cell? ⟨gb601, 0, none⟩ = some (.int .i64 a0_0) := (blk_cell BK601.out 0).trans rfl
        have hcz32_1 : wc.cell? ⟨gb601, 1, none⟩ = some (.int .i64 a0_1) := (blk_cell BK601.out 1).trans rfl
        have hcz32_2 : wc.cell? ⟨gb601, 2, none⟩ = some (.int .i64 a0_2) := (blk_cell BK601.out 2).trans rfl
        have hcz32_3 : wc.cell? ⟨gb601, 3, none⟩ = some (.int .i64 a0_3) := (blk_cell BK601.out 3).trans rfl
        have hcz32_4 : wc.cell? ⟨gb601, 4, none⟩ = some (.string a0_4) := (blk_cell BK601.out 4).trans rfl
        have hcz32_5 : wc.cell? ⟨gb601, 5, none⟩ = some (.int .i64 a0_5) := (blk_cell BK601.out 5).trans rfl
        have hcz32_6 : wc.cell? ⟨gb601, 6, none⟩ = some (.slice A0_6 l0_6.length c0_6) := (blk_cell BK601.out 6).trans rfl
        have hfz32_0 := blk_frozen BK601.out 0
        have hfz32_1 := blk_frozen BK601.out 1
        have hfz32_2 := blk_frozen BK601.out 2
        have hfz32_3 := blk_frozen BK601.out 3
        have hfz32_4 := blk_frozen BK601.out 4
        have hfz32_5 := blk_frozen BK601.out 5
        have hfz32_6 := blk_frozen BK601.out 6
        go_wp2
        go_ret
        exact ⟨by first | rfl | (simp [errW_none, errW_some] <;> rfl) | (simp [*, errW_none, errW_some] <;> rfl), by repeat (first | (with_reducible first | exact HB.out | apply below_alloc | apply pw_below_drewN | apply below_drew1 | refine below_set ?_ GE601.out) | exact HB.out)⟩
      ·rw [if_neg c29] at H
       have c29b0 : (a0_0 == 3) = false := beq_eq_false_iff_ne.mpr c29
       have c29b1 : (a0_0 != 3) = true := bne_iff_ne.mpr c29
       obtain rfl := Option.some.inj H
       have hcz33_0 : wc.cell? ⟨gb601, 0, none⟩ = some (.int .i64 a0_0) := (blk_cell BK601.out 0).trans rfl
       have hcz33_1 : wc.cell? ⟨gb601, 1, none⟩ = some (.int .i64 a0_1) := (blk_cell BK601.out 1).trans rfl
       have hcz33_2 : wc.cell? ⟨gb601, 2, none⟩ = some (.int .i64 a0_2) := (blk_cell BK601.out 2).trans rfl
       have hcz33_3 : wc.cell? ⟨gb601, 3, none⟩ = some (.int .i64 a0_3) := (blk_cell BK601.out 3).trans rfl
       have hcz33_4 : wc.cell? ⟨gb601, 4, none⟩ = some (.string a0_4) := (blk_cell BK601.out 4).trans rfl
       have hcz33_5 : wc.cell? ⟨gb601, 5, none⟩ = some (.int .i64 a0_5) := (blk_cell BK601.out 5).trans rfl
       have hcz33_6 : wc.cell? ⟨gb601, 6, none⟩ = some (.slice A0_6 l0_6.length c0_6) := (blk_cell BK601.out 6).trans rfl
       have hfz33_0 := blk_frozen BK601.out 0
       have hfz33_1 := blk_frozen BK601.out 1
       have hfz33_2 := blk_frozen BK601.out 2
       have hfz33_3 := blk_frozen BK601.out 3
       have hfz33_4 := blk_frozen BK601.out 4
       have hfz33_5 := blk_frozen BK601.out 5
       have hfz33_6 := blk_frozen BK601.out 6
       go_wp2
       go_ret
       exact ⟨by first | rfl | (simp [errW_none, errW_some] <;> rfl) | (simp [*, errW_none, errW_some] <;> rfl), by repeat (first | (with_reducible first | exact HB.out | apply below_alloc | apply pw_below_drewN | apply below_drew1 | refine below_set ?_ GE601.out) | exact HB.out)⟩

end Go.Proofs.Ytcogimnpffnanaa.Q
end

section
/- The program's PutMsg: the bytes of a message that is right. -/
namespace Go.Proofs.Ytcogimnpffnanaa.Q
open Go.RowKit Go.Proofs.YtcogimnpffnanaaW.PrintWords Go.Proofs.YtcogimnpffnanaaW.PrintLast Go.Proofs.YtcogimnpffnanaaW.PrintMore
set_option linter.unusedVariables false
set_option linter.unusedSimpArgs false

def impl_PutMsg.f (k : Nat) (a0 a1 a2 a3 : Int) (a4 : ByteArray) (a5 : Int) (l6 : List ByteArray) : Option (List Int) := (impl_MsgOk.f k a0 a1 a2 a3 a4 a5 l6).bind fun t => (if t = true then ((impl_putNum.f k [] a0).bind fun b1 => ((impl_putNum.f k b1 a1).bind fun b2 => ((impl_putNum.f k b2 a2).bind fun b3 => ((impl_putNum.f k b3 a3).bind fun b4 => ((impl_putText.f k b4 a4).bind fun b5 => ((impl_putNum.f k b5 a5).bind fun b6 => (impl_putTexts.f k b6 l6))))))) else (some ([] : List Int)))
theorem impl_PutMsg.mono : ∀ a0 a1 a2 a3 a4 a5 a6 k, LeO (impl_PutMsg.f k a0 a1 a2 a3 a4 a5 a6) (impl_PutMsg.f (k + 1) a0 a1 a2 a3 a4 a5 a6) := by
 intro a0 a1 a2 a3 a4 a5 a6 k
 unfold impl_PutMsg.f
 repeat' first
   | (with_reducible exact impl_MsgOk.mono _ _ _ _ _ _ _ _)
   | (with_reducible exact impl_putNum.mono _ _ _)
   | (with_reducible exact impl_putText.mono _ _ _)
   | (with_reducible exact impl_putTexts.mono _ _ _)
   | (with_reducible exact LeO.refl _)
   | (with_reducible refine LeO.ite ?_ ?_)
   | (with_reducible refine LeO.bind ?_ (fun _ => ?_))
set_option maxRecDepth 100000 in
@[local go_sem] theorem run_index_m0 (v0 v1 v2 v3 : Int) (w : World) : (Instr.index 121 (.agg #[.int .i64 v0, .int .i64 v1, .int .i64 v2, .int .i64 v3]) (.int .i64 0)).run Try.prog w = .ok (.int .i64 v0) w := by
 simp [Instr.index, asIntOf, run_underlying Try.underlying121, go_sem]
set_option maxRecDepth 100000 in
@[local go_sem] theorem run_index_m1 (v0 v1 v2 v3 : Int) (w : World) : (Instr.index 121 (.agg #[.int .i64 v0, .int .i64 v1, .int .i64 v2, .int .i64 v3]) (.int .i64 1)).run Try.prog w = .ok (.int .i64 v1) w := by
 simp [Instr.index, asIntOf, run_underlying Try.underlying121, go_sem]
set_option maxRecDepth 100000 in
@[local go_sem] theorem run_index_m2 (v0 v1 v2 v3 : Int) (w : World) : (Instr.index 121 (.agg #[.int .i64 v0, .int .i64 v1, .int .i64 v2, .int .i64 v3]) (.int .i64 2)).run Try.prog w = .ok (.int .i64 v2) w := by
 simp [Instr.index, asIntOf, run_underlying Try.underlying121, go_sem]
set_option maxRecDepth 100000 in
@[local go_sem] theorem run_index_m3 (v0 v1 v2 v3 : Int) (w : World) : (Instr.index 121 (.agg #[.int .i64 v0, .int .i64 v1, .int .i64 v2, .int .i64 v3]) (.int .i64 3)).run Try.prog w = .ok (.int .i64 v3) w := by
 simp [Instr.index, asIntOf, run_underlying Try.underlying121, go_sem]
set_option maxHeartbeats 8000000 in
set_option maxRecDepth 100000 in
theorem impl_PutMsg.calls (k : Nat) (a0 a1 a2 a3 : Int) (a4 : ByteArray) (a5 : Int) (A6 : Option Addr) (c6 : Nat) (l6 : List ByteArray) (r : List Int) (w : World) (hr6 : Kd.C Kd.string w A6 l6.length l6) (hc6 : l6.length ≤ c6) (h : impl_PutMsg.f k a0 a1 a2 a3 a4 a5 l6 = some r) :
  Calls Try.prog 20 #[.agg #[.int .i64 a0, .int .i64 a1, .int .i64 a2, .int .i64 a3, .string a4, .int .i64 a5, .slice A6 l6.length c6]] w fun e w' => ∃ v0_ : Value, e = .returned (v0_) ∧ Kd.R (Kd.int .u8) 5 w' w.heap.size (fun _ => True) v0_ r ∧ Below w.heap.size w w' := by
 have hu33 := Try.underlying33
 have hu31 := Try.underlying31
 have HR := Aside0.mk hr6
 have HC := Aside0.mk hc6
 have HB := Aside0.mk (Below.refl w.heap.size w)
 unfold impl_PutMsg.f at h
 obtain ⟨t, hm, h⟩ := Option.bind_eq_some_iff.mp h
 have HM := Aside0.mk hm
 clear hm hr6 hc6
 cases t with
 | false =>
  rw [if_neg (by decide)] at h
  obtain rfl := Option.some.inj h
  go_enter Try.func20, Try.ntmps20
  go_wp2_with (first | ((with_reducible refine gate_dst (N := 1) rfl ?_); refine box_event ?hg (N := 1) ?hd (cs := #[.int .i64 a0, .int .i64 a1, .int .i64 a2, .int .i64 a3, .string a4, .int .i64 a5, .slice A6 l6.length c6]) (t := 33) ?hr ?_; (case hd => rfl); (case hg => rfl); (case hr => first | (go_simp; done) | (go_simp; rfl)); intro gb hg w1 hbox hb; have HG := Aside0.mk hg; have BK1 := Aside0.mk hbox; have HB1 := Aside0.mk (below_step HB.out hb); have HR1 := Aside0.mk (Kd.C_below HR.out hb); have hcz_0 : w1.cell? ⟨gb, 0, none⟩ = some (.int .i64 a0) := (blk_cell BK1.out 0).trans rfl; have hcz_1 : w1.cell? ⟨gb, 1, none⟩ = some (.int .i64 a1) := (blk_cell BK1.out 1).trans rfl; have hcz_2 : w1.cell? ⟨gb, 2, none⟩ = some (.int .i64 a2) := (blk_cell BK1.out 2).trans rfl; have hcz_3 : w1.cell? ⟨gb, 3, none⟩ = some (.int .i64 a3) := (blk_cell BK1.out 3).trans rfl; have hcz_4 : w1.cell? ⟨gb, 4, none⟩ = some (.string a4) := (blk_cell BK1.out 4).trans rfl; have hcz_5 : w1.cell? ⟨gb, 5, none⟩ = some (.int .i64 a5) := (blk_cell BK1.out 5).trans rfl; have hcz_6 : w1.cell? ⟨gb, 6, none⟩ = some (.slice A6 l6.length c6) := (blk_cell BK1.out 6).trans rfl; clear hg hbox hb) | ((with_reducible refine gate_callee (f := 74) rfl ?_); refine goesL_ (some 7) rfl rfl Try.func74 (by kernel_rfl) rfl #[.agg #[.int .i64 a0, .int .i64 a1, .int .i64 a2, .int .i64 a3, .string a4, .int .i64 a5, .slice A6 l6.length c6]] rfl (by (try simp only [List.map_toArray, List.map_cons, List.map_nil]); first | done | rfl) ?_; (with_reducible refine (impl_MsgOk.calls k a0 a1 a2 a3 a4 a5 A6 c6 l6 false w1 HR1.out HC.out HM.out).mono ?_); rintro e w2 ⟨rfl, hb⟩; refine ⟨_, rfl, ?_⟩; have BK2 := Aside0.mk (blk_below BK1.out hb); have HB2 := Aside0.mk (below_step HB1.out hb); clear hb; clear hcz_0 hcz_1 hcz_2 hcz_3 hcz_4 hcz_5 hcz_6; have hcy_0 : w2.cell? ⟨gb, 0, none⟩ = some (.int .i64 a0) := (blk_cell BK2.out 0).trans rfl; have hcy_1 : w2.cell? ⟨gb, 1, none⟩ = some (.int .i64 a1) := (blk_cell BK2.out 1).trans rfl; have hcy_2 : w2.cell? ⟨gb, 2, none⟩ = some (.int .i64 a2) := (blk_cell BK2.out 2).trans rfl; have hcy_3 : w2.cell? ⟨gb, 3, none⟩ = some (.int .i64 a3) := (blk_cell BK2.out 3).trans rfl))
  go_ret
  exact ⟨_, rfl, Kd.R_nil _ _ _ _ _, HB2.out⟩
 | true =>
  rw [if_pos rfl] at h
  obtain ⟨b1, h1, h⟩ := Option.bind_eq_some_iff.mp h
  have H1 := Aside0.mk h1
  obtain ⟨b2, h2, h⟩ := Option.bind_eq_some_iff.mp h
  have H2 := Aside0.mk h2
  obtain ⟨b3, h3, h⟩ := Option.bind_eq_some_iff.mp h
  have H3 := Aside0.mk h3
  obtain ⟨b4, h4, h⟩ := Option.bind_eq_some_iff.mp h
  have H4 := Aside0.mk h4
  obtain ⟨b5, h5, h⟩ := Option.bind_eq_some_iff.mp h
  have H5 := Aside0.mk h5
  obtain ⟨b6, h6, h⟩ := Option.bind_eq_some_iff.mp h
  have H6 := Aside0.mk h6
  have H7 := Aside0.mk h
  clear h h1 h2 h3 h4 h5 h6
  go_enter Try.func20, Try.ntmps20
  go_wp2_with (first | ((with_reducible refine gate_dst (N := 1) rfl ?_); refine box_event ?hg (N := 1) ?hd (cs := #[.int .i64 a0, .int .i64 a1, .int .i64 a2, .int .i64 a3, .string a4, .int .i64 a5, .slice A6 l6.length c6]) (t := 33) ?hr ?_; (case hd => rfl); (case hg => rfl); (case hr => first | (go_simp; done) | (go_simp; rfl)); intro gb hg w1 hbox hb; have HG := Aside0.mk hg; have BK1 := Aside0.mk hbox; have HB1 := Aside0.mk (below_step HB.out hb); have HR1 := Aside0.mk (Kd.C_below HR.out hb); have hcz_0 : w1.cell? ⟨gb, 0, none⟩ = some (.int .i64 a0) := (blk_cell BK1.out 0).trans rfl; have hcz_1 : w1.cell? ⟨gb, 1, none⟩ = some (.int .i64 a1) := (blk_cell BK1.out 1).trans rfl; have hcz_2 : w1.cell? ⟨gb, 2, none⟩ = some (.int .i64 a2) := (blk_cell BK1.out 2).trans rfl; have hcz_3 : w1.cell? ⟨gb, 3, none⟩ = some (.int .i64 a3) := (blk_cell BK1.out 3).trans rfl; have hcz_4 : w1.cell? ⟨gb, 4, none⟩ = some (.string a4) := (blk_cell BK1.out 4).trans rfl; have hcz_5 : w1.cell? ⟨gb, 5, none⟩ = some (.int .i64 a5) := (blk_cell BK1.out 5).trans rfl; have hcz_6 : w1.cell? ⟨gb, 6, none⟩ = some (.slice A6 l6.length c6) := (blk_cell BK1.out 6).trans rfl; clear hg hbox hb) | ((with_reducible refine gate_callee (f := 74) rfl ?_); refine goesL_ (some 7) rfl rfl Try.func74 (by kernel_rfl) rfl #[.agg #[.int .i64 a0, .int .i64 a1, .int .i64 a2, .int .i64 a3, .string a4, .int .i64 a5, .slice A6 l6.length c6]] rfl (by (try simp only [List.map_toArray, List.map_cons, List.map_nil]); first | done | rfl) ?_; (with_reducible refine (impl_MsgOk.calls k a0 a1 a2 a3 a4 a5 A6 c6 l6 true w1 HR1.out HC.out HM.out).mono ?_); rintro e w2 ⟨rfl, hb⟩; refine ⟨_, rfl, ?_⟩; have BK2 := Aside0.mk (blk_below BK1.out hb); have HB2 := Aside0.mk (below_step HB1.out hb); clear hb; clear hcz_0 hcz_1 hcz_2 hcz_3 hcz_4 hcz_5 hcz_6; have hcy_0 : w2.cell? ⟨gb, 0, none⟩ = some (.int .i64 a0) := (blk_cell BK2.out 0).trans rfl; have hcy_1 : w2.cell? ⟨gb, 1, none⟩ = some (.int .i64 a1) := (blk_cell BK2.out 1).trans rfl; have hcy_2 : w2.cell? ⟨gb, 2, none⟩ = some (.int .i64 a2) := (blk_cell BK2.out 2).trans rfl; have hcy_3 : w2.cell? ⟨gb, 3, none⟩ = some (.int .i64 a3) := (blk_cell BK2.out 3).trans rfl))
  clear hcy_0 hcy_1 hcy_2 hcy_3
  go_loopg [3, 5, 19] 4 (fun kq v3 v5 v19 w' => ∃ (j : Int) (xs : List Int), v19 = .int .i64 j ∧ ((kq = 4 ∧ j = 0 ∧ [] = xs) ∨ (kq = 3 ∧ j = 1 ∧ b1 = xs) ∨ (kq = 2 ∧ j = 2 ∧ b2 = xs) ∨ (kq = 1 ∧ j = 3 ∧ b3 = xs) ∨ (kq = 0 ∧ j = 4 ∧ b4 = xs)) ∧ Aside0 (Kd.R (Kd.int .u8) 5 w' w2.heap.size (fun k_ => w2.heap.size ≤ k_) v3 xs) ∧ Aside0 (Below w2.heap.size w2 w'))
  case atStart => exact ⟨0, [], rfl, .inl ⟨rfl, rfl, rfl⟩, ⟨Kd.R_nil _ _ _ _ _⟩, ⟨Below.refl _ _⟩⟩
  case round =>
   obtain ⟨j, xs, rfl, hj, HO, HBL⟩ := hrel
   rcases hj with ⟨rfl, rfl, rfl⟩ | ⟨rfl, rfl, rfl⟩ | ⟨rfl, rfl, rfl⟩ | ⟨rfl, rfl, rfl⟩ | ⟨rfl, rfl, rfl⟩
   ·go_wp2_with ((with_reducible refine gate_callee (f := 98) rfl ?_); refine goesL_ (some 24) rfl rfl Try.func98 (by kernel_rfl) rfl #[u3, .int .i64 a0] rfl (by (try simp only [List.map_toArray, List.map_cons, List.map_nil]); first | done | rfl) ?_; (with_reducible refine (impl_putNum.calls k (fun k_ => w2.heap.size ≤ k_) u3 [] a0 b1 w2 wr HBL.out HO.out H1.out).mono ?_); rintro e w5 ⟨u5, rfl, ho5, hb5, hk5⟩; refine ⟨_, rfl, ?_⟩; have HO5 := Aside0.mk (Kd.R_mono ho5 (fun k_ hk_ => Or.elim hk_ id (fun hn_ => Nat.le_trans HBL.out.size hn_))); have HB5 := Aside0.mk hb5; clear ho5 hb5 hk5)
    go_roundg 3
    case measure => omega
    case rel => exact ⟨1, b1, by first | rfl | (simp; done), .inr (.inl ⟨rfl, rfl, rfl⟩), HO5, HB5⟩
   ·go_wp2_with ((with_reducible refine gate_callee (f := 98) rfl ?_); refine goesL_ (some 24) rfl rfl Try.func98 (by kernel_rfl) rfl #[u3, .int .i64 a1] rfl (by (try simp only [List.map_toArray, List.map_cons, List.map_nil]); first | done | rfl) ?_; (with_reducible refine (impl_putNum.calls k (fun k_ => w2.heap.size ≤ k_) u3 b1 a1 b2 w2 wr HBL.out HO.out H2.out).mono ?_); rintro e w5 ⟨u5, rfl, ho5, hb5, hk5⟩; refine ⟨_, rfl, ?_⟩; have HO5 := Aside0.mk (Kd.R_mono ho5 (fun k_ hk_ => Or.elim hk_ id (fun hn_ => Nat.le_trans HBL.out.size hn_))); have HB5 := Aside0.mk hb5; clear ho5 hb5 hk5)
    go_roundg 2
    case measure => omega
    case rel => exact ⟨2, b2, by first | rfl | (simp; done), .inr (.inr (.inl ⟨rfl, rfl, rfl⟩)), HO5, HB5⟩
   ·go_wp2_with ((with_reducible refine gate_callee (f := 98) rfl ?_); refine goesL_ (some 24) rfl rfl Try.func98 (by kernel_rfl) rfl #[u3, .int .i64 a2] rfl (by (try simp only [List.map_toArray, List.map_cons, List.map_nil]); first | done | rfl) ?_; (with_reducible refine (impl_putNum.calls k (fun k_ => w2.heap.size ≤ k_) u3 b2 a2 b3 w2 wr HBL.out HO.out H3.out).mono ?_); rintro e w5 ⟨u5, rfl, ho5, hb5, hk5⟩; refine ⟨_, rfl, ?_⟩; have HO5 := Aside0.mk (Kd.R_mono ho5 (fun k_ hk_ => Or.elim hk_ id (fun hn_ => Nat.le_trans HBL.out.size hn_))); have HB5 := Aside0.mk hb5; clear ho5 hb5 hk5)
    go_roundg 1
    case measure => omega
    case rel => exact ⟨3, b3, by first | rfl | (simp; done), .inr (.inr (.inr (.inl ⟨rfl, rfl, rfl⟩))), HO5, HB5⟩
   ·go_wp2_with ((with_reducible refine gate_callee (f := 98) rfl ?_); refine goesL_ (some 24) rfl rfl Try.func98 (by kernel_rfl) rfl #[u3, .int .i64 a3] rfl (by (try simp only [List.map_toArray, List.map_cons, List.map_nil]); first | done | rfl) ?_; (with_reducible refine (impl_putNum.calls k (fun k_ => w2.heap.size ≤ k_) u3 b3 a3 b4 w2 wr HBL.out HO.out H4.out).mono ?_); rintro e w5 ⟨u5, rfl, ho5, hb5, hk5⟩; refine ⟨_, rfl, ?_⟩; have HO5 := Aside0.mk (Kd.R_mono ho5 (fun k_ hk_ => Or.elim hk_ id (fun hn_ => Nat.le_trans HBL.out.size hn_))); have HB5 := Aside0.mk hb5; clear ho5 hb5 hk5)
    go_roundg 0
    case measure => omega
    case rel => exact ⟨4, b4, by first | rfl | (simp; done), .inr (.inr (.inr (.inr (⟨rfl, rfl, rfl⟩)))), HO5, HB5⟩
   ·clear H1 H2 H3 H4
    go_wp2
    have HBD := Aside0.mk (below_drew1 HBL.out)
    have HOD := Aside0.mk (Kd.R_drew HO.out)
    refine start_ (n := 12) (S := fun w' => w'.cell? ⟨gb, 4, none⟩ = some (.string a4) ∧ w'.cell? ⟨gb, 5, none⟩ = some (.int .i64 a5) ∧ w'.cell? ⟨gb, 6, none⟩ = some (.slice A6 l6.length c6)) (ds := []) #[false, false, false, false, false, false, false, false, false, false, false, false] (by kernel_rfl) rfl rfl ⟨(blk_cell (blk_below BK2.out HBD.out) 4).trans rfl, (blk_cell (blk_below BK2.out HBD.out) 5).trans rfl, (blk_cell (blk_below BK2.out HBD.out) 6).trans rfl⟩ (fun hHeld => ?_)
    refine pure_ (i := 0) (N := some 26) (v := ?_) (a' := ?_) #[true, false, false, false, false, false, false, false, false, false, false, false] rfl rfl (by kernel_rfl) (fun _ _ _ h => h) (Or.inl ⟨by rfl, ?_⟩) ?_ ?_
    rotate_left
    ·intro w'
     go_simp
     with_reducible rfl
    rotate_left
    ·simp only [Act.put, List.setIfInBounds_toArray, List.set_cons_zero, List.set_cons_succ, i64_w, i32_w]
     rfl
    refine pure_ (i := 1) (N := some 27) (v := ?_) (a' := ?_) #[true, true, false, false, false, false, false, false, false, false, false, false] rfl rfl (by kernel_rfl) (fun _ _ _ h => h) (Or.inl ⟨by rfl, ?_⟩) ?_ ?_
    rotate_left
    ·intro w'
     go_simp
     with_reducible rfl
    rotate_left
    ·simp only [Act.put, List.setIfInBounds_toArray, List.set_cons_zero, List.set_cons_succ, i64_w, i32_w]
     rfl
    refine pure_ (i := 2) (N := some 28) (v := ?_) (a' := ?_) #[true, true, true, false, false, false, false, false, false, false, false, false] rfl rfl (by kernel_rfl) (fun _ _ _ h => h) (Or.inl ⟨by rfl, ?_⟩) ?_ ?_
    rotate_left
    ·intro w'
     go_simp
     with_reducible rfl
    rotate_left
    ·simp only [Act.put, List.setIfInBounds_toArray, List.set_cons_zero, List.set_cons_succ, i64_w, i32_w]
     rfl
    refine pure_ (i := 5) (N := some 31) (v := ?_) (a' := ?_) #[true, true, true, false, false, true, false, false, false, false, false, false] rfl rfl (by kernel_rfl) (fun _ _ _ h => h) (Or.inl ⟨by rfl, ?_⟩) ?_ ?_
    rotate_left
    ·intro w'
     go_simp
     with_reducible rfl
    rotate_left
    ·simp only [Act.put, List.setIfInBounds_toArray, List.set_cons_zero, List.set_cons_succ, i64_w, i32_w]
     rfl
    refine pure_ (i := 8) (N := some 34) (v := ?_) (a' := ?_) #[true, true, true, false, false, true, false, false, true, false, false, false] rfl rfl (by kernel_rfl) (fun _ _ _ h => h) (Or.inl ⟨by rfl, ?_⟩) ?_ ?_
    rotate_left
    ·intro w'
     go_simp
     with_reducible rfl
    rotate_left
    ·simp only [Act.put, List.setIfInBounds_toArray, List.set_cons_zero, List.set_cons_succ, i64_w, i32_w]
     rfl
    refine take_ (i := 3) (N := some 29) (v := ?_) (a' := ?_) #[true, true, true, true, false, true, false, false, true, false, false, false] rfl rfl (by kernel_rfl) (fun _ _ _ h => h) (Or.inl ⟨by rfl, ?_⟩) hHeld ?_ ?_
    rotate_left
    ·rintro w' ⟨s0, s1, s2⟩
     go_simp
     with_reducible rfl
    rotate_left
    ·simp only [Act.put, List.setIfInBounds_toArray, List.set_cons_zero, List.set_cons_succ, i64_w, i32_w]
     rfl
    refine take_ (i := 6) (N := some 32) (v := ?_) (a' := ?_) #[true, true, true, true, false, true, true, false, true, false, false, false] rfl rfl (by kernel_rfl) (fun _ _ _ h => h) (Or.inl ⟨by rfl, ?_⟩) hHeld ?_ ?_
    rotate_left
    ·rintro w' ⟨s0, s1, s2⟩
     go_simp
     with_reducible rfl
    rotate_left
    ·simp only [Act.put, List.setIfInBounds_toArray, List.set_cons_zero, List.set_cons_succ, i64_w, i32_w]
     rfl
    refine take_ (i := 9) (N := some 35) (v := ?_) (a' := ?_) #[true, true, true, true, false, true, true, false, true, true, false, false] rfl rfl (by kernel_rfl) (fun _ _ _ h => h) (Or.inl ⟨by rfl, ?_⟩) hHeld ?_ ?_
    rotate_left
    ·rintro w' ⟨s0, s1, s2⟩
     go_simp
     with_reducible rfl
    rotate_left
    ·simp only [Act.put, List.setIfInBounds_toArray, List.set_cons_zero, List.set_cons_succ, i64_w, i32_w]
     rfl
    refine one_ (i := 4) (N := some 30) #[true, true, true, true, true, true, true, false, true, true, false, false] rfl rfl (by kernel_rfl) (by decide) (fun K hK => ?_)
    refine goes_ Try.func100 (by kernel_rfl) rfl #[u3, .string a4] (by rfl) rfl rfl (by simp only [List.map_toArray, List.map_cons, List.map_nil]; rfl) ?_
    with_reducible refine (impl_putText.calls k (fun k_ => w2.heap.size ≤ k_) u3 b4 a4 b5 w2 _ HBD.out HOD.out H5.out).mono ?_
    rintro e w6 ⟨u6, rfl, ho, hb, hk⟩
    refine ⟨_, rfl, ?_⟩
    have HO6 := Aside0.mk (Kd.R_mono ho (fun k_ hk_ => Or.elim hk_ id (fun hn_ => Nat.le_trans HBD.out.size hn_)))
    have HB6 := Aside0.mk hb
    clear ho hb hk
    refine hK.out _ _ ⟨(blk_cell (blk_below BK2.out HB6.out) 4).trans rfl, (blk_cell (blk_below BK2.out HB6.out) 5).trans rfl, (blk_cell (blk_below BK2.out HB6.out) 6).trans rfl⟩ (fun hHeld => ?_)
    clear hK K
    refine norm_ (a' := ?_) ?_ ?_
    rotate_left
    ·show Act.put _ (some 30) _ = _
     simp only [Act.put, List.setIfInBounds_toArray, List.set_cons_zero, List.set_cons_succ, i64_w, i32_w]
     rfl
    refine one_ (i := 7) (N := some 33) #[true, true, true, true, true, true, true, true, true, true, false, false] rfl rfl (by kernel_rfl) (by decide) (fun K hK => ?_)
    refine goes_ Try.func98 (by kernel_rfl) rfl #[u6, .int .i64 a5] (by rfl) rfl rfl (by simp only [List.map_toArray, List.map_cons, List.map_nil]; rfl) ?_
    with_reducible refine (impl_putNum.calls k (fun k_ => w2.heap.size ≤ k_) u6 b5 a5 b6 w2 _ HB6.out HO6.out H6.out).mono ?_
    rintro e w7 ⟨u7, rfl, ho, hb, hk⟩
    refine ⟨_, rfl, ?_⟩
    have HO7 := Aside0.mk (Kd.R_mono ho (fun k_ hk_ => Or.elim hk_ id (fun hn_ => Nat.le_trans HB6.out.size hn_)))
    have HB7 := Aside0.mk hb
    clear ho hb hk
    refine hK.out _ _ ⟨(blk_cell (blk_below BK2.out HB7.out) 4).trans rfl, (blk_cell (blk_below BK2.out HB7.out) 5).trans rfl, (blk_cell (blk_below BK2.out HB7.out) 6).trans rfl⟩ (fun hHeld => ?_)
    clear hK K
    refine norm_ (a' := ?_) ?_ ?_
    rotate_left
    ·show Act.put _ (some 33) _ = _
     simp only [Act.put, List.setIfInBounds_toArray, List.set_cons_zero, List.set_cons_succ, i64_w, i32_w]
     rfl
    refine one_ (i := 10) (N := some 36) #[true, true, true, true, true, true, true, true, true, true, true, false] rfl rfl (by kernel_rfl) (by decide) (fun K hK => ?_)
    refine goes_ Try.func99 (by kernel_rfl) rfl #[u7, .slice A6 l6.length c6] (by rfl) rfl rfl (by simp only [List.map_toArray, List.map_cons, List.map_nil]; rfl) ?_
    with_reducible refine (impl_putTexts.calls k (fun k_ => w2.heap.size ≤ k_) u7 b6 A6 c6 l6 r w2 _ HB7.out HO7.out (Kd.C_kept_came Kd.heap_string (Kd.C_below HR.out HB2.out) HB7.out (fun _ h_ => h_)) HC.out H7.out).mono ?_
    rintro e w8 ⟨u8, rfl, ho, hb, hk⟩
    refine ⟨_, rfl, ?_⟩
    have HO8 := Aside0.mk (Kd.R_mono ho (fun k_ hk_ => Or.elim hk_ id (fun hn_ => Nat.le_trans HB7.out.size hn_)))
    have HB8 := Aside0.mk hb
    clear ho hb hk
    refine hK.out _ _ ⟨(blk_cell (blk_below BK2.out HB8.out) 4).trans rfl, (blk_cell (blk_below BK2.out HB8.out) 5).trans rfl, (blk_cell (blk_below BK2.out HB8.out) 6).trans rfl⟩ (fun hHeld => ?_)
    clear hK K
    refine norm_ (a' := ?_) ?_ ?_
    rotate_left
    ·show Act.put _ (some 36) _ = _
     simp only [Act.put, List.setIfInBounds_toArray, List.set_cons_zero, List.set_cons_succ, i64_w, i32_w]
     rfl
    refine pure_ (i := 11) (N := some 2) (v := ?_) (a' := ?_) #[true, true, true, true, true, true, true, true, true, true, true, true] rfl rfl (by kernel_rfl) (fun _ _ _ h => h) (Or.inl ⟨by rfl, ?_⟩) ?_ ?_
    rotate_left
    ·intro w'
     go_simp
     with_reducible rfl
    rotate_left
    ·simp only [Act.put, List.setIfInBounds_toArray, List.set_cons_zero, List.set_cons_succ, i64_w, i32_w]
     rfl
    refine done_ (by kernel_rfl) ?_
    go_wp2
    go_ret
    exact ⟨_, rfl, Kd.R_mono (Kd.R_lower HO8.out HB2.out.size) (fun _ _ => trivial), HB2.out.trans (HB8.out.mono HB2.out.size)⟩
end Go.Proofs.Ytcogimnpffnanaa.Q
end

section
-- Written by a program of this session (wip/tools/pp.sh) over the print of the kit.
namespace Go.Proofs.Ytcogimnpffnanaa.Q
open Go.RowKit Go.Proofs.YtcogimnpffnanaaW.PrintWords Go.Proofs.YtcogimnpffnanaaW.PrintLast Go.Proofs.YtcogimnpffnanaaW.PrintMore
attribute [local go_sem] max2_int min2_int max_two min_two max_three min_three max_four min_four   -- for this text's walks alone
set_option linter.unusedVariables false
set_option linter.unusedSimpArgs false

/-! ### bytes_Equal: function 107 -/
def bytes_Equal.f (l0 : List Int) (l1 : List Int) : Option (Bool) := some ((strOfNums l0).toList == (strOfNums l1).toList)
set_option maxHeartbeats 8000000 in
set_option maxRecDepth 100000 in
theorem bytes_Equal.calls (A0 : Option Addr) (c0 : Nat) (l0 : List Int) (A1 : Option Addr) (c1 : Nat) (l1 : List Int) (r : Bool) (w : World) (hr0 : Kd.C (Kd.int .u8) w A0 l0.length l0) (hc0 : l0.length ≤ c0) (hr1 : Kd.C (Kd.int .u8) w A1 l1.length l1) (hc1 : l1.length ≤ c1) (h : bytes_Equal.f l0 l1 = some r) :
  Calls Try.prog 107 #[.slice A0 l0.length c0, .slice A1 l1.length c1] w fun e w' => e = .returned (.bool r) ∧ Drawn0 w w' := by
 have HR0 := Aside0.mk hr0
 have HC0 := Aside0.mk hc0
 clear hr0 hc0
 have HR1 := Aside0.mk hr1
 have HC1 := Aside0.mk hc1
 clear hr1 hc1
 have H : (some ((strOfNums l0).toList == (strOfNums l1).toList)) = some r := h
 clear h
 obtain rfl := Option.some.inj H
 have hcv3 := Kd.C_string (P := Try.prog) (A := A0) (c := c0) Try.underlying29 Try.underlying5 Try.underlying9 HR0.out
 have hcv4 := Kd.C_string (P := Try.prog) (A := A1) (c := c1) Try.underlying29 Try.underlying5 Try.underlying9 HR1.out
 go_enter Try.func107, Try.ntmps107
 go_wp2
 go_ret
 exact ⟨by first | rfl | (simp; done) | (simp [*]; done), by repeat (first | exact Drawn0.refl _ | apply Drawn0.step)⟩

end Go.Proofs.Ytcogimnpffnanaa.Q
end
