-- Joined by a program of this session (wip/tools/merge.py): texts of mine and of pp.sh.
import Derived.Test.YtoipfpjcpngpfaaJFnExactEdgeAdd0
import Derived.Test.YtoipfpjcpngpfaaJB3
import Derived.Lib.SliceRun
section
-- Written by a program of this session (wip/tools/pp.sh) over the print of the kit.
namespace Go.Proofs.Ytoipfpjcpngpfaa.Q
open Go.RowKit Go.Proofs.YtoipfpjcpngpfaaW.PrintWords Go.Proofs.YtoipfpjcpngpfaaW.PrintLast Go.Proofs.YtoipfpjcpngpfaaW.PrintMore
attribute [local go_sem] max2_int min2_int max_two min_two max_three min_three max_four min_four   -- for this text's walks alone
set_option linter.unusedVariables false
set_option linter.unusedSimpArgs false

/-! ### impl_EdgeRoot: function 57 -/
def impl_EdgeRoot.l0 : Nat → Int → ByteArray → Int → List ByteArray → Option (ByteArray)
  | 0, _, _, _, _ => none
  | k + 1, x3, x4, x602000, x602001 => if x3 ≥ 0 then (if 0 ≤ x3 then (if x3 < (x602001.length : Int) then ((impl_NodeHash.f (rdOf ByteArray.empty x602001 x3) x4).bind fun t606 => (impl_EdgeRoot.l0 k (wrap64 (x3 - 1)) t606 x602000 x602001)) else (none)) else (none)) else (some x4)
def impl_EdgeRoot.f (k : Nat) (a0_0 : Int) (l0_1 : List ByteArray) : Option (ByteArray) := (impl_EdgeOk.f k a0_0 l0_1).bind fun t602 => (if t602 = true then (if (wrap64 ((l0_1.length : Int) - 1)) < 0 then ((impl_Digest.f ([] : List Int)).bind fun t603 => (some t603)) else (if 0 ≤ (wrap64 ((l0_1.length : Int) - 1)) then (if (wrap64 ((l0_1.length : Int) - 1)) < (l0_1.length : Int) then (impl_EdgeRoot.l0 k (wrap64 ((wrap64 ((l0_1.length : Int) - 1)) - 1)) (rdOf ByteArray.empty l0_1 (wrap64 ((l0_1.length : Int) - 1))) a0_0 l0_1) else (none)) else (none))) else (some (⟨#[]⟩ : ByteArray)))
theorem impl_EdgeRoot.mono_l : ∀ k, (∀ y0 y1 y2 y3, LeO (impl_EdgeRoot.l0 k y0 y1 y2 y3) (impl_EdgeRoot.l0 (k + 1) y0 y1 y2 y3))
  | 0 => fun _ _ _ _ r h => by simp [impl_EdgeRoot.l0] at h
  | k + 1 => by
    have ih0 := impl_EdgeRoot.mono_l k
    · intro y0 y1 y2 y3
      unfold impl_EdgeRoot.l0
      repeat' first
      | (with_reducible exact ih0 _ _ _ _)
      | (with_reducible exact impl_EdgeOk.mono _ _ _)
      | (with_reducible exact LeO.refl _)
      | (with_reducible exact LeO.none _)
      | (with_reducible refine LeO.ite ?_ ?_)
      | (with_reducible refine LeO.bind ?_ (fun _ => ?_))
      | exact ih0 _ _ _ _
      | exact impl_EdgeOk.mono _ _ _
      | exact LeO.none _
      | refine LeO.ite ?_ ?_
      | refine LeO.bind ?_ (fun _ => ?_)
theorem impl_EdgeRoot.mono : ∀ a0 a1 k, LeO (impl_EdgeRoot.f k a0 a1) (impl_EdgeRoot.f (k + 1) a0 a1) := by
  intro a0 a1 k
  have ih0 := impl_EdgeRoot.mono_l k
  unfold impl_EdgeRoot.f
  repeat' first
      | (with_reducible exact ih0 _ _ _ _)
      | (with_reducible exact impl_EdgeOk.mono _ _ _)
      | (with_reducible exact LeO.refl _)
      | (with_reducible exact LeO.none _)
      | (with_reducible refine LeO.ite ?_ ?_)
      | (with_reducible refine LeO.bind ?_ (fun _ => ?_))
      | exact ih0 _ _ _ _
      | exact impl_EdgeOk.mono _ _ _
      | exact LeO.none _
      | refine LeO.ite ?_ ?_
      | refine LeO.bind ?_ (fun _ => ?_)
set_option maxHeartbeats 8000000 in
set_option maxRecDepth 100000 in
theorem impl_EdgeRoot.calls (k : Nat) (a0_0 : Int) (A0_1 : Option Addr) (c0_1 : Nat) (l0_1 : List ByteArray) (r : ByteArray) (w : World) (hr0_1 : Kd.C Kd.string w A0_1 l0_1.length l0_1) (hc0_1 : l0_1.length ≤ c0_1) (h : impl_EdgeRoot.f k a0_0 l0_1 = some r) :
    Calls Try.prog 57 #[.agg #[.int .i64 a0_0, .slice A0_1 l0_1.length c0_1]] w fun e w' => e = .returned (.string r) ∧ Below w.heap.size w w' := by
  have hu61 := Try.underlying61
  have HR0_1 := Aside0.mk hr0_1
  have HC0_1 := Aside0.mk hc0_1
  clear hr0_1 hc0_1
  have HB := Aside0.mk (Below.refl w.heap.size w)
  have H : ((impl_EdgeOk.f k a0_0 l0_1).bind fun t602 => (if t602 = true then (if (wrap64 ((l0_1.length : Int) - 1)) < 0 then ((impl_Digest.f ([] : List Int)).bind fun t603 => (some t603)) else (if 0 ≤ (wrap64 ((l0_1.length : Int) - 1)) then (if (wrap64 ((l0_1.length : Int) - 1)) < (l0_1.length : Int) then (impl_EdgeRoot.l0 k (wrap64 ((wrap64 ((l0_1.length : Int) - 1)) - 1)) (rdOf ByteArray.empty l0_1 (wrap64 ((l0_1.length : Int) - 1))) a0_0 l0_1) else (none)) else (none))) else (some (⟨#[]⟩ : ByteArray)))) = some r := h
  clear h
  replace H := Option.bind_eq_some_iff.mp H
  obtain ⟨t602, A20, H⟩ := H
  replace H : (if t602 = true then (if (wrap64 ((l0_1.length : Int) - 1)) < 0 then ((impl_Digest.f ([] : List Int)).bind fun t603 => (some t603)) else (if 0 ≤ (wrap64 ((l0_1.length : Int) - 1)) then (if (wrap64 ((l0_1.length : Int) - 1)) < (l0_1.length : Int) then (impl_EdgeRoot.l0 k (wrap64 ((wrap64 ((l0_1.length : Int) - 1)) - 1)) (rdOf ByteArray.empty l0_1 (wrap64 ((l0_1.length : Int) - 1))) a0_0 l0_1) else (none)) else (none))) else (some (⟨#[]⟩ : ByteArray))) = some r := H
  have A2 := Aside0.mk A20
  clear A20
  by_cases c3 : t602 = true
  · subst c3
    have H1 : (if (wrap64 ((l0_1.length : Int) - 1)) < 0 then ((impl_Digest.f ([] : List Int)).bind fun t603 => (some t603)) else (if 0 ≤ (wrap64 ((l0_1.length : Int) - 1)) then (if (wrap64 ((l0_1.length : Int) - 1)) < (l0_1.length : Int) then (impl_EdgeRoot.l0 k (wrap64 ((wrap64 ((l0_1.length : Int) - 1)) - 1)) (rdOf ByteArray.empty l0_1 (wrap64 ((l0_1.length : Int) - 1))) a0_0 l0_1) else (none)) else (none))) = some r := by rw [if_pos rfl] at H; exact H
    clear H
    have H := H1
    clear H1
    by_cases c4 : (wrap64 ((l0_1.length : Int) - 1)) < 0
    · rw [if_pos c4] at H
      have c4b0 : decide ((wrap64 ((l0_1.length : Int) - 1)) < 0) = true := decide_eq_true c4
      clear c4
      replace H := Option.bind_eq_some_iff.mp H
      obtain ⟨t603, A50, H⟩ := H
      replace H : (some t603) = some r := H
      have A5 := Aside0.mk A50
      clear A50
      obtain rfl := Option.some.inj H
      go_enter Try.func57, Try.ntmps57
      go_wp2_with (first | ((with_reducible refine gate_dst (N := 1) rfl ?_); refine box_event ?hg (N := 1) ?hd (cs := #[.int .i64 a0_0, .slice A0_1 l0_1.length c0_1]) (t := 61) ?hr ?_; (case hd => rfl); (case hg => rfl); (case hr => first | (go_simp; done) | (go_simp; rfl)); intro gb601 hg w6 hbox hb; have n0_ := Aside0.mk (below_step (by repeat (first | (with_reducible first | exact HB.out | apply below_alloc | apply pw_below_drewN | apply below_drew1) | exact HB.out)) hb); have n1_ := Aside0.mk (hbox); have n2_ := Aside0.mk ((by rw [hg]; exact (below_size (by repeat (first | (with_reducible first | exact HB.out | apply below_alloc | apply pw_below_drewN | apply below_drew1) | exact HB.out))) : w.heap.size ≤ gb601)); have n3_ := Aside0.mk ((by rw [hg]; exact (below_size (by repeat (first | (with_reducible first | exact HB.out | apply below_alloc | apply pw_below_drewN | apply below_drew1) | exact HB.out))) : w.heap.size ≤ gb601)); clear HB; have HB := n0_; have BK601 := n1_; have GW601 := n2_; have GE601 := n3_; clear n0_ n1_ n2_ n3_; clear hb hbox hg; have hcz7_0 : w6.cell? ⟨gb601, 0, none⟩ = some (.int .i64 a0_0) := (blk_cell BK601.out 0).trans rfl; have hcz7_1 : w6.cell? ⟨gb601, 1, none⟩ = some (.slice A0_1 l0_1.length c0_1) := (blk_cell BK601.out 1).trans rfl; have hfz7_0 := blk_frozen BK601.out 0; have hfz7_1 := blk_frozen BK601.out 1) | ((with_reducible refine gate_callee (f := 56) rfl ?_); refine goesL_ (some 6) rfl rfl Try.func56 (by kernel_rfl) rfl #[.agg #[.int .i64 a0_0, .slice A0_1 l0_1.length c0_1]] rfl (by (try simp only [List.map_toArray, List.map_cons, List.map_nil]); first | done | rfl | (simp only [List.length_drop, List.length_take]; rfl)) ?_; (with_reducible refine (impl_EdgeOk.calls k a0_0 _ _ l0_1 true _ ?side1 ?side2 A2.out).mono ?_); (case side1 => repeat (first | exact (Kd.C_below HR0_1.out HB.out) | (with_reducible refine Kd.C_alloc ?_ _) | (with_reducible refine Kd.C_drewN ?_ _) | (with_reducible refine Kd.C_drew ?_))); (case side2 => exact HC0_1.out); rintro e w8 ⟨rfl, hb⟩; refine ⟨_, rfl, ?_⟩; have n0_ := Aside0.mk (blk_below (g := gb601) (o := .cells #[.int .i64 a0_0, .slice A0_1 l0_1.length c0_1] 61 (0, 0)) (by (with_reducible repeat (first | refine blk_drewN ?_ _ | refine blk_drew ?_ | refine blk_alloc ?_ _)); exact BK601.out) hb); have n1_ := Aside0.mk (below_step (by repeat (first | (with_reducible first | exact HB.out | apply below_alloc | apply pw_below_drewN | apply below_drew1 | refine below_set ?_ GE601.out) | exact HB.out)) hb); clear BK601; clear HB; have BK601 := n0_; have HB := n1_; clear n0_ n1_; (try clear hb); (try clear hb2); (try clear hk); (try clear hi); have hcz9_0 : w8.cell? ⟨gb601, 0, none⟩ = some (.int .i64 a0_0) := (blk_cell BK601.out 0).trans rfl; have hcz9_1 : w8.cell? ⟨gb601, 1, none⟩ = some (.slice A0_1 l0_1.length c0_1) := (blk_cell BK601.out 1).trans rfl; have hfz9_0 := blk_frozen BK601.out 0; have hfz9_1 := blk_frozen BK601.out 1) | ((with_reducible refine gate_callee (f := 117) rfl ?_); refine goesL_ (some 14) rfl rfl Try.func117 (by kernel_rfl) rfl #[.slice none 0 0] rfl (by (try simp only [List.map_toArray, List.map_cons, List.map_nil]); first | done | rfl | (simp only [List.length_drop, List.length_take]; rfl)) ?_; (refine (impl_Digest.calls _ _ ([] : List Int) t603 _ ?side1 ?side2 A5.out).mono ?_); (case side1 => exact Kd.C_nil _ _); (case side2 => exact Nat.le_refl _); rintro e w10 ⟨rfl, hb⟩; refine ⟨_, rfl, ?_⟩; have n0_ := Aside0.mk (blk_below (g := gb601) (o := .cells #[.int .i64 a0_0, .slice A0_1 l0_1.length c0_1] 61 (0, 0)) (by (with_reducible repeat (first | refine blk_drewN ?_ _ | refine blk_drew ?_ | refine blk_alloc ?_ _)); exact BK601.out) hb); have n1_ := Aside0.mk (below_step (by repeat (first | (with_reducible first | exact HB.out | apply below_alloc | apply pw_below_drewN | apply below_drew1 | refine below_set ?_ GE601.out) | exact HB.out)) hb); clear BK601; clear HB; have BK601 := n0_; have HB := n1_; clear n0_ n1_; (try clear hb); (try clear hb2); (try clear hk); (try clear hi)))
      go_ret
      exact ⟨by first | rfl | (simp [errW_none, errW_some] <;> rfl) | (simp [*, errW_none, errW_some] <;> rfl), by repeat (first | (with_reducible first | exact HB.out | apply below_alloc | apply pw_below_drewN | apply below_drew1 | refine below_set ?_ GE601.out) | exact HB.out)⟩
    · rw [if_neg c4] at H
      have c4b0 : decide ((wrap64 ((l0_1.length : Int) - 1)) < 0) = false := decide_eq_false c4
      clear c4
      obtain ⟨ji11, hji11⟩ : ∃ j_ : Int, (wrap64 ((l0_1.length : Int) - 1)) = j_ := ⟨_, rfl⟩
      replace H : (if 0 ≤ (ji11) then (if (ji11) < (l0_1.length : Int) then (impl_EdgeRoot.l0 k (wrap64 ((ji11) - 1)) (rdOf ByteArray.empty l0_1 (ji11)) a0_0 l0_1) else (none)) else (none)) = some r := by first | (rw [hji11] at H; exact H) | (simp only [hji11] at H ⊢; exact H)
      (try rw [hji11] at c4b0)
      (try rw [hji11] at A2)
      have hji11w : (IntKind.i64.wrap ((l0_1.length : Int) - 1)) = ji11 := (i64_w _).trans hji11
      by_cases c12 : 0 ≤ (ji11)
      · rw [if_pos c12] at H
        have c12b0 : decide (0 ≤ (ji11)) = true := decide_eq_true c12
        clear c12
        by_cases c13 : (ji11) < (l0_1.length : Int)
        · rw [if_pos c13] at H
          have c13b0 : decide ((ji11) < (l0_1.length : Int)) = true := decide_eq_true c13
          clear c13
          have H' := Aside0.mk H
          clear H
          go_enter Try.func57, Try.ntmps57
          go_wp2_with (first | ((with_reducible refine gate_dst (N := 1) rfl ?_); refine box_event ?hg (N := 1) ?hd (cs := #[.int .i64 a0_0, .slice A0_1 l0_1.length c0_1]) (t := 61) ?hr ?_; (case hd => rfl); (case hg => rfl); (case hr => first | (go_simp; done) | (go_simp; rfl)); intro gb601 hg w14 hbox hb; have n0_ := Aside0.mk (below_step (by repeat (first | (with_reducible first | exact HB.out | apply below_alloc | apply pw_below_drewN | apply below_drew1) | exact HB.out)) hb); have n1_ := Aside0.mk (hbox); have n2_ := Aside0.mk ((by rw [hg]; exact (below_size (by repeat (first | (with_reducible first | exact HB.out | apply below_alloc | apply pw_below_drewN | apply below_drew1) | exact HB.out))) : w.heap.size ≤ gb601)); have n3_ := Aside0.mk ((by rw [hg]; exact (below_size (by repeat (first | (with_reducible first | exact HB.out | apply below_alloc | apply pw_below_drewN | apply below_drew1) | exact HB.out))) : w.heap.size ≤ gb601)); clear HB; have HB := n0_; have BK601 := n1_; have GW601 := n2_; have GE601 := n3_; clear n0_ n1_ n2_ n3_; clear hb hbox hg; have hcz15_0 : w14.cell? ⟨gb601, 0, none⟩ = some (.int .i64 a0_0) := (blk_cell BK601.out 0).trans rfl; have hcz15_1 : w14.cell? ⟨gb601, 1, none⟩ = some (.slice A0_1 l0_1.length c0_1) := (blk_cell BK601.out 1).trans rfl; have hfz15_0 := blk_frozen BK601.out 0; have hfz15_1 := blk_frozen BK601.out 1) | ((with_reducible refine gate_callee (f := 56) rfl ?_); refine goesL_ (some 6) rfl rfl Try.func56 (by kernel_rfl) rfl #[.agg #[.int .i64 a0_0, .slice A0_1 l0_1.length c0_1]] rfl (by (try simp only [List.map_toArray, List.map_cons, List.map_nil]); first | done | rfl | (simp only [List.length_drop, List.length_take]; rfl)) ?_; (with_reducible refine (impl_EdgeOk.calls k a0_0 _ _ l0_1 true _ ?side1 ?side2 A2.out).mono ?_); (case side1 => repeat (first | exact (Kd.C_below HR0_1.out HB.out) | (with_reducible refine Kd.C_alloc ?_ _) | (with_reducible refine Kd.C_drewN ?_ _) | (with_reducible refine Kd.C_drew ?_))); (case side2 => exact HC0_1.out); rintro e w16 ⟨rfl, hb⟩; refine ⟨_, rfl, ?_⟩; have n0_ := Aside0.mk (blk_below (g := gb601) (o := .cells #[.int .i64 a0_0, .slice A0_1 l0_1.length c0_1] 61 (0, 0)) (by (with_reducible repeat (first | refine blk_drewN ?_ _ | refine blk_drew ?_ | refine blk_alloc ?_ _)); exact BK601.out) hb); have n1_ := Aside0.mk (below_step (by repeat (first | (with_reducible first | exact HB.out | apply below_alloc | apply pw_below_drewN | apply below_drew1 | refine below_set ?_ GE601.out) | exact HB.out)) hb); clear BK601; clear HB; have BK601 := n0_; have HB := n1_; clear n0_ n1_; (try clear hb); (try clear hb2); (try clear hk); (try clear hi); have hcz17_0 : w16.cell? ⟨gb601, 0, none⟩ = some (.int .i64 a0_0) := (blk_cell BK601.out 0).trans rfl; have hcz17_1 : w16.cell? ⟨gb601, 1, none⟩ = some (.slice A0_1 l0_1.length c0_1) := (blk_cell BK601.out 1).trans rfl; have hfz17_0 := blk_frozen BK601.out 0; have hfz17_1 := blk_frozen BK601.out 1; have p604 : 0 ≤ ((ji11) : Int) := of_decide_eq_true (by first | (with_reducible assumption) | assumption); have q604 : (ji11) < (l0_1.length : Int) := of_decide_eq_true (by first | (with_reducible assumption) | assumption); obtain ⟨ad604, e604, hx604_0⟩ := Kd.at_string HR0_1.out (ji11) p604 q604; cases e604; replace hx604_0 := (HB.out.cell (World.block_lt_of_cell? w _ hx604_0)).trans hx604_0; replace p604 := eq_true p604; replace q604 := eq_true q604))
          go_loopg [3, 4] k (fun kq v3 v4 w' => ∃ (x3_1 : Int) (x4_1 : ByteArray), v3 = .int .i64 x3_1 ∧ v4 = .string x4_1 ∧ Aside0 (impl_EdgeRoot.l0 kq x3_1 x4_1 a0_0 l0_1 = some r) ∧ Aside0 (kq ≤ k) ∧ Aside0 (w'.heap[gb601]? = some (.cells #[.int .i64 a0_0, (.slice (some ad604) l0_1.length c0_1)] 61 (0, 0))) ∧ Aside0 (Below w.heap.size w w'))
          case atStart => exact ⟨(wrap64 ((ji11) - 1)), (rdOf ByteArray.empty l0_1 (ji11)), (by first | rfl | (simp; done) | (simp only [← hji11] <;> (first | rfl | simp)) | (simp [*]; done)), (by first | rfl | (simp; done) | (simp only [← hji11] <;> (first | rfl | simp)) | (simp [*]; done)), H', ⟨Nat.le_refl _⟩, ⟨by (with_reducible repeat (first | refine blk_drewN ?_ _ | refine blk_drew ?_ | refine blk_alloc ?_ _)); exact BK601.out⟩, ⟨by repeat (first | (with_reducible first | exact HB.out | apply below_alloc | apply pw_below_drewN | apply below_drew1 | refine below_set ?_ GE601.out) | exact HB.out)⟩⟩
          case round =>
            clear H'
            try clear c1
            try clear p2
            try clear c3
            try clear c4
            try clear c4b0
            try clear c5
            try clear p6
            try clear q6
            try clear hx6
            try clear c11
            try clear c12
            try clear c12b0
            try clear c13
            try clear c13b0
            try clear hcz15_0
            try clear hcz15_1
            try clear hcz17_0
            try clear hcz17_1
            try clear hcz7_0
            try clear hcz7_1
            try clear hcz9_0
            try clear hcz9_1
            try clear hfz15_0
            try clear hfz15_1
            try clear hfz17_0
            try clear hfz17_1
            try clear hfz7_0
            try clear hfz7_1
            try clear hfz9_0
            try clear hfz9_1
            try clear hx604_0
            try clear p604
            try clear q604
            obtain ⟨x3_1, x4_1, rfl, rfl, HA, HK1, BK601, HB⟩ := hrel
            cases gk with
            | zero => exact absurd HA.out (by simp [impl_EdgeRoot.l0])
            | succ k1 =>
              have H := HA.out
              clear HA
              simp only [impl_EdgeRoot.l0] at H
              by_cases c18 : x3_1 ≥ 0
              · rw [if_pos c18] at H
                have c18b0 : decide (0 ≤ x3_1) = true := decide_eq_true c18
                clear c18
                by_cases c19 : 0 ≤ x3_1
                · rw [if_pos c19] at H
                  have c19b0 : decide (0 ≤ x3_1) = true := decide_eq_true c19
                  clear c19
                  by_cases c20 : x3_1 < (l0_1.length : Int)
                  · rw [if_pos c20] at H
                    have c20b0 : decide (x3_1 < (l0_1.length : Int)) = true := decide_eq_true c20
                    clear c20
                    replace H := Option.bind_eq_some_iff.mp H
                    obtain ⟨t606, A210, H⟩ := H
                    replace H : (impl_EdgeRoot.l0 k1 (wrap64 (x3_1 - 1)) t606 a0_0 l0_1) = some r := H
                    have A21 := Aside0.mk A210
                    clear A210
                    have H' := Aside0.mk H
                    clear H
                    have hcz22_0 : wr.cell? ⟨gb601, 0, none⟩ = some (.int .i64 a0_0) := (blk_cell BK601.out 0).trans rfl
                    have hcz22_1 : wr.cell? ⟨gb601, 1, none⟩ = some (.slice (some ad604) l0_1.length c0_1) := (blk_cell BK601.out 1).trans rfl
                    have hfz22_0 := blk_frozen BK601.out 0
                    have hfz22_1 := blk_frozen BK601.out 1
                    have p605 : 0 ≤ (x3_1 : Int) := of_decide_eq_true (by first | (with_reducible assumption) | assumption)
                    have q605 : x3_1 < (l0_1.length : Int) := of_decide_eq_true (by first | (with_reducible assumption) | assumption)
                    obtain ⟨ad605, e605, hx605_0⟩ := Kd.at_string HR0_1.out x3_1 p605 q605
                    obtain rfl : ad604 = ad605 := (by injection e605)
                    replace hx605_0 := (HB.out.cell (World.block_lt_of_cell? w _ hx605_0)).trans hx605_0
                    replace p605 := eq_true p605
                    replace q605 := eq_true q605
                    go_wp2_with (first | ((with_reducible refine gate_callee (f := 129) rfl ?_); refine goesL_ (some 32) rfl rfl Try.func129 (by kernel_rfl) rfl #[.string (rdOf ByteArray.empty l0_1 x3_1), .string x4_1] rfl (by (try simp only [List.map_toArray, List.map_cons, List.map_nil]); first | done | rfl | (simp only [List.length_drop, List.length_take]; rfl)) ?_; (with_reducible refine (impl_NodeHash.calls (rdOf ByteArray.empty l0_1 x3_1) x4_1 t606 _ A21.out).mono ?_); rintro e w23 ⟨rfl, hb⟩; refine ⟨_, rfl, ?_⟩; have n0_ := Aside0.mk (blk_below (g := gb601) (o := .cells #[.int .i64 a0_0, .slice (some ad604) l0_1.length c0_1] 61 (0, 0)) (by (with_reducible repeat (first | refine blk_drewN ?_ _ | refine blk_drew ?_ | refine blk_alloc ?_ _)); exact BK601.out) hb); have n1_ := Aside0.mk (below_step (by repeat (first | (with_reducible first | exact HB.out | apply below_alloc | apply pw_below_drewN | apply below_drew1 | refine below_set ?_ GE601.out) | exact HB.out)) hb); clear BK601; clear HB; have BK601 := n0_; have HB := n1_; clear n0_ n1_; (try clear hb); (try clear hb2); (try clear hk); (try clear hi)))
                    go_roundg k1
                    case measure => have := HK1.out; omega
                    case rel => exact ⟨(wrap64 (x3_1 - 1)), (t606), (by first | rfl | (simp; done) | (simp [*]; done)), (by first | rfl | (simp; done) | (simp [*]; done)), H', ⟨by have := HK1.out; omega⟩, ⟨by (with_reducible repeat (first | refine blk_drewN ?_ _ | refine blk_drew ?_ | refine blk_alloc ?_ _)); exact BK601.out⟩, ⟨by repeat (first | (with_reducible first | exact HB.out | apply below_alloc | apply pw_below_drewN | apply below_drew1 | refine below_set ?_ GE601.out) | exact HB.out)⟩⟩
                  · rw [if_neg c20] at H
                    exact absurd H (by simp)
                · rw [if_neg c19] at H
                  exact absurd H (by simp)
              · rw [if_neg c18] at H
                have c18b0 : decide (0 ≤ x3_1) = false := decide_eq_false c18
                clear c18
                obtain rfl := Option.some.inj H
                go_wp2
                go_ret
                exact ⟨by first | rfl | (simp [errW_none, errW_some] <;> rfl) | (simp only [← hji11]; first | rfl | (simp [errW_none, errW_some] <;> rfl)) | (simp [*, errW_none, errW_some] <;> rfl), by repeat (first | (with_reducible first | exact HB.out | apply below_alloc | apply pw_below_drewN | apply below_drew1 | refine below_set ?_ GE601.out) | exact HB.out)⟩
        · rw [if_neg c13] at H
          exact absurd H (by simp)
      · rw [if_neg c12] at H
        exact absurd H (by simp)
  · replace c3 := Bool.eq_false_iff.mpr c3
    subst c3
    have H1 : (some (⟨#[]⟩ : ByteArray)) = some r := by rw [if_neg (show ¬ (false = true) by decide)] at H; exact H
    clear H
    have H := H1
    clear H1
    obtain rfl := Option.some.inj H
    go_enter Try.func57, Try.ntmps57
    go_wp2_with (first | ((with_reducible refine gate_dst (N := 1) rfl ?_); refine box_event ?hg (N := 1) ?hd (cs := #[.int .i64 a0_0, .slice A0_1 l0_1.length c0_1]) (t := 61) ?hr ?_; (case hd => rfl); (case hg => rfl); (case hr => first | (go_simp; done) | (go_simp; rfl)); intro gb601 hg w24 hbox hb; have n0_ := Aside0.mk (below_step (by repeat (first | (with_reducible first | exact HB.out | apply below_alloc | apply pw_below_drewN | apply below_drew1) | exact HB.out)) hb); have n1_ := Aside0.mk (hbox); have n2_ := Aside0.mk ((by rw [hg]; exact (below_size (by repeat (first | (with_reducible first | exact HB.out | apply below_alloc | apply pw_below_drewN | apply below_drew1) | exact HB.out))) : w.heap.size ≤ gb601)); have n3_ := Aside0.mk ((by rw [hg]; exact (below_size (by repeat (first | (with_reducible first | exact HB.out | apply below_alloc | apply pw_below_drewN | apply below_drew1) | exact HB.out))) : w.heap.size ≤ gb601)); clear HB; have HB := n0_; have BK601 := n1_; have GW601 := n2_; have GE601 := n3_; clear n0_ n1_ n2_ n3_; clear hb hbox hg; have hcz25_0 : w24.cell? ⟨gb601, 0, none⟩ = some (.int .i64 a0_0) := (blk_cell BK601.out 0).trans rfl; have hcz25_1 : w24.cell? ⟨gb601, 1, none⟩ = some (.slice A0_1 l0_1.length c0_1) := (blk_cell BK601.out 1).trans rfl; have hfz25_0 := blk_frozen BK601.out 0; have hfz25_1 := blk_frozen BK601.out 1) | ((with_reducible refine gate_callee (f := 56) rfl ?_); refine goesL_ (some 6) rfl rfl Try.func56 (by kernel_rfl) rfl #[.agg #[.int .i64 a0_0, .slice A0_1 l0_1.length c0_1]] rfl (by (try simp only [List.map_toArray, List.map_cons, List.map_nil]); first | done | rfl | (simp only [List.length_drop, List.length_take]; rfl)) ?_; (with_reducible refine (impl_EdgeOk.calls k a0_0 _ _ l0_1 false _ ?side1 ?side2 A2.out).mono ?_); (case side1 => repeat (first | exact (Kd.C_below HR0_1.out HB.out) | (with_reducible refine Kd.C_alloc ?_ _) | (with_reducible refine Kd.C_drewN ?_ _) | (with_reducible refine Kd.C_drew ?_))); (case side2 => exact HC0_1.out); rintro e w26 ⟨rfl, hb⟩; refine ⟨_, rfl, ?_⟩; have n0_ := Aside0.mk (blk_below (g := gb601) (o := .cells #[.int .i64 a0_0, .slice A0_1 l0_1.length c0_1] 61 (0, 0)) (by (with_reducible repeat (first | refine blk_drewN ?_ _ | refine blk_drew ?_ | refine blk_alloc ?_ _)); exact BK601.out) hb); have n1_ := Aside0.mk (below_step (by repeat (first | (with_reducible first | exact HB.out | apply below_alloc | apply pw_below_drewN | apply below_drew1 | refine below_set ?_ GE601.out) | exact HB.out)) hb); clear BK601; clear HB; have BK601 := n0_; have HB := n1_; clear n0_ n1_; (try clear hb); (try clear hb2); (try clear hk); (try clear hi)))
    go_ret
    exact ⟨by first | rfl | (simp [errW_none, errW_some] <;> rfl) | (simp [*, errW_none, errW_some] <;> rfl), by repeat (first | (with_reducible first | exact HB.out | apply below_alloc | apply pw_below_drewN | apply below_drew1 | refine below_set ?_ GE601.out) | exact HB.out)⟩

end Go.Proofs.Ytoipfpjcpngpfaa.Q
end

section
/- The root of an edge, as the program tells it. Plain. -/
namespace Go.Proofs.Ytoipfpjcpngpfaa.Q
open Go.RowKit Go.Proofs.Ytoipfpjcpngpfaa.B Go.Proofs.YtoipfpjcpngpfaaW.PrintWords Go.Proofs.YtoipfpjcpngpfaaW.PrintMore
set_option linter.unusedVariables false
set_option linter.unusedSimpArgs false

/-- The root of an edge's hashes. -/
def foldEdge (l : List ByteArray) (a : ByteArray) : ByteArray := l.foldr nodeH a
def edgeRoot (l : List ByteArray) : ByteArray := match l.getLast? with
  | none => sha []
  | some a => foldEdge l.dropLast a
def edgeRootOf (n : Int) (l : List ByteArray) : ByteArray := if edgeOk n l = true then edgeRoot l else ⟨#[]⟩
theorem edgeOk_zero {n : Int} {l : List ByteArray} (h : edgeOk n l = true) : (n = 0 ↔ l.length = 0) ∧ l.length ≤ 8 := by
  unfold edgeOk at h
  by_cases hn : 0 ≤ n ∧ n ≤ 200
  · rw [if_pos hn] at h
    by_cases hp : l.length = pops n.toNat
    · have := pops_zero ⟨n.toNat, by omega⟩
      have h8 := pops_few ⟨n.toNat, by omega⟩
      simp only at this h8
      omega
    · rw [if_neg hp] at h
      cases h
  · rw [if_neg hn] at h
    cases h
theorem edgeRoot_last {l : List ByteArray} {x : ByteArray} (h : l[l.length - 1]? = some x) (h1 : 1 ≤ l.length) : edgeRoot l = foldEdge (l.take (l.length - 1)) x := by
  unfold edgeRoot
  rw [List.getLast?_eq_getElem?, h, List.dropLast_eq_take]
theorem impl_root_l0 (n : Int) (l : List ByteArray) (hl : l.length ≤ 1048576) (hs : ∀ x ∈ l, x.size ≤ bigB) : ∀ (i : Nat) (a : ByteArray), i ≤ l.length → a.size ≤ bigB → Ev (fun k => impl_EdgeRoot.l0 k ((i : Int) - 1) a n l) (foldEdge (l.take i) a) := by
  intro i
  induction i with
  | zero =>
    intro a hi ha
    refine Ev.step (fun k => by simp only [impl_EdgeRoot.l0]; rfl) ?_
    exact Ev.neg (by omega) (Ev.now _)
  | succ i ih =>
    intro a hi ha
    obtain ⟨x, hx⟩ := get_some (l := l) (i := i) (by omega)
    have hxs := hs x (List.mem_of_getElem? hx)
    have hn := impl_node x a (node_small hxs ha)
    rw [take_one hx]
    have e : foldEdge (l.take i ++ [x]) a = foldEdge (l.take i) (nodeH x a) := by
      unfold foldEdge
      rw [List.foldr_append]
      rfl
    rw [e]
    refine Ev.step (fun k => by simp only [impl_EdgeRoot.l0]; rfl) ?_
    rw [show (((i + 1 : Nat) : Int) - 1) = (i : Int) by omega, rdE hx, w64 (x := (i : Int) - 1) (by omega) (by omega)]
    exact Ev.pos (by omega) (Ev.pos (by omega) (Ev.pos (by omega) (Ev.bind (Ev.const hn) (ih (nodeH x a) (by omega) (by rw [nodeH_size]; decide)))))
theorem impl_EdgeRoot_ev (n : Int) (l : List ByteArray) (hl : l.length ≤ 1048576) (hs : ∀ x ∈ l, x.size ≤ bigB) : Ev (fun k => impl_EdgeRoot.f k n l) (edgeRootOf n l) := by
  unfold impl_EdgeRoot.f edgeRootOf
  refine Ev.bind (impl_EdgeOk_ev n l (by omega)) ?_
  by_cases h : edgeOk n l = true
  · rw [if_pos h]
    obtain ⟨h0, h8⟩ := edgeOk_zero h
    refine Ev.pos h ?_
    by_cases hn : n = 0
    · have hz := List.eq_nil_of_length_eq_zero (h0.1 hn)
      subst hz
      exact Ev.pos (by rw [w64 (by simp) (by simp)]; simp) (Ev.bind (Ev.const (impl_Digest_is [] (by decide))) (Ev.now _))
    · have h1 : 1 ≤ l.length := by omega
      obtain ⟨x, hx⟩ := get_some (l := l) (i := l.length - 1) (by omega)
      rw [edgeRoot_last hx h1, w64 (x := (l.length : Int) - 1) (by omega) (by omega), w64 (x := (l.length : Int) - 1 - 1) (by omega) (by omega), show (l.length : Int) - 1 = ((l.length - 1 : Nat) : Int) by omega, rdE hx]
      exact Ev.neg (by omega) (Ev.pos (by omega) (Ev.pos (by omega) (impl_root_l0 n l hl hs (l.length - 1) x (by omega) (hs x (List.mem_of_getElem? hx)))))
  · rw [if_neg h]
    exact Ev.neg h (Ev.now _)
end Go.Proofs.Ytoipfpjcpngpfaa.Q
end

section
/- The program's (*Edge).add: a text put behind an edge, in place. -/
namespace Go.Proofs.Ytoipfpjcpngpfaa.Q
open Go.RowKit Go.Proofs.YtoipfpjcpngpfaaW.PrintWords Go.Proofs.YtoipfpjcpngpfaaW.PrintLast Go.Proofs.YtoipfpjcpngpfaaW.PrintMore
set_option linter.unusedVariables false
set_option linter.unusedSimpArgs false

def addL : Nat → List ByteArray → Int → ByteArray → Option (List ByteArray × ByteArray)
  | 0, _, _, _ => none
  | k + 1, hs, n, h => if (Go.bits .and .i64 n 1) = 1 then (if 0 ≤ (wrap64 ((hs.length : Int) - 1)) then (if (wrap64 ((hs.length : Int) - 1)) < (hs.length : Int) then ((impl_NodeHash.f (rdOf ByteArray.empty hs (wrap64 ((hs.length : Int) - 1))) h).bind fun t => (addL k (hs.take ((wrap64 ((hs.length : Int) - 1)) : Int).toNat) (n / 2) t)) else (none)) else (none)) else (some (hs, h))
def impl_Edge_add.f (n : Int) (hs : List ByteArray) (s : ByteArray) : Option (List ByteArray) := (impl_LeafHash.f s).bind fun h => ((addL 64 hs n h).bind fun r => (if r.1.length < 8796093022208 then (some (r.1 ++ [r.2])) else (none)))

set_option maxHeartbeats 4000000 in
set_option maxRecDepth 100000 in
theorem impl_Edge_add.calls (g : Nat) (n : Int) (hs : List ByteArray) (s : ByteArray) (r : List ByteArray) (A : Option Addr) (c : Nat) (w0 w : World) (hg : w0.heap.size ≤ g)
    (hbk : w.heap[g]? = some (.cells #[.int .i64 n, .slice A hs.length c] 61 (0, 0))) (hr : Kd.R Kd.string 9 w w0.heap.size (fun k => k ≠ g) (.slice A hs.length c) hs) (hB : Below w0.heap.size w0 w) (h : impl_Edge_add.f n hs s = some r) :
    Calls Try.prog 123 #[.pointer (some ⟨g, 0, none⟩), .string s] w fun e w' => e = .returned (.tuple #[]) ∧ ∃ (A' : Option Addr) (c' : Nat), Kd.R Kd.string 9 w' w0.heap.size (fun k => k ≠ g) (.slice A' r.length c') r ∧ w'.heap[g]? = some (.cells #[.int .i64 (wrap64 (n + 1)), .slice A' r.length c'] 61 (0, 0)) ∧ Below w0.heap.size w0 w' ∧ Kept w w' (fun k => k = g ∨ some k = (Value.slice A hs.length c).ownBlock) := by
  have HB := Aside0.mk hB
  have HO := Aside0.mk hr
  have BK := Aside0.mk hbk
  have GE := Aside0.mk hg
  have HKP := Aside0.mk (Kept.refl w (fun k => k = g ∨ some k = (Value.slice A hs.length c).ownBlock))
  unfold impl_Edge_add.f at h
  obtain ⟨t, h1, h⟩ := Option.bind_eq_some_iff.mp h
  obtain ⟨⟨hs2, t2⟩, h2, h⟩ := Option.bind_eq_some_iff.mp h
  have A1 := Aside0.mk h1
  have H' := Aside0.mk h2
  by_cases hl : hs2.length < 8796093022208
  · rw [if_pos hl] at h
    have LM := Aside0.mk hl
    obtain rfl := Option.some.inj h
    have hcz_0 : w.cell? ⟨g, 0, none⟩ = some (.int .i64 n) := (blk_cell BK.out 0).trans rfl
    have hcz_1 : w.cell? ⟨g, 1, none⟩ = some (.slice A hs.length c) := (blk_cell BK.out 1).trans rfl
    have hfz_0 := blk_frozen BK.out 0
    have hfz_1 := blk_frozen BK.out 1
    clear h h1 h2 hl hB hr hbk hg
    go_enter Try.func123, Try.ntmps123
    go_wp2_with ((with_reducible refine gate_callee (f := 152) rfl ?_); refine goesL_ (some 8) rfl rfl Try.func152 (by kernel_rfl) rfl #[.string s] rfl (by (try simp only [List.map_toArray, List.map_cons, List.map_nil]); first | done | rfl) ?_; (with_reducible refine (impl_LeafHash.calls s t _ A1.out).mono ?_); rintro e w1 ⟨rfl, hb⟩; refine ⟨_, rfl, ?_⟩; have n0_ := Aside0.mk (Kd.R_below HO.out hb); have n1_ := Aside0.mk (blk_below (g := g) (o := .cells #[.int .i64 n, .slice A hs.length c] 61 (0, 0)) BK.out hb); have n2_ := Aside0.mk (below_step HB.out hb); have n3_ := Aside0.mk (HKP.out.below hb); clear HO BK HB HKP hcz_0 hcz_1 hfz_0 hfz_1; have HO := n0_; have BK := n1_; have HB := n2_; have HKP := n3_; clear n0_ n1_ n2_ n3_ hb; have hcz1_0 : w1.cell? ⟨g, 0, none⟩ = some (.int .i64 n) := (blk_cell BK.out 0).trans rfl; have hcz1_1 : w1.cell? ⟨g, 1, none⟩ = some (.slice A hs.length c) := (blk_cell BK.out 1).trans rfl; have hfz1_0 := blk_frozen BK.out 0; have hfz1_1 := blk_frozen BK.out 1)
    have HS := Aside0.mk (rfl : (Value.slice A hs.length c).ownBlock = (Value.slice A hs.length c).ownBlock)
    go_loopg [4, 5, 6] 64 (fun kq v4 v5 v6 w' => ∃ (x4 : ByteArray) (xs : List ByteArray) (x5 : Int) (Ao : Option Addr) (co : Nat), v4 = .string x4 ∧ v5 = .int .i64 x5 ∧ Aside0 (addL kq xs x5 x4 = some (hs2, t2)) ∧ Aside0 (kq ≤ 64) ∧ Aside0 (Kd.R Kd.string 9 w' w0.heap.size (fun k => k ≠ g) (.slice Ao xs.length co) xs) ∧ Aside0 ((Value.slice Ao xs.length co).ownBlock = (Value.slice A hs.length c).ownBlock) ∧ Aside0 (w'.heap[g]? = some (.cells #[.int .i64 n, .slice Ao xs.length co] 61 (0, 0))) ∧ Aside0 (Below w0.heap.size w0 w') ∧ Aside0 (Kept w w' (fun k => k = g ∨ some k = (Value.slice A hs.length c).ownBlock)))
    case atStart => exact ⟨t, hs, n, A, c, rfl, rfl, H', ⟨Nat.le_refl _⟩, HO, HS, BK, HB, HKP⟩
    case round =>
      clear H' HO HS BK HB HKP hcz1_0 hcz1_1 hfz1_0 hfz1_1
      obtain ⟨x4, xs, x5, Ao, co, rfl, rfl, HA, HK1, HO, HS, BK, HB, HKP⟩ := hrel
      cases gk with
      | zero => exact absurd HA.out (by simp [addL])
      | succ k1 =>
        have H := HA.out
        clear HA
        simp only [addL] at H
        by_cases c14 : (Go.bits .and .i64 x5 1) = 1
        · rw [if_pos c14] at H
          have c14b0 : ((Go.bits .and .i64 x5 1) == 1) = true := beq_iff_eq.mpr c14
          have c14b1 : ((Go.bits .and .i64 x5 1) != 1) = false := bne_eq_false_iff_eq.mpr c14
          clear c14
          obtain ⟨ji, hji⟩ : ∃ j_ : Int, (wrap64 ((xs.length : Int) - 1)) = j_ := ⟨_, rfl⟩
          simp only [hji] at H
          have hjiw : (IntKind.i64.wrap ((xs.length : Int) - 1)) = ji := (i64_w _).trans hji
          by_cases c16 : 0 ≤ ji
          · rw [if_pos c16] at H
            by_cases c17 : ji < (xs.length : Int)
            · rw [if_pos c17] at H
              obtain ⟨t3, A180, H⟩ := Option.bind_eq_some_iff.mp H
              have A18 := Aside0.mk A180
              have H' := Aside0.mk H
              have c16b0 : decide (0 ≤ ji) = true := decide_eq_true c16
              have c17b0 : decide (ji < (xs.length : Int)) = true := decide_eq_true c17
              have c19b0 : decide (ji ≤ (xs.length : Int)) = true := decide_eq_true (by omega)
              have P1 := Aside0.mk c16
              have P2 := Aside0.mk c17
              clear H A180
              obtain ⟨ad, rfl, hx⟩ := Kd.at_string (Kd.R_reads' HO.out).2.2 ji c16 c17
              replace c16 := eq_true c16
              replace c17 := eq_true c17
              have hcz_0 : wr.cell? ⟨g, 0, none⟩ = some (.int .i64 n) := (blk_cell BK.out 0).trans rfl
              have hcz_1 : wr.cell? ⟨g, 1, none⟩ = some (.slice (some ad) xs.length co) := (blk_cell BK.out 1).trans rfl
              have hfz_0 := blk_frozen BK.out 0
              have hfz_1 := blk_frozen BK.out 1
              obtain ⟨ys, hys⟩ : ∃ ys, xs.take (ji : Int).toNat = ys := ⟨_, rfl⟩
              rw [hys] at H'
              have NY := Aside0.mk hys
              clear hys
              go_wp2_with ((with_reducible refine gate_callee (f := 129) rfl ?_); refine goesL_ (some 32) rfl rfl Try.func129 (by kernel_rfl) rfl #[.string (rdOf ByteArray.empty xs ji), .string x4] rfl (by (try simp only [List.map_toArray, List.map_cons, List.map_nil]); first | done | (simp only [hji]; rfl) | rfl) ?_; (with_reducible refine (impl_NodeHash.calls (rdOf ByteArray.empty xs ji) x4 t3 _ A18.out).mono ?_); rintro e w21 ⟨rfl, hb⟩; refine ⟨_, rfl, ?_⟩; have n0_ := Aside0.mk (Kd.R_below (by (with_reducible repeat (first | apply Kd.R_alloc | apply Kd.R_drewN | apply Kd.R_drew)); exact HO.out) hb); have n1_ := Aside0.mk (blk_below (g := g) (o := .cells #[.int .i64 n, .slice (some ad) xs.length co] 61 (0, 0)) (by (with_reducible repeat (first | refine blk_drewN ?_ _ | refine blk_drew ?_ | refine blk_alloc ?_ _)); exact BK.out) hb); have n2_ := Aside0.mk (below_step HB.out hb); have n3_ := Aside0.mk (HKP.out.below hb); clear HO BK HB HKP hcz_0 hcz_1 hfz_0 hfz_1; have HO := n0_; have BK := n1_; have HB := n2_; have HKP := n3_; clear n0_ n1_ n2_ n3_ hb; have hcz_0 : w21.cell? ⟨g, 0, none⟩ = some (.int .i64 n) := (blk_cell BK.out 0).trans rfl; have hcz_1 : w21.cell? ⟨g, 1, none⟩ = some (.slice (some ad) xs.length co) := (blk_cell BK.out 1).trans rfl; have hfz_0 := blk_frozen BK.out 0; have hfz_1 := blk_frozen BK.out 1; have q1_ := P1.out; have q2_ : ji ≤ (xs.length : Int) := Int.le_of_lt P2.out; obtain ⟨i0_, hi0_, _, hsz_, _⟩ := info_parts info9; have hcut22 := cut_to (P := Try.prog) 24 9 .i64 Try.underlying24 hi0_ (some ad) xs.length co ji q1_ q2_ (Kd.R_reads' HO.out).2.1; have hr22 := Kd.R_take (m := (ji : Int).toNat) HO.out (by omega); have hy22 : ys.length = (ji : Int).toNat := (by rw [← NY.out, List.length_take]; omega); rw [NY.out] at hr22; rw [← hy22] at hr22 hcut22; clear hy22 hi0_ hsz_ HO q1_ q2_; have HO := Aside0.mk hr22; clear hr22)
              go_roundg k1
              case measure => have := HK1.out; omega
              case rel => exact ⟨t3, ys, x5 / 2, some ad, co, (by first | rfl | (simp; done) | (simp [*]; done)), (by first | rfl | (simp; done) | (simp [*]; done)), H', ⟨by have := HK1.out; omega⟩, ⟨Kd.R_far (by (with_reducible repeat (first | apply Kd.R_alloc | apply Kd.R_drewN | apply Kd.R_drew)); exact HO.out) (fun _ hk => hk) _⟩, HS, ⟨blk_put (by (with_reducible repeat (first | refine blk_drewN ?_ _ | refine blk_drew ?_ | refine blk_alloc ?_ _)); exact BK.out) 1 _ rfl⟩, ⟨below_set (by repeat (first | (with_reducible first | exact HB.out | apply below_alloc | apply pw_below_drewN | apply below_drew1) | exact HB.out)) GE.out⟩, ⟨Kept.setCell (by first | exact HKP.out | exact HKP.out.drew | exact HKP.out.drewN _) (.inl (.inl rfl)) _⟩⟩
            · rw [if_neg c17] at H
              exact absurd H (by simp)
          · rw [if_neg c16] at H
            exact absurd H (by simp)
        · rw [if_neg c14] at H
          have c14b0 : ((Go.bits .and .i64 x5 1) == 1) = false := beq_eq_false_iff_ne.mpr c14
          have c14b1 : ((Go.bits .and .i64 x5 1) != 1) = true := bne_iff_ne.mpr c14
          clear c14
          simp only [Option.some.injEq, Prod.mk.injEq] at H
          obtain ⟨rfl, rfl⟩ := H
          have hcz_0 : wr.cell? ⟨g, 0, none⟩ = some (.int .i64 n) := (blk_cell BK.out 0).trans rfl
          have hcz_1 : wr.cell? ⟨g, 1, none⟩ = some (.slice Ao xs.length co) := (blk_cell BK.out 1).trans rfl
          have hfz_0 := blk_frozen BK.out 0
          have hfz_1 := blk_frozen BK.out 1
          go_wp2_with ((with_reducible refine gate_builtin (b := .append) (xs := #[.tmp 46, .tmp 48]) rfl ?_); (try (refine gate_guard (by rfl) ?_; dsimp only)); at_builtin; refine Kd.R_append Kd.string (w0 := w0) w0.heap.size rfl (.tmp 46) (.tmp 48) 24 9 (.string ⟨#[]⟩) 16 rfl Try.underlying24 info9 rfl (by decide) (by omega) (.slice Ao xs.length co) xs x4 [.string x4] (fun k => k ≠ g) (fun _ => False) rfl rfl ?aP (fun _ hk => hk.elim) ?aF ?aO ?aB ?aS ?aL ?_; (case aP => exact rfl); (case aB => exact HB.out); (case aF => exact (fun k hk e => by have := blk_lt BK.out; omega)); (case aO => exact HO.out); (case aS => exact HB.out.size); (case aL => have := LM.out; omega); intro v2 w2 ho hb hgr hat; have n0_ := Aside0.mk hb; have n1_ := Aside0.mk ho; have n2_ := Aside0.mk (Go.Proofs.YtoipfpjcpngpfaaW.PrintWords.blk_grown BK.out hgr (Kd.R_ne HO.out BK.out (by decide))); have n3_ := Aside0.mk (HKP.out.of_grown hgr (fun k hk => .inl (.inr (by rw [← HS.out]; exact hk.symm)))); clear HO BK HB HKP hcz_0 hcz_1 hfz_0 hfz_1; have HB := n0_; have HO := n1_; have BK := n2_; have HKP := n3_; clear n0_ n1_ n2_ n3_ ho hb hgr hat; obtain ⟨Ao2, co2, e2⟩ := Kd.R_slice HO.out; subst e2; have hcz_0 : w2.cell? ⟨g, 0, none⟩ = some (.int .i64 n) := (blk_cell BK.out 0).trans rfl; have hcz_1 : w2.cell? ⟨g, 1, none⟩ = some (.slice Ao xs.length co) := (blk_cell BK.out 1).trans rfl; have hfz_0 := blk_frozen BK.out 0; have hfz_1 := blk_frozen BK.out 1)
          refine bodyPost_end (results_none rfl _ _ _) rfl ?_
          have hl1 : (xs ++ [x4]).length = xs.length + 1 := by simp
          refine ⟨rfl, Ao2, co2, Kd.R_far (Kd.R_far HO.out (fun _ hk => hk) _) (fun _ hk => hk) _, ?_, below_set (below_set HB.out GE.out) GE.out, Kept.setCell (Kept.setCell HKP.out (.inl (.inl rfl)) _) (.inl (.inl rfl)) _⟩
          rw [hl1]
          exact blk_put (blk_put BK.out 1 _ rfl) 0 _ rfl
  · rw [if_neg hl] at h
    cases h
end Go.Proofs.Ytoipfpjcpngpfaa.Q
end

section
/- Edges of lists: what stands in them, and that they tell the root of a list of at most ten texts. Plain. -/
namespace Go.Proofs.Ytoipfpjcpngpfaa.Q
open Go.RowKit Go.Proofs.Ytoipfpjcpngpfaa.B Go.Proofs.YtoipfpjcpngpfaaW.PrintWords Go.Proofs.YtoipfpjcpngpfaaW.PrintMore
set_option linter.unusedVariables false
set_option linter.unusedSimpArgs false

/-- A hash put behind n of them, its like joined. -/
def carry : Nat → Nat → List ByteArray → ByteArray → List ByteArray
  | 0, _, hs, h => hs ++ [h]
  | k + 1, n, hs, h => if n % 2 = 1 then carry k (n / 2) hs.dropLast (nodeH (hs.getLastD ByteArray.empty) h) else hs ++ [h]
def edgeStep (e : Nat × List ByteArray) (s : ByteArray) : Nat × List ByteArray := (e.1 + 1, carry 8 e.1 e.2 (leafH s))
def edgeFrom (e : Nat × List ByteArray) (l : List ByteArray) : Nat × List ByteArray := l.foldl edgeStep e
def edgeHs (l : List ByteArray) : List ByteArray := (edgeFrom (0, []) l).2
set_option maxRecDepth 100000 in
theorem pops_half : ∀ n : Fin 256, pops n.1 = pops (n.1 / 2) + n.1 % 2 := by decide +kernel
set_option maxRecDepth 100000 in
theorem bit_one : ∀ n : Fin 256, Go.bits .and .i64 (n.1 : Int) 1 = ((n.1 % 2 : Nat) : Int) := by decide +kernel
theorem pop_half {n : Nat} (h : n ≤ 255) : pops n = pops (n / 2) + n % 2 := pops_half ⟨n, by omega⟩
theorem bit1 {n : Nat} (h : n ≤ 255) : Go.bits .and .i64 (n : Int) 1 = ((n % 2 : Nat) : Int) := bit_one ⟨n, by omega⟩
theorem carry_length : ∀ (k n : Nat) (hs : List ByteArray) (h : ByteArray), n < 2 ^ k → n ≤ 254 → hs.length = pops n → (carry k n hs h).length = pops (n + 1) := by
  intro k
  induction k with
  | zero =>
    intro n hs h hn h2 hl
    obtain rfl : n = 0 := by omega
    have : pops 0 = 0 := by decide
    have h1 : pops (0 + 1) = 1 := by decide
    rw [h1]
    simp only [carry, List.length_append, List.length_singleton]
    omega
  | succ k ih =>
    intro n hs h hn h2 hl
    have p1 := pop_half (n := n) (by omega)
    have p2 := pop_half (n := n + 1) (by omega)
    rw [Nat.pow_succ] at hn
    by_cases ho : n % 2 = 1
    · have e : (n + 1) / 2 = n / 2 + 1 := by omega
      have := ih (n / 2) hs.dropLast (nodeH (hs.getLastD ByteArray.empty) h) (by omega) (by omega) (by rw [List.length_dropLast]; omega)
      simp only [carry]
      rw [if_pos ho, this, p2, e]
      omega
    · have e : (n + 1) / 2 = n / 2 := by omega
      simp only [carry]
      rw [if_neg ho, List.length_append, List.length_singleton, p2, e]
      omega
theorem getLastD_mem {l : List ByteArray} (h : 1 ≤ l.length) : l[l.length - 1]? = some (l.getLastD ByteArray.empty) := by
  obtain ⟨x, hx⟩ := get_some (l := l) (i := l.length - 1) (by omega)
  rw [hx, List.getLastD_eq_getLast?, List.getLast?_eq_getElem?, hx]
  rfl
theorem carry_32 : ∀ (k n : Nat) (hs : List ByteArray) (h : ByteArray), (∀ x ∈ hs, x.size = 32) → h.size = 32 → ∀ x ∈ carry k n hs h, x.size = 32 := by
  intro k
  induction k with
  | zero =>
    intro n hs h hx hh x hm
    simp only [carry, List.mem_append, List.mem_singleton] at hm
    rcases hm with hm | rfl
    · exact hx x hm
    · exact hh
  | succ k ih =>
    intro n hs h hx hh x hm
    simp only [carry] at hm
    by_cases ho : n % 2 = 1
    · rw [if_pos ho] at hm
      exact ih (n / 2) hs.dropLast _ (fun y hy => hx y ((List.dropLast_sublist _).subset hy)) (nodeH_size _ _) x hm
    · rw [if_neg ho] at hm
      simp only [List.mem_append, List.mem_singleton] at hm
      rcases hm with hm | rfl
      · exact hx x hm
      · exact hh
theorem addL_eq : ∀ (k n : Nat) (hs : List ByteArray) (h : ByteArray) (j : Nat), n < 2 ^ k → k ≤ j → n ≤ 255 → hs.length = pops n → (∀ x ∈ hs, x.size = 32) → h.size = 32 →
    ∃ a b, addL (j + 1) hs (n : Int) h = some (a, b) ∧ a ++ [b] = carry k n hs h ∧ a.length ≤ hs.length := by
  intro k
  induction k with
  | zero =>
    intro n hs h j hn hj h2 hl hx hh
    obtain rfl : n = 0 := by omega
    refine ⟨hs, h, ?_, rfl, Nat.le_refl _⟩
    simp only [addL]
    rw [bit1 (by omega), if_neg (by omega)]
  | succ k ih =>
    intro n hs h j hn hj h2 hl hx hh
    have p1 := pop_half (n := n) h2
    rw [Nat.pow_succ] at hn
    simp only [addL]
    rw [bit1 h2]
    by_cases ho : n % 2 = 1
    · have hl1 : 1 ≤ hs.length := by omega
      have hl8 : hs.length ≤ 300 := by
        have : pops n ≤ 300 := by
          have : ∀ n : Fin 256, pops n.1 ≤ 300 := by decide +kernel
          exact this ⟨n, by omega⟩
        omega
      have hw : wrap64 ((hs.length : Int) - 1) = ((hs.length - 1 : Nat) : Int) := by
        rw [B.w64 (by omega) (by omega)]
        omega
      have hg := getLastD_mem hl1
      have hg32 := hx _ (List.mem_of_getElem? hg)
      have hnd := impl_node (hs.getLastD ByteArray.empty) h (by omega)
      obtain ⟨j', rfl⟩ : ∃ j', j = j' + 1 := ⟨j - 1, by omega⟩
      obtain ⟨a, b, e1, e2, e3⟩ := ih (n / 2) hs.dropLast (nodeH (hs.getLastD ByteArray.empty) h) j' (by omega) (by omega) (by omega) (by rw [List.length_dropLast]; omega) (fun y hy => hx y ((List.dropLast_sublist _).subset hy)) (nodeH_size _ _)
      refine ⟨a, b, ?_, ?_, by rw [List.length_dropLast] at e3; omega⟩
      · rw [if_pos (by omega), hw, if_pos (by omega), if_pos (by omega), rdOf_at hg, hnd]
        simp only [Option.bind_some, Int.toNat_natCast]
        rw [← List.dropLast_eq_take]
        have e : (n : Int) / 2 = ((n / 2 : Nat) : Int) := by omega
        rw [e]
        exact e1
      · simp only [carry]
        rw [if_pos ho]
        exact e2
    · refine ⟨hs, h, ?_, ?_, Nat.le_refl _⟩
      · rw [if_neg (by omega)]
      · simp only [carry]
        rw [if_neg ho]
theorem impl_Edge_add_eq (n : Nat) (hs : List ByteArray) (s : ByteArray) (hn : n ≤ 200) (hl : hs.length = pops n) (hx : ∀ x ∈ hs, x.size = 32) (hs2 : s.size ≤ 1048700) : impl_Edge_add.f (n : Int) hs s = some (carry 8 n hs (leafH s)) := by
  unfold impl_Edge_add.f
  rw [impl_leaf s (by omega)]
  simp only [Option.bind_some]
  obtain ⟨a, b, e1, e2, e3⟩ := addL_eq 8 n hs (leafH s) 63 (by omega) (by omega) (by omega) hl hx (leafH_size s)
  have hl8 : hs.length ≤ 300 := by
    have : ∀ n : Fin 256, pops n.1 ≤ 300 := by decide +kernel
    have := this ⟨n, by omega⟩
    simp only at this
    omega
  rw [e1]
  simp only [Option.bind_some]
  rw [if_pos (by omega), e2]
theorem edgeFrom_inv : ∀ (l : List ByteArray) (e : Nat × List ByteArray), e.1 + l.length ≤ 200 → e.2.length = pops e.1 → (∀ x ∈ e.2, x.size = 32) → (edgeFrom e l).1 = e.1 + l.length ∧ (edgeFrom e l).2.length = pops (edgeFrom e l).1 ∧ ∀ x ∈ (edgeFrom e l).2, x.size = 32 := by
  intro l
  induction l with
  | nil =>
    intro e h1 h2 h3
    exact ⟨rfl, h2, h3⟩
  | cons a l ih =>
    intro e h1 h2 h3
    rw [List.length_cons] at h1 ⊢
    obtain ⟨p, q, r⟩ := ih (edgeStep e a) (by simp only [edgeStep]; omega) (carry_length 8 e.1 e.2 (leafH a) (by omega) (by omega) h2) (carry_32 8 e.1 e.2 (leafH a) h3 (leafH_size a))
    refine ⟨?_, q, r⟩
    show (edgeFrom (edgeStep e a) l).1 = _
    rw [p]
    simp only [edgeStep]
    omega
/-- The edge of a list. -/
def edgeOf (l : List ByteArray) : Int × List ByteArray := if (l.length : Int) > 200 then (0, []) else ((l.length : Int), edgeHs l)
theorem edgeHs_inv (l : List ByteArray) (h : l.length ≤ 200) : (edgeHs l).length = pops l.length ∧ ∀ x ∈ edgeHs l, x.size = 32 := by
  obtain ⟨p, q, r⟩ := edgeFrom_inv l (0, []) (by simp only; omega) (by simp only [List.length_nil]; decide) (by simp)
  rw [p] at q
  simp only [Nat.zero_add] at q
  exact ⟨q, r⟩
end Go.Proofs.Ytoipfpjcpngpfaa.Q
end

section
/- slices.Clone of texts: the same list in new memory (bounds: what append takes). -/
namespace Go.Proofs.Ytoipfpjcpngpfaa.Q
open Go.RowKit Go.Proofs.YtoipfpjcpngpfaaW.PrintWords Go.Proofs.YtoipfpjcpngpfaaW.PrintLast Go.Proofs.YtoipfpjcpngpfaaW.PrintMore
set_option linter.unusedVariables false
set_option linter.unusedSimpArgs false

def slices_Clone_string_string.f (l0 : List ByteArray) : Option (List ByteArray) := if l0.length ≤ 8796093022208 then some l0 else none
theorem slices_Clone_string_string.info : (Try.prog.info? 9).map (fun i => (i.zero, i.size, i.bytes)) = some (some (.string ⟨#[]⟩), 1, 16) := by kernel_rfl
set_option maxHeartbeats 1000000 in
set_option maxRecDepth 100000 in
theorem slices_Clone_string_string.calls (A0 : Option Addr) (c0 : Nat) (l0 : List ByteArray) (r : List ByteArray) (w : World) (hr0 : Kd.C Kd.string w A0 l0.length l0) (hc0 : l0.length ≤ c0) (h : slices_Clone_string_string.f l0 = some r) :
    Calls Try.prog 164 #[.slice A0 l0.length c0] w fun e w' => ∃ v0_ : Value, e = .returned (v0_) ∧ Kd.R Kd.string 9 w' w.heap.size (fun _ => True) v0_ r ∧ Below w.heap.size w w' := by
  unfold slices_Clone_string_string.f at h
  by_cases hl : l0.length ≤ 8796093022208
  · rw [if_pos hl] at h
    obtain rfl := Option.some.inj h
    have LM := Aside0.mk hl
    have HR0 := Aside0.mk hr0
    have HC0 := Aside0.mk hc0
    have hn := fun W : World => Lib.run_eql_slice_nil (P := Try.prog) W 24 9 A0 l0.length c0 0 0 Try.underlying24
    clear hl h hc0
    cases A0 with
    | none =>
      have h0 : l0 = [] := by
        rcases Nat.eq_zero_or_pos l0.length with hz | hz
        · exact List.eq_nil_of_length_eq_zero hz
        · obtain ⟨ad, he, _⟩ := hr0.2.2 hz
          cases he
      subst h0
      clear hr0 hn
      have hn2 := fun W : World => Lib.run_eql_slice_nil (P := Try.prog) W 24 9 none 0 c0 0 0 Try.underlying24
      go_enter Try.func164, Try.ntmps164
      go_wp2
      go_ret
      exact ⟨_, rfl, Kd.R_nil _ _ _ _ _, Below.refl _ _⟩
    | some ad =>
      clear hr0
      go_enter Try.func164, Try.ntmps164
      go_wp2_with (first | ((with_reducible refine gate_dst (N := 5) rfl ?_); refine Kd.R_lit Kd.string _ 9 ?hg (N := 5) ?hd (w0 := w) (xs := ([] : List ByteArray)) (inner := []) (ok := fun _ => True) (okp := fun _ => True) ?hr ?hp (fun _ hk => hk) trivial (Below.refl _ _) (Nat.le_refl _) (by simp) ?_; (case hd => rfl); (case hg => rfl); (case hr => first | (go_simp; done) | (go_simp; rfl)); (case hp => exact (Reps.none _ _)); intro v1 w4 ho5 hb hg_ hnew_; clear hg_ hnew_; have HO := Aside0.mk ho5; have HB := Aside0.mk hb; clear ho5 hb) | ((with_reducible refine gate_builtin (b := .append) (xs := #[.tmp 5, .tmp 6]) rfl ?_); at_builtin; refine Kd.R_append_rows Kd.string (w0 := w) w.heap.size rfl (.tmp 5) (.tmp 6) 24 9 (.string ⟨#[]⟩) 16 rfl Try.underlying24 slices_Clone_string_string.info rfl (by decide) (by omega) v1 [] l0 _ _ _ (fun _ => True) (fun _ => False) rfl rfl ?aO ?aR (fun _ _ h => h) (fun _ h => h.elim) ?aF ?aB ?aS ?aL ?_; (case aR => exact Kd.C_below HR0.out HB.out); (case aB => exact HB.out); (case aF => exact (fun _ _ => trivial)); (case aO => exact HO.out); (case aS => exact HB.out.size); (case aL => have := LM.out; simp only [List.length_nil]; omega); intro v2 w6 ho hb hg hat; have HO2 := Aside0.mk ho; have HB2 := Aside0.mk hb; clear ho hb hg hat))
      go_ret
      exact ⟨_, rfl, by simpa using HO2.out, HB2.out⟩
  · rw [if_neg hl] at h
    cases h
end Go.Proofs.Ytoipfpjcpngpfaa.Q
end

section
-- Written by a program of this session (wip/tools/pp.sh) over the print of the kit.
namespace Go.Proofs.Ytoipfpjcpngpfaa.Q
open Go.RowKit Go.Proofs.YtoipfpjcpngpfaaW.PrintWords Go.Proofs.YtoipfpjcpngpfaaW.PrintLast Go.Proofs.YtoipfpjcpngpfaaW.PrintMore
attribute [local go_sem] max2_int min2_int max_two min_two max_three min_three max_four min_four   -- for this text's walks alone
set_option linter.unusedVariables false
set_option linter.unusedSimpArgs false

/-! ### impl_copyEdge: function 122 -/
def impl_copyEdge.f (a0_0 : Int) (l0_1 : List ByteArray) : Option (Int × List ByteArray) := (slices_Clone_string_string.f l0_1).bind fun t603 => (some (a0_0, t603))
set_option maxHeartbeats 8000000 in
set_option maxRecDepth 100000 in
theorem impl_copyEdge.calls (a0_0 : Int) (A0_1 : Option Addr) (c0_1 : Nat) (l0_1 : List ByteArray) (r1 : Int) (r2 : List ByteArray) (w : World) (hr0_1 : Kd.C Kd.string w A0_1 l0_1.length l0_1) (hc0_1 : l0_1.length ≤ c0_1) (h : impl_copyEdge.f a0_0 l0_1 = some (r1, r2)) :
    Calls Try.prog 122 #[.agg #[.int .i64 a0_0, .slice A0_1 l0_1.length c0_1]] w fun e w' => ∃ v1_ : Value, e = .returned (.agg #[.int .i64 r1, v1_]) ∧ Kd.R Kd.string 9 w' w.heap.size (fun _ => True) v1_ r2 ∧ Below w.heap.size w w' := by
  have hu61 := Try.underlying61
  have HR0_1 := Aside0.mk hr0_1
  have HC0_1 := Aside0.mk hc0_1
  clear hr0_1 hc0_1
  have HB := Aside0.mk (Below.refl w.heap.size w)
  have H : ((slices_Clone_string_string.f l0_1).bind fun t603 => (some (a0_0, t603))) = some (r1, r2) := h
  clear h
  replace H := Option.bind_eq_some_iff.mp H
  obtain ⟨t603, A20, H⟩ := H
  replace H : (some (a0_0, t603)) = some (r1, r2) := H
  have A2 := Aside0.mk A20
  clear A20
  simp only [Option.some.injEq, Prod.mk.injEq] at H
  obtain ⟨rfl, rfl⟩ := H
  go_enter Try.func122, Try.ntmps122
  go_wp2_with (first | ((with_reducible refine gate_dst (N := 1) rfl ?_); refine box_event ?hg (N := 1) ?hd (cs := #[.int .i64 a0_0, .slice A0_1 l0_1.length c0_1]) (t := 61) ?hr ?_; (case hd => rfl); (case hg => rfl); (case hr => first | (go_simp; done) | (go_simp; rfl)); intro gb601 hg w3 hbox hb; have n0_ := Aside0.mk (below_step (by repeat (first | (with_reducible first | exact HB.out | apply below_alloc | apply pw_below_drewN | apply below_drew1) | exact HB.out)) hb); have n1_ := Aside0.mk (hbox); have n2_ := Aside0.mk ((by rw [hg]; exact (below_size (by repeat (first | (with_reducible first | exact HB.out | apply below_alloc | apply pw_below_drewN | apply below_drew1) | exact HB.out))) : w.heap.size ≤ gb601)); have n3_ := Aside0.mk ((by rw [hg]; exact (below_size (by repeat (first | (with_reducible first | exact HB.out | apply below_alloc | apply pw_below_drewN | apply below_drew1) | exact HB.out))) : w.heap.size ≤ gb601)); clear HB; have HB := n0_; have BK601 := n1_; have GW601 := n2_; have GE601 := n3_; clear n0_ n1_ n2_ n3_; clear hb hbox hg) | ((with_reducible refine gate_dst (N := 2) rfl ?_); refine box_event ?hg (N := 2) ?hd (cs := #[.int .i64 0, .slice none 0 0]) (t := 61) ?hr ?_; (case hd => rfl); (case hg => rfl); (case hr => first | (go_simp; done) | (go_simp; rfl)); intro gb602 hg w4 hbox hb; have n0_ := Aside0.mk (blk_below (g := gb601) (o := .cells #[.int .i64 a0_0, .slice A0_1 l0_1.length c0_1] 61 (0, 0)) (by (with_reducible repeat (first | refine blk_drewN ?_ _ | refine blk_drew ?_ | refine blk_alloc ?_ _)); exact BK601.out) hb); have n1_ := Aside0.mk (below_step (by repeat (first | (with_reducible first | exact HB.out | apply below_alloc | apply pw_below_drewN | apply below_drew1 | refine below_set ?_ GE601.out) | exact HB.out)) hb); have n2_ := Aside0.mk (hbox); have n3_ := Aside0.mk ((by rw [hg]; exact (below_size (by repeat (first | (with_reducible first | exact HB.out | apply below_alloc | apply pw_below_drewN | apply below_drew1 | refine below_set ?_ GE601.out) | exact HB.out))) : w.heap.size ≤ gb602)); have n4_ := Aside0.mk ((by rw [hg]; exact (below_size (by repeat (first | (with_reducible first | exact HB.out | apply below_alloc | apply pw_below_drewN | apply below_drew1 | refine below_set ?_ GE601.out) | exact HB.out))) : w.heap.size ≤ gb602)); have n5_ := Aside0.mk ((by rw [hg]; exact Nat.ne_of_lt (blk_lt (g := gb601) (o := .cells #[.int .i64 a0_0, .slice A0_1 l0_1.length c0_1] 61 (0, 0)) (by (with_reducible repeat (first | refine blk_drewN ?_ _ | refine blk_drew ?_ | refine blk_alloc ?_ _)); exact BK601.out)) : gb601 ≠ gb602)); have n6_ := Aside0.mk ((by rw [hg]; exact Nat.ne_of_gt (blk_lt (g := gb601) (o := .cells #[.int .i64 a0_0, .slice A0_1 l0_1.length c0_1] 61 (0, 0)) (by (with_reducible repeat (first | refine blk_drewN ?_ _ | refine blk_drew ?_ | refine blk_alloc ?_ _)); exact BK601.out)) : gb602 ≠ gb601)); clear BK601; clear HB; have BK601 := n0_; have HB := n1_; have BK602 := n2_; have GW602 := n3_; have GE602 := n4_; have NB601_602 := n5_; have NB602_601 := n6_; clear n0_ n1_ n2_ n3_ n4_ n5_ n6_; clear hb hbox hg; have hnb5 := NB601_602.out; have hnc5 := NB602_601.out; have hcz6_0 : w4.cell? ⟨gb601, 0, none⟩ = some (.int .i64 a0_0) := (blk_cell BK601.out 0).trans rfl; have hcz6_1 : w4.cell? ⟨gb601, 1, none⟩ = some (.slice A0_1 l0_1.length c0_1) := (blk_cell BK601.out 1).trans rfl; have hfz6_0 := blk_frozen BK601.out 0; have hfz6_1 := blk_frozen BK601.out 1) | ((with_reducible refine gate_callee (f := 164) rfl ?_); refine goesL_ (some 5) rfl rfl Try.func164 (by kernel_rfl) rfl #[.slice A0_1 l0_1.length c0_1] rfl (by (try simp only [List.map_toArray, List.map_cons, List.map_nil]); first | done | rfl | (simp only [List.length_drop, List.length_take]; rfl)) ?_; (with_reducible refine (slices_Clone_string_string.calls _ _ l0_1 t603 _ ?side1 ?side2 A2.out).mono ?_); (case side1 => repeat (first | exact (Kd.C_below HR0_1.out HB.out) | (with_reducible refine Kd.C_alloc ?_ _) | (with_reducible refine Kd.C_drewN ?_ _) | (with_reducible refine Kd.C_drew ?_))); (case side2 => exact HC0_1.out); rintro e w7 ⟨v604, rfl, ho0, hb⟩; refine ⟨_, rfl, ?_⟩; have n0_ := Aside0.mk (Kd.R_lower ho0 (below_size (by repeat (first | (with_reducible first | exact HB.out | apply below_alloc | apply pw_below_drewN | apply below_drew1 | refine below_set ?_ GE601.out | refine below_set ?_ GE602.out) | exact HB.out)))); have n1_ := Aside0.mk (blk_below (g := gb601) (o := .cells #[.int .i64 a0_0, .slice A0_1 l0_1.length c0_1] 61 (0, 0)) (by (with_reducible repeat (first | refine blk_drewN ?_ _ | refine blk_drew ?_ | refine blk_alloc ?_ _)); exact BK601.out) hb); have n2_ := Aside0.mk (blk_below (g := gb602) (o := .cells #[.int .i64 0, .slice none 0 0] 61 (0, 0)) (by (with_reducible repeat (first | refine blk_drewN ?_ _ | refine blk_drew ?_ | refine blk_alloc ?_ _)); exact BK602.out) hb); have n3_ := Aside0.mk (below_step (by repeat (first | (with_reducible first | exact HB.out | apply below_alloc | apply pw_below_drewN | apply below_drew1 | refine below_set ?_ GE601.out | refine below_set ?_ GE602.out) | exact HB.out)) hb); clear BK601; clear BK602; clear HB; have HO605 := n0_; have BK601 := n1_; have BK602 := n2_; have HB := n3_; clear n0_ n1_ n2_ n3_; (try clear hb); (try clear hb2); (try clear hk); (try clear hi); (try clear ho0); obtain ⟨Ao8, co8, eo8⟩ := Kd.R_slice HO605.out; subst eo8; have hcz9_0 : w7.cell? ⟨gb601, 0, none⟩ = some (.int .i64 a0_0) := (blk_cell BK601.out 0).trans rfl; have hcz9_1 : w7.cell? ⟨gb601, 1, none⟩ = some (.slice A0_1 l0_1.length c0_1) := (blk_cell BK601.out 1).trans rfl; have hfz9_0 := blk_frozen BK601.out 0; have hfz9_1 := blk_frozen BK601.out 1; have hcz10_0 : w7.cell? ⟨gb602, 0, none⟩ = some (.int .i64 0) := (blk_cell BK602.out 0).trans rfl; have hcz10_1 : w7.cell? ⟨gb602, 1, none⟩ = some (.slice none 0 0) := (blk_cell BK602.out 1).trans rfl; have hfz10_0 := blk_frozen BK602.out 0; have hfz10_1 := blk_frozen BK602.out 1))
  refine bodyPost_ret (results_cell_row rfl _ _ gb602 61 #[.int .i64 a0_0, .slice Ao8 t603.length co8] (0, 0) _ rfl (by (with_reducible repeat (first | refine blk_drewN ?_ _ | refine blk_drew ?_ | refine blk_alloc ?_ _)); refine blk_put (cs := #[.int .i64 a0_0, .slice none 0 0]) ?_ 1 _ rfl; (with_reducible repeat (first | refine blk_drewN ?_ _ | refine blk_drew ?_ | refine blk_alloc ?_ _)); refine blk_put (cs := #[.int .i64 0, .slice none 0 0]) ?_ 0 _ rfl; (with_reducible repeat (first | refine blk_drewN ?_ _ | refine blk_drew ?_ | refine blk_alloc ?_ _)); refine blk_far ?_ NB602_601.out _; (with_reducible repeat (first | refine blk_drewN ?_ _ | refine blk_drew ?_ | refine blk_alloc ?_ _)); exact BK602.out) Try.underlying61 rfl (by kernel_rfl)) rfl ?_
  exact ⟨_, by first | rfl | (simp [errW_none, errW_some] <;> rfl) | (simp [*, errW_none, errW_some] <;> rfl), by (with_reducible repeat (first | apply Kd.R_alloc | apply Kd.R_drewN | apply Kd.R_drew)); exact Kd.R_mono (Kd.R_far (p := ⟨gb602, 1, none⟩) (Kd.R_far (p := ⟨gb602, 0, none⟩) (Kd.R_far (p := ⟨gb601, 1, none⟩) (Kd.R_types (Kd.R_types HO605.out BK601.out (by decide)) BK602.out (by decide)) (fun _ hk => hk.1.2) (.slice Ao8 t603.length co8)) (fun _ hk => hk.2) (.int .i64 a0_0)) (fun _ hk => hk.2) (.slice Ao8 t603.length co8)) (fun _ hk => trivial), by repeat (first | (with_reducible first | exact HB.out | apply below_alloc | apply pw_below_drewN | apply below_drew1 | refine below_set ?_ GE601.out | refine below_set ?_ GE602.out) | exact HB.out)⟩

end Go.Proofs.Ytoipfpjcpngpfaa.Q
end

section
/- The program's EdgeAdd: a text put behind a copy of a right edge with room. -/
namespace Go.Proofs.Ytoipfpjcpngpfaa.Q
open Go.RowKit Go.Proofs.Ytoipfpjcpngpfaa.B Go.Proofs.YtoipfpjcpngpfaaW.PrintWords Go.Proofs.YtoipfpjcpngpfaaW.PrintLast Go.Proofs.YtoipfpjcpngpfaaW.PrintMore
set_option linter.unusedVariables false
set_option linter.unusedSimpArgs false

def impl_EdgeAdd.f (n : Int) (hs : List ByteArray) (s : ByteArray) : Option (Int × List ByteArray × Bool) :=
  if hs.length ≤ 1048576 then (if n = 200 then some (n, hs, false) else (if edgeOk n hs = true then (impl_Edge_add.f n hs s).bind fun r => some (wrap64 (n + 1), r, true) else some (n, hs, false))) else none
theorem copyEdge_eq (n : Int) (hs : List ByteArray) (h : hs.length ≤ 1048576) : impl_copyEdge.f n hs = some (n, hs) := by
  unfold impl_copyEdge.f slices_Clone_string_string.f
  rw [if_pos (by omega)]
  rfl

set_option maxHeartbeats 4000000 in
set_option maxRecDepth 100000 in
theorem impl_EdgeAdd.calls (a0_0 : Int) (A0_1 : Option Addr) (c0_1 : Nat) (l0_1 : List ByteArray) (a1 : ByteArray) (r1 : Int) (r2 : List ByteArray) (r3 : Bool) (w : World) (hr0_1 : Kd.C Kd.string w A0_1 l0_1.length l0_1) (hc0_1 : l0_1.length ≤ c0_1) (h : impl_EdgeAdd.f a0_0 l0_1 a1 = some (r1, r2, r3)) :
    Calls Try.prog 47 #[.agg #[.int .i64 a0_0, .slice A0_1 l0_1.length c0_1], .string a1] w fun e w' => ∃ v1_ : Value, e = .returned (.tuple #[.agg #[.int .i64 r1, v1_], .bool r3]) ∧ Kd.R Kd.string 9 w' w.heap.size (fun _ => True) v1_ r2 ∧ Below w.heap.size w w' := by
  have hu32 := Try.underlying61
  have HR0 := Aside0.mk hr0_1
  have HC0 := Aside0.mk hc0_1
  have HB := Aside0.mk (Below.refl w.heap.size w)
  clear hr0_1 hc0_1
  unfold impl_EdgeAdd.f at h
  by_cases hl : l0_1.length ≤ 1048576
  · rw [if_pos hl] at h
    obtain ⟨k, hk⟩ := Ev.rounds (impl_EdgeOk_ev a0_0 l0_1 (by omega))
    have AK := Aside0.mk hk
    have AC := Aside0.mk (copyEdge_eq a0_0 l0_1 hl)
    have HH := Aside0.mk h
    clear hl hk h
    by_cases c1 : a0_0 = 200
    · have c1b0 : (a0_0 == 200) = true := beq_iff_eq.mpr c1
      have H := HH.out
      rw [if_pos c1] at H
      simp only [Option.some.injEq, Prod.mk.injEq] at H
      obtain ⟨rfl, rfl, rfl⟩ := H
      clear c1 HH
      go_enter Try.func47, Try.ntmps47
      go_wp2_with (first
        | ((with_reducible refine gate_dst (N := 2) rfl ?_); refine box_event ?hg (N := 2) ?hd (cs := #[.int .i64 a0_0, .slice A0_1 l0_1.length c0_1]) (t := 61) ?hr ?_; (case hd => rfl); (case hg => rfl); (case hr => first | (go_simp; done) | (go_simp; rfl)); intro g2 hg w2 hbox hb; have n0_ := Aside0.mk (below_step HB.out hb); have n1_ := Aside0.mk hbox; have n2_ := Aside0.mk ((by rw [hg]; exact below_size HB.out) : w.heap.size ≤ g2); clear HB; have HB := n0_; have B2 := n1_; have G2 := n2_; clear n0_ n1_ n2_ hb hbox hg)
        | ((with_reducible refine gate_dst (N := 4) rfl ?_); refine box_event ?hg (N := 4) ?hd (cs := #[.int .i64 0, .slice none 0 0]) (t := 61) ?hr ?_; (case hd => rfl); (case hg => rfl); (case hr => first | (go_simp; done) | (go_simp; rfl)); intro g4 hg w4 hbox hb; have n0_ := Aside0.mk (below_step HB.out hb); have n1_ := Aside0.mk hbox; have n2_ := Aside0.mk ((by rw [hg]; exact below_size HB.out) : w.heap.size ≤ g4); have n3_ := Aside0.mk (blk_below B2.out hb); have n4_ := Aside0.mk ((by rw [hg]; exact Nat.ne_of_lt (blk_lt B2.out)) : g2 ≠ g4); clear HB B2; have HB := n0_; have B4 := n1_; have G4 := n2_; have B2 := n3_; have N24 := n4_; clear n0_ n1_ n2_ n3_ n4_ hb hbox hg; have hcz2_0 : w4.cell? ⟨g2, 0, none⟩ = some (.int .i64 a0_0) := (blk_cell B2.out 0).trans rfl; have hcz2_1 : w4.cell? ⟨g2, 1, none⟩ = some (.slice A0_1 l0_1.length c0_1) := (blk_cell B2.out 1).trans rfl; have hfz2_0 := blk_frozen B2.out 0; have hfz2_1 := blk_frozen B2.out 1)
        | ((with_reducible refine gate_callee (f := 122) rfl ?_); refine goesL_ (some 8) rfl rfl Try.func122 (by kernel_rfl) rfl #[.agg #[.int .i64 a0_0, .slice A0_1 l0_1.length c0_1]] rfl (by (try simp only [List.map_toArray, List.map_cons, List.map_nil]); first | done | rfl) ?_; (with_reducible refine (impl_copyEdge.calls a0_0 A0_1 c0_1 l0_1 a0_0 l0_1 _ (Kd.C_below HR0.out HB.out) HC0.out AC.out).mono ?_); rintro e w5 ⟨v5, rfl, ho0, hb⟩; refine ⟨_, rfl, ?_⟩; have n0_ := Aside0.mk (Kd.R_lower ho0 (below_size HB.out)); have n1_ := Aside0.mk (blk_below B2.out hb); have n2_ := Aside0.mk (blk_below B4.out hb); have n3_ := Aside0.mk (below_step HB.out hb); clear B2 B4 HB hcz2_0 hcz2_1 hfz2_0 hfz2_1; have HO := n0_; have B2 := n1_; have B4 := n2_; have HB := n3_; clear n0_ n1_ n2_ n3_ ho0 hb; obtain ⟨Ao, co, eo⟩ := Kd.R_slice HO.out; subst eo)
        | ((with_reducible refine gate_dst (N := 6) rfl ?_); refine box_event ?hg (N := 6) ?hd (cs := #[.int .i64 0, .slice none 0 0]) (t := 61) ?hr ?_; (case hd => rfl); (case hg => rfl); (case hr => first | (go_simp; done) | (go_simp; rfl)); intro g6 hg w6 hbox hb; have n0_ := Aside0.mk (below_step HB.out hb); have n1_ := Aside0.mk hbox; have n2_ := Aside0.mk ((by rw [hg]; exact below_size HB.out) : w.heap.size ≤ g6); have n3_ := Aside0.mk (blk_below B2.out hb); have n4_ := Aside0.mk (blk_below B4.out hb); have n5_ := Aside0.mk ((by rw [hg]; exact Nat.ne_of_lt (blk_lt B2.out)) : g2 ≠ g6); have n6_ := Aside0.mk ((by rw [hg]; exact Nat.ne_of_lt (blk_lt B4.out)) : g4 ≠ g6); have n7_ := Aside0.mk (Kd.R_below HO.out hb); clear HB B2 B4 HO; have HB := n0_; have B6 := n1_; have G6 := n2_; have B2 := n3_; have B4 := n4_; have N26 := n5_; have N46 := n6_; have HO := n7_; clear n0_ n1_ n2_ n3_ n4_ n5_ n6_ n7_ hb hbox hg; have hcz2_0 : w6.cell? ⟨g2, 0, none⟩ = some (.int .i64 a0_0) := (blk_cell B2.out 0).trans rfl; have hcz2_1 : w6.cell? ⟨g2, 1, none⟩ = some (.slice A0_1 l0_1.length c0_1) := (blk_cell B2.out 1).trans rfl; have hfz2_0 := blk_frozen B2.out 0; have hfz2_1 := blk_frozen B2.out 1; have hcz4_0 : w6.cell? ⟨g4, 0, none⟩ = some (.int .i64 0) := (blk_cell B4.out 0).trans rfl; have hcz4_1 : w6.cell? ⟨g4, 1, none⟩ = some (.slice none 0 0) := (blk_cell B4.out 1).trans rfl; have hfz4_0 := blk_frozen B4.out 0; have hfz4_1 := blk_frozen B4.out 1; have hcz6_0 : w6.cell? ⟨g6, 0, none⟩ = some (.int .i64 0) := (blk_cell B6.out 0).trans rfl; have hcz6_1 : w6.cell? ⟨g6, 1, none⟩ = some (.slice none 0 0) := (blk_cell B6.out 1).trans rfl; have hfz6_0 := blk_frozen B6.out 0; have hfz6_1 := blk_frozen B6.out 1; have hn24 := N24.out; have hn26 := N26.out; have hn46 := N46.out; have hn42 := N24.out.symm; have hn62 := N26.out.symm; have hn64 := N46.out.symm)
)
      refine bodyPost_ret (results_ct rfl _ _ g4 61 #[.int .i64 a0_0, .slice Ao l0_1.length co] (0, 0) _ rfl (blk_put (blk_put (blk_far (blk_far B4.out N46.out _) N46.out _) 0 _ rfl) 1 _ rfl) Try.underlying61 rfl (by kernel_rfl)) rfl ?_
      exact ⟨_, rfl, Kd.R_mono (Kd.R_far (p := ⟨g4, 1, none⟩) (Kd.R_far (p := ⟨g4, 0, none⟩) (Kd.R_far (p := ⟨g6, 1, none⟩) (Kd.R_far (p := ⟨g6, 0, none⟩) (Kd.R_types (Kd.R_types HO.out B4.out (by decide)) B6.out (by decide)) (fun _ hk => hk.2) _) (fun _ hk => hk.2) _) (fun _ hk => hk.1.2) _) (fun _ hk => hk.1.2) _) (fun _ _ => trivial), below_set (below_set (below_set (below_set HB.out G6.out) G6.out) G4.out) G4.out⟩
    · have c1b0 : (a0_0 == 200) = false := beq_eq_false_iff_ne.mpr c1
      have H := HH.out
      rw [if_neg c1] at H
      clear c1 HH
      by_cases c2 : edgeOk a0_0 l0_1 = true
      · rw [if_pos c2] at H
        rw [c2] at AK
        obtain ⟨ys, ha, H⟩ := Option.bind_eq_some_iff.mp H
        simp only [Option.some.injEq, Prod.mk.injEq] at H
        obtain ⟨rfl, rfl, rfl⟩ := H
        have AA := Aside0.mk ha
        clear ha c2
        go_enter Try.func47, Try.ntmps47
        go_wp2_with (first
        | ((with_reducible refine gate_dst (N := 2) rfl ?_); refine box_event ?hg (N := 2) ?hd (cs := #[.int .i64 a0_0, .slice A0_1 l0_1.length c0_1]) (t := 61) ?hr ?_; (case hd => rfl); (case hg => rfl); (case hr => first | (go_simp; done) | (go_simp; rfl)); intro g2 hg w2 hbox hb; have n0_ := Aside0.mk (below_step HB.out hb); have n1_ := Aside0.mk hbox; have n2_ := Aside0.mk ((by rw [hg]; exact below_size HB.out) : w.heap.size ≤ g2); clear HB; have HB := n0_; have B2 := n1_; have G2 := n2_; clear n0_ n1_ n2_ hb hbox hg)
        | ((with_reducible refine gate_dst (N := 4) rfl ?_); refine box_event ?hg (N := 4) ?hd (cs := #[.int .i64 0, .slice none 0 0]) (t := 61) ?hr ?_; (case hd => rfl); (case hg => rfl); (case hr => first | (go_simp; done) | (go_simp; rfl)); intro g4 hg w4 hbox hb; have n0_ := Aside0.mk (below_step HB.out hb); have n1_ := Aside0.mk hbox; have n2_ := Aside0.mk ((by rw [hg]; exact below_size HB.out) : w.heap.size ≤ g4); have n3_ := Aside0.mk (blk_below B2.out hb); have n4_ := Aside0.mk ((by rw [hg]; exact Nat.ne_of_lt (blk_lt B2.out)) : g2 ≠ g4); clear HB B2; have HB := n0_; have B4 := n1_; have G4 := n2_; have B2 := n3_; have N24 := n4_; clear n0_ n1_ n2_ n3_ n4_ hb hbox hg; have hcz2_0 : w4.cell? ⟨g2, 0, none⟩ = some (.int .i64 a0_0) := (blk_cell B2.out 0).trans rfl; have hcz2_1 : w4.cell? ⟨g2, 1, none⟩ = some (.slice A0_1 l0_1.length c0_1) := (blk_cell B2.out 1).trans rfl; have hfz2_0 := blk_frozen B2.out 0; have hfz2_1 := blk_frozen B2.out 1)
        | ((with_reducible refine gate_callee (f := 122) rfl ?_); refine goesL_ (some 8) rfl rfl Try.func122 (by kernel_rfl) rfl #[.agg #[.int .i64 a0_0, .slice A0_1 l0_1.length c0_1]] rfl (by (try simp only [List.map_toArray, List.map_cons, List.map_nil]); first | done | rfl) ?_; (with_reducible refine (impl_copyEdge.calls a0_0 A0_1 c0_1 l0_1 a0_0 l0_1 _ (Kd.C_below HR0.out HB.out) HC0.out AC.out).mono ?_); rintro e w5 ⟨v5, rfl, ho0, hb⟩; refine ⟨_, rfl, ?_⟩; have n0_ := Aside0.mk (Kd.R_lower ho0 (below_size HB.out)); have n1_ := Aside0.mk (blk_below B2.out hb); have n2_ := Aside0.mk (blk_below B4.out hb); have n3_ := Aside0.mk (below_step HB.out hb); clear B2 B4 HB hcz2_0 hcz2_1 hfz2_0 hfz2_1; have HO := n0_; have B2 := n1_; have B4 := n2_; have HB := n3_; clear n0_ n1_ n2_ n3_ ho0 hb; obtain ⟨Ao, co, eo⟩ := Kd.R_slice HO.out; subst eo)
        | ((with_reducible refine gate_dst (N := 6) rfl ?_); refine box_event ?hg (N := 6) ?hd (cs := #[.int .i64 0, .slice none 0 0]) (t := 61) ?hr ?_; (case hd => rfl); (case hg => rfl); (case hr => first | (go_simp; done) | (go_simp; rfl)); intro g6 hg w6 hbox hb; have n0_ := Aside0.mk (below_step HB.out hb); have n1_ := Aside0.mk hbox; have n2_ := Aside0.mk ((by rw [hg]; exact below_size HB.out) : w.heap.size ≤ g6); have n3_ := Aside0.mk (blk_below B2.out hb); have n4_ := Aside0.mk (blk_below B4.out hb); have n5_ := Aside0.mk ((by rw [hg]; exact Nat.ne_of_lt (blk_lt B2.out)) : g2 ≠ g6); have n6_ := Aside0.mk ((by rw [hg]; exact Nat.ne_of_lt (blk_lt B4.out)) : g4 ≠ g6); have n7_ := Aside0.mk (Kd.R_below HO.out hb); clear HB B2 B4 HO; have HB := n0_; have B6 := n1_; have G6 := n2_; have B2 := n3_; have B4 := n4_; have N26 := n5_; have N46 := n6_; have HO := n7_; clear n0_ n1_ n2_ n3_ n4_ n5_ n6_ n7_ hb hbox hg; have hcz2_0 : w6.cell? ⟨g2, 0, none⟩ = some (.int .i64 a0_0) := (blk_cell B2.out 0).trans rfl; have hcz2_1 : w6.cell? ⟨g2, 1, none⟩ = some (.slice A0_1 l0_1.length c0_1) := (blk_cell B2.out 1).trans rfl; have hfz2_0 := blk_frozen B2.out 0; have hfz2_1 := blk_frozen B2.out 1; have hcz4_0 : w6.cell? ⟨g4, 0, none⟩ = some (.int .i64 0) := (blk_cell B4.out 0).trans rfl; have hcz4_1 : w6.cell? ⟨g4, 1, none⟩ = some (.slice none 0 0) := (blk_cell B4.out 1).trans rfl; have hfz4_0 := blk_frozen B4.out 0; have hfz4_1 := blk_frozen B4.out 1; have hcz6_0 : w6.cell? ⟨g6, 0, none⟩ = some (.int .i64 0) := (blk_cell B6.out 0).trans rfl; have hcz6_1 : w6.cell? ⟨g6, 1, none⟩ = some (.slice none 0 0) := (blk_cell B6.out 1).trans rfl; have hfz6_0 := blk_frozen B6.out 0; have hfz6_1 := blk_frozen B6.out 1; have hn24 := N24.out; have hn26 := N26.out; have hn46 := N46.out; have hn42 := N24.out.symm; have hn62 := N26.out.symm; have hn64 := N46.out.symm)
        | ((with_reducible refine gate_callee (f := 56) rfl ?_); (try (refine gate_guard (by rfl) ?_; dsimp only)); refine goesL_ (some 14) rfl rfl Try.func56 (by kernel_rfl) rfl #[.agg #[.int .i64 a0_0, .slice A0_1 l0_1.length c0_1]] rfl (by (try simp only [List.map_toArray, List.map_cons, List.map_nil]); first | done | rfl) ?_; (with_reducible refine (impl_EdgeOk.calls k a0_0 A0_1 c0_1 l0_1 true _ (Kd.C_below HR0.out (below_set (below_set HB.out G6.out) G6.out)) HC0.out AK.out).mono ?_); rintro e w7 ⟨rfl, hb⟩; refine ⟨_, rfl, ?_⟩; have n0_ := Aside0.mk (blk_below (o := .cells #[.int .i64 a0_0, .slice Ao l0_1.length co] 61 (0, 0)) (blk_put (blk_put B6.out 0 _ rfl) 1 _ rfl) hb); have n1_ := Aside0.mk (blk_below (o := .cells #[.int .i64 0, .slice none 0 0] 61 (0, 0)) (blk_far (blk_far B4.out N46.out _) N46.out _) hb); have n2_ := Aside0.mk (below_step (below_set (below_set HB.out G6.out) G6.out) hb); have n3_ := Aside0.mk (Kd.R_below (Kd.R_mono (Kd.R_far (p := ⟨g6, 1, none⟩) (Kd.R_far (p := ⟨g6, 0, none⟩) (Kd.R_types HO.out B6.out (by decide)) (fun _ hk => hk.2) (.int .i64 a0_0)) (fun _ hk => hk.2) (.slice Ao l0_1.length co)) (ok' := fun k => k ≠ g6) (fun _ hk => hk.2)) hb); clear B6 B4 HB HO B2 hcz2_0 hcz2_1 hcz4_0 hcz4_1 hcz6_0 hcz6_1 hfz2_0 hfz2_1 hfz4_0 hfz4_1 hfz6_0 hfz6_1 hb; have B6 := n0_; have B4 := n1_; have HB := n2_; have HO := n3_; clear n0_ n1_ n2_ n3_; have hcz4_0 : w7.cell? ⟨g4, 0, none⟩ = some (.int .i64 0) := (blk_cell B4.out 0).trans rfl; have hcz4_1 : w7.cell? ⟨g4, 1, none⟩ = some (.slice none 0 0) := (blk_cell B4.out 1).trans rfl; have hfz4_0 := blk_frozen B4.out 0; have hfz4_1 := blk_frozen B4.out 1; have hcz6_0 : w7.cell? ⟨g6, 0, none⟩ = some (.int .i64 a0_0) := (blk_cell B6.out 0).trans rfl; have hcz6_1 : w7.cell? ⟨g6, 1, none⟩ = some (.slice Ao l0_1.length co) := (blk_cell B6.out 1).trans rfl; have hfz6_0 := blk_frozen B6.out 0; have hfz6_1 := blk_frozen B6.out 1)
        | ((with_reducible refine gate_callee (f := 123) rfl ?_); refine goesL_ (some 19) rfl rfl Try.func123 (by kernel_rfl) rfl #[.pointer (some ⟨g6, 0, none⟩), .string a1] rfl (by (try simp only [List.map_toArray, List.map_cons, List.map_nil]); first | done | rfl) ?_; (with_reducible refine (impl_Edge_add.calls g6 a0_0 l0_1 a1 ys Ao co w _ G6.out B6.out HO.out HB.out AA.out).mono ?_); rintro e w8 ⟨rfl, A2, c2, ho, hb3, hb, hk⟩; refine ⟨_, rfl, ?_⟩; have n0_ := Aside0.mk (blk_kept B4.out hk (fun hs => hs.elim (fun e => N46.out e) (fun e => (Kd.R_ne HO.out B4.out (by decide)) e))); have n1_ := Aside0.mk ho; have n2_ := Aside0.mk hb3; have n3_ := Aside0.mk hb; clear B4 HO B6 HB hcz4_0 hcz4_1 hcz6_0 hcz6_1 hfz4_0 hfz4_1 hfz6_0 hfz6_1; have B4 := n0_; have HO := n1_; have B6 := n2_; have HB := n3_; clear n0_ n1_ n2_ n3_ ho hb3 hb hk; have hcz4_0 : w8.cell? ⟨g4, 0, none⟩ = some (.int .i64 0) := (blk_cell B4.out 0).trans rfl; have hcz4_1 : w8.cell? ⟨g4, 1, none⟩ = some (.slice none 0 0) := (blk_cell B4.out 1).trans rfl; have hfz4_0 := blk_frozen B4.out 0; have hfz4_1 := blk_frozen B4.out 1; have hcz6_0 : w8.cell? ⟨g6, 0, none⟩ = some (.int .i64 (wrap64 (a0_0 + 1))) := (blk_cell B6.out 0).trans rfl; have hcz6_1 : w8.cell? ⟨g6, 1, none⟩ = some (.slice A2 ys.length c2) := (blk_cell B6.out 1).trans rfl; have hfz6_0 := blk_frozen B6.out 0; have hfz6_1 := blk_frozen B6.out 1)
)
        refine bodyPost_ret (results_ct rfl _ _ g4 61 #[.int .i64 (wrap64 (a0_0 + 1)), .slice A2 ys.length c2] (0, 0) _ rfl (blk_put (blk_put B4.out 0 _ rfl) 1 _ rfl) Try.underlying61 rfl (by kernel_rfl)) rfl ?_
        exact ⟨_, rfl, Kd.R_mono (Kd.R_far (p := ⟨g4, 1, none⟩) (Kd.R_far (p := ⟨g4, 0, none⟩) (Kd.R_types HO.out B4.out (by decide)) (fun _ hk => hk.2) _) (fun _ hk => hk.2) _) (fun _ _ => trivial), below_set (below_set HB.out G4.out) G4.out⟩
      · rw [if_neg c2] at H
        rw [Bool.eq_false_iff.mpr c2] at AK
        simp only [Option.some.injEq, Prod.mk.injEq] at H
        obtain ⟨rfl, rfl, rfl⟩ := H
        clear c2
        go_enter Try.func47, Try.ntmps47
        go_wp2_with (first
        | ((with_reducible refine gate_dst (N := 2) rfl ?_); refine box_event ?hg (N := 2) ?hd (cs := #[.int .i64 a0_0, .slice A0_1 l0_1.length c0_1]) (t := 61) ?hr ?_; (case hd => rfl); (case hg => rfl); (case hr => first | (go_simp; done) | (go_simp; rfl)); intro g2 hg w2 hbox hb; have n0_ := Aside0.mk (below_step HB.out hb); have n1_ := Aside0.mk hbox; have n2_ := Aside0.mk ((by rw [hg]; exact below_size HB.out) : w.heap.size ≤ g2); clear HB; have HB := n0_; have B2 := n1_; have G2 := n2_; clear n0_ n1_ n2_ hb hbox hg)
        | ((with_reducible refine gate_dst (N := 4) rfl ?_); refine box_event ?hg (N := 4) ?hd (cs := #[.int .i64 0, .slice none 0 0]) (t := 61) ?hr ?_; (case hd => rfl); (case hg => rfl); (case hr => first | (go_simp; done) | (go_simp; rfl)); intro g4 hg w4 hbox hb; have n0_ := Aside0.mk (below_step HB.out hb); have n1_ := Aside0.mk hbox; have n2_ := Aside0.mk ((by rw [hg]; exact below_size HB.out) : w.heap.size ≤ g4); have n3_ := Aside0.mk (blk_below B2.out hb); have n4_ := Aside0.mk ((by rw [hg]; exact Nat.ne_of_lt (blk_lt B2.out)) : g2 ≠ g4); clear HB B2; have HB := n0_; have B4 := n1_; have G4 := n2_; have B2 := n3_; have N24 := n4_; clear n0_ n1_ n2_ n3_ n4_ hb hbox hg; have hcz2_0 : w4.cell? ⟨g2, 0, none⟩ = some (.int .i64 a0_0) := (blk_cell B2.out 0).trans rfl; have hcz2_1 : w4.cell? ⟨g2, 1, none⟩ = some (.slice A0_1 l0_1.length c0_1) := (blk_cell B2.out 1).trans rfl; have hfz2_0 := blk_frozen B2.out 0; have hfz2_1 := blk_frozen B2.out 1)
        | ((with_reducible refine gate_callee (f := 122) rfl ?_); refine goesL_ (some 8) rfl rfl Try.func122 (by kernel_rfl) rfl #[.agg #[.int .i64 a0_0, .slice A0_1 l0_1.length c0_1]] rfl (by (try simp only [List.map_toArray, List.map_cons, List.map_nil]); first | done | rfl) ?_; (with_reducible refine (impl_copyEdge.calls a0_0 A0_1 c0_1 l0_1 a0_0 l0_1 _ (Kd.C_below HR0.out HB.out) HC0.out AC.out).mono ?_); rintro e w5 ⟨v5, rfl, ho0, hb⟩; refine ⟨_, rfl, ?_⟩; have n0_ := Aside0.mk (Kd.R_lower ho0 (below_size HB.out)); have n1_ := Aside0.mk (blk_below B2.out hb); have n2_ := Aside0.mk (blk_below B4.out hb); have n3_ := Aside0.mk (below_step HB.out hb); clear B2 B4 HB hcz2_0 hcz2_1 hfz2_0 hfz2_1; have HO := n0_; have B2 := n1_; have B4 := n2_; have HB := n3_; clear n0_ n1_ n2_ n3_ ho0 hb; obtain ⟨Ao, co, eo⟩ := Kd.R_slice HO.out; subst eo)
        | ((with_reducible refine gate_dst (N := 6) rfl ?_); refine box_event ?hg (N := 6) ?hd (cs := #[.int .i64 0, .slice none 0 0]) (t := 61) ?hr ?_; (case hd => rfl); (case hg => rfl); (case hr => first | (go_simp; done) | (go_simp; rfl)); intro g6 hg w6 hbox hb; have n0_ := Aside0.mk (below_step HB.out hb); have n1_ := Aside0.mk hbox; have n2_ := Aside0.mk ((by rw [hg]; exact below_size HB.out) : w.heap.size ≤ g6); have n3_ := Aside0.mk (blk_below B2.out hb); have n4_ := Aside0.mk (blk_below B4.out hb); have n5_ := Aside0.mk ((by rw [hg]; exact Nat.ne_of_lt (blk_lt B2.out)) : g2 ≠ g6); have n6_ := Aside0.mk ((by rw [hg]; exact Nat.ne_of_lt (blk_lt B4.out)) : g4 ≠ g6); have n7_ := Aside0.mk (Kd.R_below HO.out hb); clear HB B2 B4 HO; have HB := n0_; have B6 := n1_; have G6 := n2_; have B2 := n3_; have B4 := n4_; have N26 := n5_; have N46 := n6_; have HO := n7_; clear n0_ n1_ n2_ n3_ n4_ n5_ n6_ n7_ hb hbox hg; have hcz2_0 : w6.cell? ⟨g2, 0, none⟩ = some (.int .i64 a0_0) := (blk_cell B2.out 0).trans rfl; have hcz2_1 : w6.cell? ⟨g2, 1, none⟩ = some (.slice A0_1 l0_1.length c0_1) := (blk_cell B2.out 1).trans rfl; have hfz2_0 := blk_frozen B2.out 0; have hfz2_1 := blk_frozen B2.out 1; have hcz4_0 : w6.cell? ⟨g4, 0, none⟩ = some (.int .i64 0) := (blk_cell B4.out 0).trans rfl; have hcz4_1 : w6.cell? ⟨g4, 1, none⟩ = some (.slice none 0 0) := (blk_cell B4.out 1).trans rfl; have hfz4_0 := blk_frozen B4.out 0; have hfz4_1 := blk_frozen B4.out 1; have hcz6_0 : w6.cell? ⟨g6, 0, none⟩ = some (.int .i64 0) := (blk_cell B6.out 0).trans rfl; have hcz6_1 : w6.cell? ⟨g6, 1, none⟩ = some (.slice none 0 0) := (blk_cell B6.out 1).trans rfl; have hfz6_0 := blk_frozen B6.out 0; have hfz6_1 := blk_frozen B6.out 1; have hn24 := N24.out; have hn26 := N26.out; have hn46 := N46.out; have hn42 := N24.out.symm; have hn62 := N26.out.symm; have hn64 := N46.out.symm)
        | ((with_reducible refine gate_callee (f := 56) rfl ?_); (try (refine gate_guard (by rfl) ?_; dsimp only)); refine goesL_ (some 14) rfl rfl Try.func56 (by kernel_rfl) rfl #[.agg #[.int .i64 a0_0, .slice A0_1 l0_1.length c0_1]] rfl (by (try simp only [List.map_toArray, List.map_cons, List.map_nil]); first | done | rfl) ?_; (with_reducible refine (impl_EdgeOk.calls k a0_0 A0_1 c0_1 l0_1 false _ (Kd.C_below HR0.out (below_set (below_set HB.out G6.out) G6.out)) HC0.out AK.out).mono ?_); rintro e w7 ⟨rfl, hb⟩; refine ⟨_, rfl, ?_⟩; have n0_ := Aside0.mk (blk_below (o := .cells #[.int .i64 a0_0, .slice Ao l0_1.length co] 61 (0, 0)) (blk_put (blk_put B6.out 0 _ rfl) 1 _ rfl) hb); have n1_ := Aside0.mk (blk_below (o := .cells #[.int .i64 0, .slice none 0 0] 61 (0, 0)) (blk_far (blk_far B4.out N46.out _) N46.out _) hb); have n2_ := Aside0.mk (below_step (below_set (below_set HB.out G6.out) G6.out) hb); have n3_ := Aside0.mk (Kd.R_below (Kd.R_mono (Kd.R_far (p := ⟨g6, 1, none⟩) (Kd.R_far (p := ⟨g6, 0, none⟩) (Kd.R_types HO.out B6.out (by decide)) (fun _ hk => hk.2) (.int .i64 a0_0)) (fun _ hk => hk.2) (.slice Ao l0_1.length co)) (ok' := fun k => k ≠ g6) (fun _ hk => hk.2)) hb); clear B6 B4 HB HO B2 hcz2_0 hcz2_1 hcz4_0 hcz4_1 hcz6_0 hcz6_1 hfz2_0 hfz2_1 hfz4_0 hfz4_1 hfz6_0 hfz6_1 hb; have B6 := n0_; have B4 := n1_; have HB := n2_; have HO := n3_; clear n0_ n1_ n2_ n3_; have hcz4_0 : w7.cell? ⟨g4, 0, none⟩ = some (.int .i64 0) := (blk_cell B4.out 0).trans rfl; have hcz4_1 : w7.cell? ⟨g4, 1, none⟩ = some (.slice none 0 0) := (blk_cell B4.out 1).trans rfl; have hfz4_0 := blk_frozen B4.out 0; have hfz4_1 := blk_frozen B4.out 1; have hcz6_0 : w7.cell? ⟨g6, 0, none⟩ = some (.int .i64 a0_0) := (blk_cell B6.out 0).trans rfl; have hcz6_1 : w7.cell? ⟨g6, 1, none⟩ = some (.slice Ao l0_1.length co) := (blk_cell B6.out 1).trans rfl; have hfz6_0 := blk_frozen B6.out 0; have hfz6_1 := blk_frozen B6.out 1)
)
        refine bodyPost_ret (results_ct rfl _ _ g4 61 #[.int .i64 a0_0, .slice Ao l0_1.length co] (0, 0) _ rfl (blk_put (blk_put B4.out 0 _ rfl) 1 _ rfl) Try.underlying61 rfl (by kernel_rfl)) rfl ?_
        exact ⟨_, rfl, Kd.R_mono (Kd.R_far (p := ⟨g4, 1, none⟩) (Kd.R_far (p := ⟨g4, 0, none⟩) (Kd.R_types HO.out B4.out (by decide)) (fun _ hk => hk.2) _) (fun _ hk => hk.2) _) (fun _ _ => trivial), below_set (below_set HB.out G4.out) G4.out⟩
  · rw [if_neg hl] at h
    cases h
end Go.Proofs.Ytoipfpjcpngpfaa.Q
end

section
-- Written by a program of this session (wip/tools/pp.sh) over the print of the kit.
namespace Go.Proofs.Ytoipfpjcpngpfaa.Q
open Go.RowKit Go.Proofs.YtoipfpjcpngpfaaW.PrintWords Go.Proofs.YtoipfpjcpngpfaaW.PrintLast Go.Proofs.YtoipfpjcpngpfaaW.PrintMore
attribute [local go_sem] max2_int min2_int max_two min_two max_three min_three max_four min_four   -- for this text's walks alone
set_option linter.unusedVariables false
set_option linter.unusedSimpArgs false

/-! ### impl_EdgeAll: function 59 -/
def impl_EdgeAll.l0 : Nat → List ByteArray → Int → Int → Int → List ByteArray → Int → List ByteArray → Option (Int × List ByteArray × Bool)
  | 0, _, _, _, _, _, _, _ => none
  | k + 1, x13, x14, x15, x602000, x602001, x608000, x608001 => if x15 < x14 then (if 0 ≤ x15 then (if x15 < (x13.length : Int) then ((impl_EdgeAdd.f x608000 x608001 (rdOf ByteArray.empty x13 x15)).bind fun bt609 => (if bt609.2.2 = true then (impl_EdgeAll.l0 k x13 x14 (wrap64 (x15 + 1)) x602000 x602001 bt609.1 bt609.2.1) else ((impl_copyEdge.f x602000 x602001).bind fun bt615 => (some (bt615.1, bt615.2, false))))) else (none)) else (none)) else (some (x608000, x608001, true))
def impl_EdgeAll.f (k : Nat) (a0_0 : Int) (l0_1 : List ByteArray) (l1 : List ByteArray) : Option (Int × List ByteArray × Bool) := (impl_copyEdge.f a0_0 l0_1).bind fun bt603 => (impl_EdgeAll.l0 k l1 (l1.length : Int) 0 a0_0 l0_1 bt603.1 bt603.2)
theorem impl_EdgeAll.mono_l : ∀ k, (∀ y0 y1 y2 y3 y4 y5 y6, LeO (impl_EdgeAll.l0 k y0 y1 y2 y3 y4 y5 y6) (impl_EdgeAll.l0 (k + 1) y0 y1 y2 y3 y4 y5 y6))
  | 0 => fun _ _ _ _ _ _ _ r h => by simp [impl_EdgeAll.l0] at h
  | k + 1 => by
    have ih0 := impl_EdgeAll.mono_l k
    · intro y0 y1 y2 y3 y4 y5 y6
      unfold impl_EdgeAll.l0
      repeat' first
      | (with_reducible exact ih0 _ _ _ _ _ _ _)
      | (with_reducible exact LeO.refl _)
      | (with_reducible exact LeO.none _)
      | (with_reducible refine LeO.ite ?_ ?_)
      | (with_reducible refine LeO.bind ?_ (fun _ => ?_))
      | exact ih0 _ _ _ _ _ _ _
      | exact LeO.none _
      | refine LeO.ite ?_ ?_
      | refine LeO.bind ?_ (fun _ => ?_)
theorem impl_EdgeAll.mono : ∀ a0 a1 a2 k, LeO (impl_EdgeAll.f k a0 a1 a2) (impl_EdgeAll.f (k + 1) a0 a1 a2) := by
  intro a0 a1 a2 k
  have ih0 := impl_EdgeAll.mono_l k
  unfold impl_EdgeAll.f
  repeat' first
      | (with_reducible exact ih0 _ _ _ _ _ _ _)
      | (with_reducible exact LeO.refl _)
      | (with_reducible exact LeO.none _)
      | (with_reducible refine LeO.ite ?_ ?_)
      | (with_reducible refine LeO.bind ?_ (fun _ => ?_))
      | exact ih0 _ _ _ _ _ _ _
      | exact LeO.none _
      | refine LeO.ite ?_ ?_
      | refine LeO.bind ?_ (fun _ => ?_)
set_option maxHeartbeats 8000000 in
set_option maxRecDepth 100000 in
theorem impl_EdgeAll.calls (k : Nat) (a0_0 : Int) (A0_1 : Option Addr) (c0_1 : Nat) (l0_1 : List ByteArray) (A1 : Option Addr) (c1 : Nat) (l1 : List ByteArray) (r1 : Int) (r2 : List ByteArray) (r3 : Bool) (w : World) (hr0_1 : Kd.C Kd.string w A0_1 l0_1.length l0_1) (hc0_1 : l0_1.length ≤ c0_1) (hr1 : Kd.C Kd.string w A1 l1.length l1) (hc1 : l1.length ≤ c1) (h : impl_EdgeAll.f k a0_0 l0_1 l1 = some (r1, r2, r3)) :
    Calls Try.prog 59 #[.agg #[.int .i64 a0_0, .slice A0_1 l0_1.length c0_1], .slice A1 l1.length c1] w fun e w' => ∃ v1_ : Value, e = .returned (.tuple #[.agg #[.int .i64 r1, v1_], .bool r3]) ∧ Kd.R Kd.string 9 w' w.heap.size (fun _ => True) v1_ r2 ∧ Below w.heap.size w w' := by
  have hu61 := Try.underlying61
  have HR0_1 := Aside0.mk hr0_1
  have HC0_1 := Aside0.mk hc0_1
  clear hr0_1 hc0_1
  have HR1 := Aside0.mk hr1
  have HC1 := Aside0.mk hc1
  clear hr1 hc1
  have HB := Aside0.mk (Below.refl w.heap.size w)
  have H : ((impl_copyEdge.f a0_0 l0_1).bind fun bt603 => (impl_EdgeAll.l0 k l1 (l1.length : Int) 0 a0_0 l0_1 bt603.1 bt603.2)) = some (r1, r2, r3) := h
  clear h
  replace H := Option.bind_eq_some_iff.mp H
  obtain ⟨⟨t603, t604⟩, A30, H⟩ := H
  replace H : (impl_EdgeAll.l0 k l1 (l1.length : Int) 0 a0_0 l0_1 t603 t604) = some (r1, r2, r3) := H
  have A3 := Aside0.mk A30
  clear A30
  have H' := Aside0.mk H
  clear H
  go_enter Try.func59, Try.ntmps59
  go_wp2_with (first | ((with_reducible refine gate_dst (N := 2) rfl ?_); refine box_event ?hg (N := 2) ?hd (cs := #[.int .i64 a0_0, .slice A0_1 l0_1.length c0_1]) (t := 61) ?hr ?_; (case hd => rfl); (case hg => rfl); (case hr => first | (go_simp; done) | (go_simp; rfl)); intro gb601 hg w4 hbox hb; have n0_ := Aside0.mk (below_step (by repeat (first | (with_reducible first | exact HB.out | apply below_alloc | apply pw_below_drewN | apply below_drew1) | exact HB.out)) hb); have n1_ := Aside0.mk (hbox); have n2_ := Aside0.mk ((by rw [hg]; exact (below_size (by repeat (first | (with_reducible first | exact HB.out | apply below_alloc | apply pw_below_drewN | apply below_drew1) | exact HB.out))) : w.heap.size ≤ gb601)); have n3_ := Aside0.mk ((by rw [hg]; exact (below_size (by repeat (first | (with_reducible first | exact HB.out | apply below_alloc | apply pw_below_drewN | apply below_drew1) | exact HB.out))) : w.heap.size ≤ gb601)); clear HB; have HB := n0_; have BK601 := n1_; have GW601 := n2_; have GE601 := n3_; clear n0_ n1_ n2_ n3_; clear hb hbox hg) | ((with_reducible refine gate_dst (N := 4) rfl ?_); refine box_event ?hg (N := 4) ?hd (cs := #[.int .i64 0, .slice none 0 0]) (t := 61) ?hr ?_; (case hd => rfl); (case hg => rfl); (case hr => first | (go_simp; done) | (go_simp; rfl)); intro gb602 hg w5 hbox hb; have n0_ := Aside0.mk (blk_below (g := gb601) (o := .cells #[.int .i64 a0_0, .slice A0_1 l0_1.length c0_1] 61 (0, 0)) (by (with_reducible repeat (first | refine blk_drewN ?_ _ | refine blk_drew ?_ | refine blk_alloc ?_ _)); exact BK601.out) hb); have n1_ := Aside0.mk (below_step (by repeat (first | (with_reducible first | exact HB.out | apply below_alloc | apply pw_below_drewN | apply below_drew1 | refine below_set ?_ GE601.out) | exact HB.out)) hb); have n2_ := Aside0.mk (hbox); have n3_ := Aside0.mk ((by rw [hg]; exact (below_size (by repeat (first | (with_reducible first | exact HB.out | apply below_alloc | apply pw_below_drewN | apply below_drew1 | refine below_set ?_ GE601.out) | exact HB.out))) : w.heap.size ≤ gb602)); have n4_ := Aside0.mk ((by rw [hg]; exact (below_size (by repeat (first | (with_reducible first | exact HB.out | apply below_alloc | apply pw_below_drewN | apply below_drew1 | refine below_set ?_ GE601.out) | exact HB.out))) : w.heap.size ≤ gb602)); have n5_ := Aside0.mk ((by rw [hg]; exact Nat.ne_of_lt (blk_lt (g := gb601) (o := .cells #[.int .i64 a0_0, .slice A0_1 l0_1.length c0_1] 61 (0, 0)) (by (with_reducible repeat (first | refine blk_drewN ?_ _ | refine blk_drew ?_ | refine blk_alloc ?_ _)); exact BK601.out)) : gb601 ≠ gb602)); have n6_ := Aside0.mk ((by rw [hg]; exact Nat.ne_of_gt (blk_lt (g := gb601) (o := .cells #[.int .i64 a0_0, .slice A0_1 l0_1.length c0_1] 61 (0, 0)) (by (with_reducible repeat (first | refine blk_drewN ?_ _ | refine blk_drew ?_ | refine blk_alloc ?_ _)); exact BK601.out)) : gb602 ≠ gb601)); clear BK601; clear HB; have BK601 := n0_; have HB := n1_; have BK602 := n2_; have GW602 := n3_; have GE602 := n4_; have NB601_602 := n5_; have NB602_601 := n6_; clear n0_ n1_ n2_ n3_ n4_ n5_ n6_; clear hb hbox hg; have hnb6 := NB601_602.out; have hnc6 := NB602_601.out; have hcz7_0 : w5.cell? ⟨gb601, 0, none⟩ = some (.int .i64 a0_0) := (blk_cell BK601.out 0).trans rfl; have hcz7_1 : w5.cell? ⟨gb601, 1, none⟩ = some (.slice A0_1 l0_1.length c0_1) := (blk_cell BK601.out 1).trans rfl; have hfz7_0 := blk_frozen BK601.out 0; have hfz7_1 := blk_frozen BK601.out 1) | ((with_reducible refine gate_callee (f := 122) rfl ?_); refine goesL_ (some 12) rfl rfl Try.func122 (by kernel_rfl) rfl #[.agg #[.int .i64 a0_0, .slice A0_1 l0_1.length c0_1]] rfl (by (try simp only [List.map_toArray, List.map_cons, List.map_nil]); first | done | rfl | (simp only [List.length_drop, List.length_take]; rfl)) ?_; (with_reducible refine (impl_copyEdge.calls a0_0 _ _ l0_1 t603 t604 _ ?side1 ?side2 A3.out).mono ?_); (case side1 => repeat (first | exact (Kd.C_below HR0_1.out HB.out) | (with_reducible refine Kd.C_alloc ?_ _) | (with_reducible refine Kd.C_drewN ?_ _) | (with_reducible refine Kd.C_drew ?_))); (case side2 => exact HC0_1.out); rintro e w8 ⟨v605, rfl, ho0, hb⟩; refine ⟨_, rfl, ?_⟩; have n0_ := Aside0.mk (Kd.R_lower ho0 (below_size (by repeat (first | (with_reducible first | exact HB.out | apply below_alloc | apply pw_below_drewN | apply below_drew1 | refine below_set ?_ GE601.out | refine below_set ?_ GE602.out) | exact HB.out)))); have n1_ := Aside0.mk (blk_below (g := gb601) (o := .cells #[.int .i64 a0_0, .slice A0_1 l0_1.length c0_1] 61 (0, 0)) (by (with_reducible repeat (first | refine blk_drewN ?_ _ | refine blk_drew ?_ | refine blk_alloc ?_ _)); exact BK601.out) hb); have n2_ := Aside0.mk (blk_below (g := gb602) (o := .cells #[.int .i64 0, .slice none 0 0] 61 (0, 0)) (by (with_reducible repeat (first | refine blk_drewN ?_ _ | refine blk_drew ?_ | refine blk_alloc ?_ _)); exact BK602.out) hb); have n3_ := Aside0.mk (below_step (by repeat (first | (with_reducible first | exact HB.out | apply below_alloc | apply pw_below_drewN | apply below_drew1 | refine below_set ?_ GE601.out | refine below_set ?_ GE602.out) | exact HB.out)) hb); clear BK601; clear BK602; clear HB; have HO606 := n0_; have BK601 := n1_; have BK602 := n2_; have HB := n3_; clear n0_ n1_ n2_ n3_; (try clear hb); (try clear hb2); (try clear hk); (try clear hi); (try clear ho0)) | ((with_reducible refine gate_dst (N := 6) rfl ?_); refine box_event ?hg (N := 6) ?hd (cs := #[.int .i64 0, .slice none 0 0]) (t := 61) ?hr ?_; (case hd => rfl); (case hg => rfl); (case hr => first | (go_simp; done) | (go_simp; rfl)); intro gb607 hg w9 hbox hb; have n0_ := Aside0.mk (Kd.R_below (by (with_reducible repeat (first | apply Kd.R_alloc | apply Kd.R_drewN | apply Kd.R_drew)); exact HO606.out) hb); have n1_ := Aside0.mk (blk_below (g := gb601) (o := .cells #[.int .i64 a0_0, .slice A0_1 l0_1.length c0_1] 61 (0, 0)) (by (with_reducible repeat (first | refine blk_drewN ?_ _ | refine blk_drew ?_ | refine blk_alloc ?_ _)); exact BK601.out) hb); have n2_ := Aside0.mk (blk_below (g := gb602) (o := .cells #[.int .i64 0, .slice none 0 0] 61 (0, 0)) (by (with_reducible repeat (first | refine blk_drewN ?_ _ | refine blk_drew ?_ | refine blk_alloc ?_ _)); exact BK602.out) hb); have n3_ := Aside0.mk (below_step (by repeat (first | (with_reducible first | exact HB.out | apply below_alloc | apply pw_below_drewN | apply below_drew1 | refine below_set ?_ GE601.out | refine below_set ?_ GE602.out) | exact HB.out)) hb); have n4_ := Aside0.mk (hbox); have n5_ := Aside0.mk ((by rw [hg]; exact (below_size (by repeat (first | (with_reducible first | exact HB.out | apply below_alloc | apply pw_below_drewN | apply below_drew1 | refine below_set ?_ GE601.out | refine below_set ?_ GE602.out) | exact HB.out))) : w.heap.size ≤ gb607)); have n6_ := Aside0.mk ((by rw [hg]; exact (below_size (by repeat (first | (with_reducible first | exact HB.out | apply below_alloc | apply pw_below_drewN | apply below_drew1 | refine below_set ?_ GE601.out | refine below_set ?_ GE602.out) | exact HB.out))) : w.heap.size ≤ gb607)); have n7_ := Aside0.mk ((by rw [hg]; exact Nat.ne_of_lt (blk_lt (g := gb601) (o := .cells #[.int .i64 a0_0, .slice A0_1 l0_1.length c0_1] 61 (0, 0)) (by (with_reducible repeat (first | refine blk_drewN ?_ _ | refine blk_drew ?_ | refine blk_alloc ?_ _)); exact BK601.out)) : gb601 ≠ gb607)); have n8_ := Aside0.mk ((by rw [hg]; exact Nat.ne_of_gt (blk_lt (g := gb601) (o := .cells #[.int .i64 a0_0, .slice A0_1 l0_1.length c0_1] 61 (0, 0)) (by (with_reducible repeat (first | refine blk_drewN ?_ _ | refine blk_drew ?_ | refine blk_alloc ?_ _)); exact BK601.out)) : gb607 ≠ gb601)); have n9_ := Aside0.mk ((by rw [hg]; exact Nat.ne_of_lt (blk_lt (g := gb602) (o := .cells #[.int .i64 0, .slice none 0 0] 61 (0, 0)) (by (with_reducible repeat (first | refine blk_drewN ?_ _ | refine blk_drew ?_ | refine blk_alloc ?_ _)); exact BK602.out)) : gb602 ≠ gb607)); have n10_ := Aside0.mk ((by rw [hg]; exact Nat.ne_of_gt (blk_lt (g := gb602) (o := .cells #[.int .i64 0, .slice none 0 0] 61 (0, 0)) (by (with_reducible repeat (first | refine blk_drewN ?_ _ | refine blk_drew ?_ | refine blk_alloc ?_ _)); exact BK602.out)) : gb607 ≠ gb602)); clear HO606; clear BK601; clear BK602; clear HB; have HO606 := n0_; have BK601 := n1_; have BK602 := n2_; have HB := n3_; have BK607 := n4_; have GW607 := n5_; have GE607 := n6_; have NB601_607 := n7_; have NB607_601 := n8_; have NB602_607 := n9_; have NB607_602 := n10_; clear n0_ n1_ n2_ n3_ n4_ n5_ n6_ n7_ n8_ n9_ n10_; clear hb hbox hg; have hnb10 := NB607_601.out; have hnc10 := NB601_607.out; have hnb11 := NB607_602.out; have hnc11 := NB602_607.out; have hcz12_0 : w9.cell? ⟨gb607, 0, none⟩ = some (.int .i64 0) := (blk_cell BK607.out 0).trans rfl; have hcz12_1 : w9.cell? ⟨gb607, 1, none⟩ = some (.slice none 0 0) := (blk_cell BK607.out 1).trans rfl; have hfz12_0 := blk_frozen BK607.out 0; have hfz12_1 := blk_frozen BK607.out 1; obtain ⟨Ao13, co13, eo13⟩ := Kd.R_slice HO606.out; subst eo13))
  go_loopg [15] k (fun kq v15 w' => ∃ (x15_1 : Int) (x603000_1 : Int) (x608000_1 : Int) (x608001_1 : List ByteArray) (u608001 : Value), v15 = .int .i64 x15_1 ∧ Aside0 (impl_EdgeAll.l0 kq l1 (l1.length : Int) x15_1 a0_0 l0_1 x608000_1 x608001_1 = some (r1, r2, r3)) ∧ Aside0 (kq ≤ k) ∧ Aside0 (Kd.R Kd.string 9 w' w.heap.size (fun _ => True) u608001 x608001_1) ∧ Aside0 (w'.heap[gb601]? = some (.cells #[.int .i64 a0_0, (.slice A0_1 l0_1.length c0_1)] 61 (0, 0))) ∧ Aside0 (w'.heap[gb602]? = some (.cells #[.int .i64 x603000_1, (.slice none 0 0)] 61 (0, 0))) ∧ Aside0 (w'.heap[gb607]? = some (.cells #[.int .i64 x608000_1, u608001] 61 (0, 0))) ∧ Aside0 (Below w.heap.size w w'))
  case atStart => exact ⟨(0), (0), (t603), (t604), (.slice Ao13 t604.length co13), (by first | rfl | (simp; done) | (simp [*]; done)), H', ⟨Nat.le_refl _⟩, ⟨by (with_reducible repeat (first | apply Kd.R_alloc | apply Kd.R_drewN | apply Kd.R_drew)); exact Kd.R_mono (Kd.R_far (p := ⟨gb607, 1, none⟩) (Kd.R_far (p := ⟨gb607, 0, none⟩) (Kd.R_types HO606.out BK607.out (by decide)) (fun _ hk => hk.2) (.int .i64 t603)) (fun _ hk => hk.2) (.slice Ao13 t604.length co13)) (fun _ hk => trivial)⟩, ⟨by (with_reducible repeat (first | refine blk_drewN ?_ _ | refine blk_drew ?_ | refine blk_alloc ?_ _)); refine blk_far ?_ NB601_607.out _; (with_reducible repeat (first | refine blk_drewN ?_ _ | refine blk_drew ?_ | refine blk_alloc ?_ _)); refine blk_far ?_ NB601_607.out _; (with_reducible repeat (first | refine blk_drewN ?_ _ | refine blk_drew ?_ | refine blk_alloc ?_ _)); exact BK601.out⟩, ⟨by (with_reducible repeat (first | refine blk_drewN ?_ _ | refine blk_drew ?_ | refine blk_alloc ?_ _)); refine blk_far ?_ NB602_607.out _; (with_reducible repeat (first | refine blk_drewN ?_ _ | refine blk_drew ?_ | refine blk_alloc ?_ _)); refine blk_far ?_ NB602_607.out _; (with_reducible repeat (first | refine blk_drewN ?_ _ | refine blk_drew ?_ | refine blk_alloc ?_ _)); exact BK602.out⟩, ⟨by (with_reducible repeat (first | refine blk_drewN ?_ _ | refine blk_drew ?_ | refine blk_alloc ?_ _)); refine blk_put (cs := #[.int .i64 t603, .slice none 0 0]) ?_ 1 _ rfl; (with_reducible repeat (first | refine blk_drewN ?_ _ | refine blk_drew ?_ | refine blk_alloc ?_ _)); refine blk_put (cs := #[.int .i64 0, .slice none 0 0]) ?_ 0 _ rfl; (with_reducible repeat (first | refine blk_drewN ?_ _ | refine blk_drew ?_ | refine blk_alloc ?_ _)); exact BK607.out⟩, ⟨by repeat (first | (with_reducible first | exact HB.out | apply below_alloc | apply pw_below_drewN | apply below_drew1 | refine below_set ?_ GE601.out | refine below_set ?_ GE602.out | refine below_set ?_ GE607.out) | exact HB.out)⟩⟩
  case round =>
    clear H'
    try clear c1
    try clear p2
    try clear c5
    try clear c6
    try clear c10
    try clear c11
    try clear c12
    try clear hcz12_0
    try clear hcz12_1
    try clear hcz7_0
    try clear hcz7_1
    try clear hfz12_0
    try clear hfz12_1
    try clear hfz7_0
    try clear hfz7_1
    obtain ⟨x15_1, x603000_1, x608000_1, x608001_1, u608001, rfl, HA, HK1, HO_608001, BK601, BK602, BK607, HB⟩ := hrel
    cases gk with
    | zero => exact absurd HA.out (by simp [impl_EdgeAll.l0])
    | succ k1 =>
      have H := HA.out
      clear HA
      simp only [impl_EdgeAll.l0] at H
      by_cases c14 : x15_1 < (l1.length : Int)
      · rw [if_pos c14] at H
        have c14b0 : decide (x15_1 < (l1.length : Int)) = true := decide_eq_true c14
        clear c14
        by_cases c15 : 0 ≤ x15_1
        · rw [if_pos c15] at H
          have c15b0 : decide (0 ≤ x15_1) = true := decide_eq_true c15
          clear c15
          by_cases c16 : x15_1 < (l1.length : Int)
          · rw [if_pos c16] at H
            have c16b0 : decide (x15_1 < (l1.length : Int)) = true := decide_eq_true c16
            clear c16
            replace H := Option.bind_eq_some_iff.mp H
            obtain ⟨⟨t609, t610, t613⟩, A170, H⟩ := H
            replace H : (if t613 = true then (impl_EdgeAll.l0 k1 l1 (l1.length : Int) (wrap64 (x15_1 + 1)) a0_0 l0_1 t609 t610) else ((impl_copyEdge.f a0_0 l0_1).bind fun bt615 => (some (bt615.1, bt615.2, false)))) = some (r1, r2, r3) := H
            have A17 := Aside0.mk A170
            clear A170
            by_cases c18 : t613 = true
            · subst c18
              have H1 : (impl_EdgeAll.l0 k1 l1 (l1.length : Int) (wrap64 (x15_1 + 1)) a0_0 l0_1 t609 t610) = some (r1, r2, r3) := by rw [if_pos rfl] at H; exact H
              clear H
              have H := H1
              clear H1
              have H' := Aside0.mk H
              clear H
              have p608 : 0 ≤ (x15_1 : Int) := of_decide_eq_true (by first | (with_reducible assumption) | assumption)
              have q608 : x15_1 < (l1.length : Int) := of_decide_eq_true (by first | (with_reducible assumption) | assumption)
              obtain ⟨ad608, e608, hx608_0⟩ := Kd.at_string HR1.out x15_1 p608 q608
              cases e608
              replace hx608_0 := (HB.out.cell (World.block_lt_of_cell? w _ hx608_0)).trans hx608_0
              replace p608 := eq_true p608
              replace q608 := eq_true q608
              have hnb19 := NB607_601.out
              have hnc19 := NB601_607.out
              have hnb20 := NB607_602.out
              have hnc20 := NB602_607.out
              have hcz21_0 : wr.cell? ⟨gb607, 0, none⟩ = some (.int .i64 x608000_1) := (blk_cell BK607.out 0).trans rfl
              have hcz21_1 : wr.cell? ⟨gb607, 1, none⟩ = some (u608001) := (blk_cell BK607.out 1).trans rfl
              have hfz21_0 := blk_frozen BK607.out 0
              have hfz21_1 := blk_frozen BK607.out 1
              obtain ⟨Ao22, co22, eo22⟩ := Kd.R_slice HO_608001.out
              subst eo22
              go_wp2_with (first | ((with_reducible refine gate_callee (f := 47) rfl ?_); refine goesL_ (some 22) rfl rfl Try.func47 (by kernel_rfl) rfl #[.agg #[.int .i64 x608000_1, .slice Ao22 x608001_1.length co22], .string (rdOf ByteArray.empty l1 x15_1)] rfl (by (try simp only [List.map_toArray, List.map_cons, List.map_nil]); first | done | rfl | (simp only [List.length_drop, List.length_take]; rfl)) ?_; (with_reducible refine (impl_EdgeAdd.calls x608000_1 _ _ x608001_1 (rdOf ByteArray.empty l1 x15_1) t609 t610 true _ ?side1 ?side2 A17.out).mono ?_); (case side1 => repeat (first | exact (Kd.R_reads' HO_608001.out).2.2 | (with_reducible refine Kd.C_alloc ?_ _) | (with_reducible refine Kd.C_drewN ?_ _) | (with_reducible refine Kd.C_drew ?_))); (case side2 => exact (Kd.R_reads' HO_608001.out).2.1); rintro e w23 ⟨v611, rfl, ho0, hb⟩; refine ⟨_, rfl, ?_⟩; have n0_ := Aside0.mk (Kd.R_elder' (by (with_reducible repeat (first | apply Kd.R_alloc | apply Kd.R_drewN | apply Kd.R_drew)); exact HO_608001.out) (Kd.R_base ho0) hb); have n1_ := Aside0.mk (Kd.R_lower (Kd.R_new' ho0 (Kd.R_lt (by (with_reducible repeat (first | apply Kd.R_alloc | apply Kd.R_drewN | apply Kd.R_drew)); exact HO_608001.out))) (below_size (by repeat (first | (with_reducible first | exact HB.out | apply below_alloc | apply pw_below_drewN | apply below_drew1 | refine below_set ?_ GE601.out | refine below_set ?_ GE602.out | refine below_set ?_ GE607.out) | exact HB.out)))); have n2_ := Aside0.mk (blk_below (g := gb601) (o := .cells #[.int .i64 a0_0, .slice A0_1 l0_1.length c0_1] 61 (0, 0)) (by (with_reducible repeat (first | refine blk_drewN ?_ _ | refine blk_drew ?_ | refine blk_alloc ?_ _)); exact BK601.out) hb); have n3_ := Aside0.mk (blk_below (g := gb602) (o := .cells #[.int .i64 x603000_1, .slice none 0 0] 61 (0, 0)) (by (with_reducible repeat (first | refine blk_drewN ?_ _ | refine blk_drew ?_ | refine blk_alloc ?_ _)); exact BK602.out) hb); have n4_ := Aside0.mk (blk_below (g := gb607) (o := .cells #[.int .i64 x608000_1, .slice Ao22 x608001_1.length co22] 61 (0, 0)) (by (with_reducible repeat (first | refine blk_drewN ?_ _ | refine blk_drew ?_ | refine blk_alloc ?_ _)); exact BK607.out) hb); have n5_ := Aside0.mk (below_step (by repeat (first | (with_reducible first | exact HB.out | apply below_alloc | apply pw_below_drewN | apply below_drew1 | refine below_set ?_ GE601.out | refine below_set ?_ GE602.out | refine below_set ?_ GE607.out) | exact HB.out)) hb); clear HO_608001; clear BK601; clear BK602; clear BK607; clear HB; have HO_608001 := n0_; have HO612 := n1_; have BK601 := n2_; have BK602 := n3_; have BK607 := n4_; have HB := n5_; clear n0_ n1_ n2_ n3_ n4_ n5_; (try clear hb); (try clear hb2); (try clear hk); (try clear hi); (try clear ho0)) | ((with_reducible refine gate_dst (N := 9) rfl ?_); refine box_event ?hg (N := 9) ?hd (cs := #[.int .i64 0, .slice none 0 0]) (t := 61) ?hr ?_; (case hd => rfl); (case hg => rfl); (case hr => first | (go_simp; done) | (go_simp; rfl)); intro gb614 hg w24 hbox hb; have n0_ := Aside0.mk (Kd.R_below (by (with_reducible repeat (first | apply Kd.R_alloc | apply Kd.R_drewN | apply Kd.R_drew)); exact HO_608001.out) hb); have n1_ := Aside0.mk (Kd.R_below (by (with_reducible repeat (first | apply Kd.R_alloc | apply Kd.R_drewN | apply Kd.R_drew)); exact HO612.out) hb); have n2_ := Aside0.mk (blk_below (g := gb601) (o := .cells #[.int .i64 a0_0, .slice A0_1 l0_1.length c0_1] 61 (0, 0)) (by (with_reducible repeat (first | refine blk_drewN ?_ _ | refine blk_drew ?_ | refine blk_alloc ?_ _)); exact BK601.out) hb); have n3_ := Aside0.mk (blk_below (g := gb602) (o := .cells #[.int .i64 x603000_1, .slice none 0 0] 61 (0, 0)) (by (with_reducible repeat (first | refine blk_drewN ?_ _ | refine blk_drew ?_ | refine blk_alloc ?_ _)); exact BK602.out) hb); have n4_ := Aside0.mk (blk_below (g := gb607) (o := .cells #[.int .i64 x608000_1, .slice Ao22 x608001_1.length co22] 61 (0, 0)) (by (with_reducible repeat (first | refine blk_drewN ?_ _ | refine blk_drew ?_ | refine blk_alloc ?_ _)); exact BK607.out) hb); have n5_ := Aside0.mk (below_step (by repeat (first | (with_reducible first | exact HB.out | apply below_alloc | apply pw_below_drewN | apply below_drew1 | refine below_set ?_ GE601.out | refine below_set ?_ GE602.out | refine below_set ?_ GE607.out) | exact HB.out)) hb); have n6_ := Aside0.mk (hbox); have n7_ := Aside0.mk ((by rw [hg]; exact (below_size (by repeat (first | (with_reducible first | exact HB.out | apply below_alloc | apply pw_below_drewN | apply below_drew1 | refine below_set ?_ GE601.out | refine below_set ?_ GE602.out | refine below_set ?_ GE607.out) | exact HB.out))) : w.heap.size ≤ gb614)); have n8_ := Aside0.mk ((by rw [hg]; exact (below_size (by repeat (first | (with_reducible first | exact HB.out | apply below_alloc | apply pw_below_drewN | apply below_drew1 | refine below_set ?_ GE601.out | refine below_set ?_ GE602.out | refine below_set ?_ GE607.out) | exact HB.out))) : w.heap.size ≤ gb614)); have n9_ := Aside0.mk ((by rw [hg]; exact Nat.ne_of_lt (blk_lt (g := gb601) (o := .cells #[.int .i64 a0_0, .slice A0_1 l0_1.length c0_1] 61 (0, 0)) (by (with_reducible repeat (first | refine blk_drewN ?_ _ | refine blk_drew ?_ | refine blk_alloc ?_ _)); exact BK601.out)) : gb601 ≠ gb614)); have n10_ := Aside0.mk ((by rw [hg]; exact Nat.ne_of_gt (blk_lt (g := gb601) (o := .cells #[.int .i64 a0_0, .slice A0_1 l0_1.length c0_1] 61 (0, 0)) (by (with_reducible repeat (first | refine blk_drewN ?_ _ | refine blk_drew ?_ | refine blk_alloc ?_ _)); exact BK601.out)) : gb614 ≠ gb601)); have n11_ := Aside0.mk ((by rw [hg]; exact Nat.ne_of_lt (blk_lt (g := gb602) (o := .cells #[.int .i64 x603000_1, .slice none 0 0] 61 (0, 0)) (by (with_reducible repeat (first | refine blk_drewN ?_ _ | refine blk_drew ?_ | refine blk_alloc ?_ _)); exact BK602.out)) : gb602 ≠ gb614)); have n12_ := Aside0.mk ((by rw [hg]; exact Nat.ne_of_gt (blk_lt (g := gb602) (o := .cells #[.int .i64 x603000_1, .slice none 0 0] 61 (0, 0)) (by (with_reducible repeat (first | refine blk_drewN ?_ _ | refine blk_drew ?_ | refine blk_alloc ?_ _)); exact BK602.out)) : gb614 ≠ gb602)); have n13_ := Aside0.mk ((by rw [hg]; exact Nat.ne_of_lt (blk_lt (g := gb607) (o := .cells #[.int .i64 x608000_1, .slice Ao22 x608001_1.length co22] 61 (0, 0)) (by (with_reducible repeat (first | refine blk_drewN ?_ _ | refine blk_drew ?_ | refine blk_alloc ?_ _)); exact BK607.out)) : gb607 ≠ gb614)); have n14_ := Aside0.mk ((by rw [hg]; exact Nat.ne_of_gt (blk_lt (g := gb607) (o := .cells #[.int .i64 x608000_1, .slice Ao22 x608001_1.length co22] 61 (0, 0)) (by (with_reducible repeat (first | refine blk_drewN ?_ _ | refine blk_drew ?_ | refine blk_alloc ?_ _)); exact BK607.out)) : gb614 ≠ gb607)); clear HO_608001; clear HO612; clear BK601; clear BK602; clear BK607; clear HB; have HO_608001 := n0_; have HO612 := n1_; have BK601 := n2_; have BK602 := n3_; have BK607 := n4_; have HB := n5_; have BK614 := n6_; have GW614 := n7_; have GE614 := n8_; have NB601_614 := n9_; have NB614_601 := n10_; have NB602_614 := n11_; have NB614_602 := n12_; have NB607_614 := n13_; have NB614_607 := n14_; clear n0_ n1_ n2_ n3_ n4_ n5_ n6_ n7_ n8_ n9_ n10_ n11_ n12_ n13_ n14_; clear hb hbox hg; have hnb25 := NB614_601.out; have hnc25 := NB601_614.out; have hnb26 := NB614_602.out; have hnc26 := NB602_614.out; have hnb27 := NB614_607.out; have hnc27 := NB607_614.out; have hcz28_0 : w24.cell? ⟨gb614, 0, none⟩ = some (.int .i64 0) := (blk_cell BK614.out 0).trans rfl; have hcz28_1 : w24.cell? ⟨gb614, 1, none⟩ = some (.slice none 0 0) := (blk_cell BK614.out 1).trans rfl; have hfz28_0 := blk_frozen BK614.out 0; have hfz28_1 := blk_frozen BK614.out 1; obtain ⟨Ao29, co29, eo29⟩ := Kd.R_slice HO612.out; subst eo29; have hcz30_0 : w24.cell? ⟨gb607, 0, none⟩ = some (.int .i64 x608000_1) := (blk_cell BK607.out 0).trans rfl; have hcz30_1 : w24.cell? ⟨gb607, 1, none⟩ = some (.slice Ao22 x608001_1.length co22) := (blk_cell BK607.out 1).trans rfl; have hfz30_0 := blk_frozen BK607.out 0; have hfz30_1 := blk_frozen BK607.out 1))
              go_roundg k1
              case measure => have := HK1.out; omega
              case rel => exact ⟨(wrap64 (x15_1 + 1)), (x603000_1), (t609), (t610), (.slice Ao29 t610.length co29), (by first | rfl | (simp; done) | (simp [*]; done)), H', ⟨by have := HK1.out; omega⟩, ⟨by (with_reducible repeat (first | apply Kd.R_alloc | apply Kd.R_drewN | apply Kd.R_drew)); exact Kd.R_mono (Kd.R_far (p := ⟨gb607, 1, none⟩) (Kd.R_far (p := ⟨gb607, 0, none⟩) (Kd.R_far (p := ⟨gb614, 1, none⟩) (Kd.R_far (p := ⟨gb614, 0, none⟩) (Kd.R_types (Kd.R_types HO612.out BK614.out (by decide)) BK607.out (by decide)) (fun _ hk => hk.1.2) (.int .i64 t609)) (fun _ hk => hk.1.2) (.slice Ao29 t610.length co29)) (fun _ hk => hk.2) (.int .i64 t609)) (fun _ hk => hk.2) (.slice Ao29 t610.length co29)) (fun _ hk => trivial)⟩, ⟨by (with_reducible repeat (first | refine blk_drewN ?_ _ | refine blk_drew ?_ | refine blk_alloc ?_ _)); refine blk_far ?_ NB601_607.out _; (with_reducible repeat (first | refine blk_drewN ?_ _ | refine blk_drew ?_ | refine blk_alloc ?_ _)); refine blk_far ?_ NB601_607.out _; (with_reducible repeat (first | refine blk_drewN ?_ _ | refine blk_drew ?_ | refine blk_alloc ?_ _)); refine blk_far ?_ NB601_614.out _; (with_reducible repeat (first | refine blk_drewN ?_ _ | refine blk_drew ?_ | refine blk_alloc ?_ _)); refine blk_far ?_ NB601_614.out _; (with_reducible repeat (first | refine blk_drewN ?_ _ | refine blk_drew ?_ | refine blk_alloc ?_ _)); exact BK601.out⟩, ⟨by (with_reducible repeat (first | refine blk_drewN ?_ _ | refine blk_drew ?_ | refine blk_alloc ?_ _)); refine blk_far ?_ NB602_607.out _; (with_reducible repeat (first | refine blk_drewN ?_ _ | refine blk_drew ?_ | refine blk_alloc ?_ _)); refine blk_far ?_ NB602_607.out _; (with_reducible repeat (first | refine blk_drewN ?_ _ | refine blk_drew ?_ | refine blk_alloc ?_ _)); refine blk_far ?_ NB602_614.out _; (with_reducible repeat (first | refine blk_drewN ?_ _ | refine blk_drew ?_ | refine blk_alloc ?_ _)); refine blk_far ?_ NB602_614.out _; (with_reducible repeat (first | refine blk_drewN ?_ _ | refine blk_drew ?_ | refine blk_alloc ?_ _)); exact BK602.out⟩, ⟨by (with_reducible repeat (first | refine blk_drewN ?_ _ | refine blk_drew ?_ | refine blk_alloc ?_ _)); refine blk_put (cs := #[.int .i64 t609, .slice Ao22 x608001_1.length co22]) ?_ 1 _ rfl; (with_reducible repeat (first | refine blk_drewN ?_ _ | refine blk_drew ?_ | refine blk_alloc ?_ _)); refine blk_put (cs := #[.int .i64 x608000_1, .slice Ao22 x608001_1.length co22]) ?_ 0 _ rfl; (with_reducible repeat (first | refine blk_drewN ?_ _ | refine blk_drew ?_ | refine blk_alloc ?_ _)); refine blk_far ?_ NB607_614.out _; (with_reducible repeat (first | refine blk_drewN ?_ _ | refine blk_drew ?_ | refine blk_alloc ?_ _)); refine blk_far ?_ NB607_614.out _; (with_reducible repeat (first | refine blk_drewN ?_ _ | refine blk_drew ?_ | refine blk_alloc ?_ _)); exact BK607.out⟩, ⟨by repeat (first | (with_reducible first | exact HB.out | apply below_alloc | apply pw_below_drewN | apply below_drew1 | refine below_set ?_ GE601.out | refine below_set ?_ GE602.out | refine below_set ?_ GE607.out | refine below_set ?_ GE614.out) | exact HB.out)⟩⟩
            · replace c18 := Bool.eq_false_iff.mpr c18
              subst c18
              have H1 : ((impl_copyEdge.f a0_0 l0_1).bind fun bt615 => (some (bt615.1, bt615.2, false))) = some (r1, r2, r3) := by rw [if_neg (show ¬ (false = true) by decide)] at H; exact H
              clear H
              have H := H1
              clear H1
              replace H := Option.bind_eq_some_iff.mp H
              obtain ⟨⟨t615, t616⟩, A310, H⟩ := H
              replace H : (some (t615, t616, false)) = some (r1, r2, r3) := H
              have A31 := Aside0.mk A310
              clear A310
              simp only [Option.some.injEq, Prod.mk.injEq] at H
              obtain ⟨rfl, rfl, rfl⟩ := H
              have p608 : 0 ≤ (x15_1 : Int) := of_decide_eq_true (by first | (with_reducible assumption) | assumption)
              have q608 : x15_1 < (l1.length : Int) := of_decide_eq_true (by first | (with_reducible assumption) | assumption)
              obtain ⟨ad608, e608, hx608_0⟩ := Kd.at_string HR1.out x15_1 p608 q608
              cases e608
              replace hx608_0 := (HB.out.cell (World.block_lt_of_cell? w _ hx608_0)).trans hx608_0
              replace p608 := eq_true p608
              replace q608 := eq_true q608
              have hnb32 := NB607_601.out
              have hnc32 := NB601_607.out
              have hnb33 := NB607_602.out
              have hnc33 := NB602_607.out
              have hcz34_0 : wr.cell? ⟨gb607, 0, none⟩ = some (.int .i64 x608000_1) := (blk_cell BK607.out 0).trans rfl
              have hcz34_1 : wr.cell? ⟨gb607, 1, none⟩ = some (u608001) := (blk_cell BK607.out 1).trans rfl
              have hfz34_0 := blk_frozen BK607.out 0
              have hfz34_1 := blk_frozen BK607.out 1
              obtain ⟨Ao35, co35, eo35⟩ := Kd.R_slice HO_608001.out
              subst eo35
              go_wp2_with (first | ((with_reducible refine gate_callee (f := 47) rfl ?_); refine goesL_ (some 22) rfl rfl Try.func47 (by kernel_rfl) rfl #[.agg #[.int .i64 x608000_1, .slice Ao35 x608001_1.length co35], .string (rdOf ByteArray.empty l1 x15_1)] rfl (by (try simp only [List.map_toArray, List.map_cons, List.map_nil]); first | done | rfl | (simp only [List.length_drop, List.length_take]; rfl)) ?_; (with_reducible refine (impl_EdgeAdd.calls x608000_1 _ _ x608001_1 (rdOf ByteArray.empty l1 x15_1) t609 t610 false _ ?side1 ?side2 A17.out).mono ?_); (case side1 => repeat (first | exact (Kd.R_reads' HO_608001.out).2.2 | (with_reducible refine Kd.C_alloc ?_ _) | (with_reducible refine Kd.C_drewN ?_ _) | (with_reducible refine Kd.C_drew ?_))); (case side2 => exact (Kd.R_reads' HO_608001.out).2.1); rintro e w36 ⟨v611, rfl, ho0, hb⟩; refine ⟨_, rfl, ?_⟩; have n0_ := Aside0.mk (Kd.R_elder' (by (with_reducible repeat (first | apply Kd.R_alloc | apply Kd.R_drewN | apply Kd.R_drew)); exact HO_608001.out) (Kd.R_base ho0) hb); have n1_ := Aside0.mk (Kd.R_lower (Kd.R_new' ho0 (Kd.R_lt (by (with_reducible repeat (first | apply Kd.R_alloc | apply Kd.R_drewN | apply Kd.R_drew)); exact HO_608001.out))) (below_size (by repeat (first | (with_reducible first | exact HB.out | apply below_alloc | apply pw_below_drewN | apply below_drew1 | refine below_set ?_ GE601.out | refine below_set ?_ GE602.out | refine below_set ?_ GE607.out) | exact HB.out)))); have n2_ := Aside0.mk (blk_below (g := gb601) (o := .cells #[.int .i64 a0_0, .slice A0_1 l0_1.length c0_1] 61 (0, 0)) (by (with_reducible repeat (first | refine blk_drewN ?_ _ | refine blk_drew ?_ | refine blk_alloc ?_ _)); exact BK601.out) hb); have n3_ := Aside0.mk (blk_below (g := gb602) (o := .cells #[.int .i64 x603000_1, .slice none 0 0] 61 (0, 0)) (by (with_reducible repeat (first | refine blk_drewN ?_ _ | refine blk_drew ?_ | refine blk_alloc ?_ _)); exact BK602.out) hb); have n4_ := Aside0.mk (blk_below (g := gb607) (o := .cells #[.int .i64 x608000_1, .slice Ao35 x608001_1.length co35] 61 (0, 0)) (by (with_reducible repeat (first | refine blk_drewN ?_ _ | refine blk_drew ?_ | refine blk_alloc ?_ _)); exact BK607.out) hb); have n5_ := Aside0.mk (below_step (by repeat (first | (with_reducible first | exact HB.out | apply below_alloc | apply pw_below_drewN | apply below_drew1 | refine below_set ?_ GE601.out | refine below_set ?_ GE602.out | refine below_set ?_ GE607.out) | exact HB.out)) hb); clear HO_608001; clear BK601; clear BK602; clear BK607; clear HB; have HO_608001 := n0_; have HO612 := n1_; have BK601 := n2_; have BK602 := n3_; have BK607 := n4_; have HB := n5_; clear n0_ n1_ n2_ n3_ n4_ n5_; (try clear hb); (try clear hb2); (try clear hk); (try clear hi); (try clear ho0)) | ((with_reducible refine gate_dst (N := 9) rfl ?_); refine box_event ?hg (N := 9) ?hd (cs := #[.int .i64 0, .slice none 0 0]) (t := 61) ?hr ?_; (case hd => rfl); (case hg => rfl); (case hr => first | (go_simp; done) | (go_simp; rfl)); intro gb614 hg w37 hbox hb; have n0_ := Aside0.mk (Kd.R_below (by (with_reducible repeat (first | apply Kd.R_alloc | apply Kd.R_drewN | apply Kd.R_drew)); exact HO_608001.out) hb); have n1_ := Aside0.mk (Kd.R_below (by (with_reducible repeat (first | apply Kd.R_alloc | apply Kd.R_drewN | apply Kd.R_drew)); exact HO612.out) hb); have n2_ := Aside0.mk (blk_below (g := gb601) (o := .cells #[.int .i64 a0_0, .slice A0_1 l0_1.length c0_1] 61 (0, 0)) (by (with_reducible repeat (first | refine blk_drewN ?_ _ | refine blk_drew ?_ | refine blk_alloc ?_ _)); exact BK601.out) hb); have n3_ := Aside0.mk (blk_below (g := gb602) (o := .cells #[.int .i64 x603000_1, .slice none 0 0] 61 (0, 0)) (by (with_reducible repeat (first | refine blk_drewN ?_ _ | refine blk_drew ?_ | refine blk_alloc ?_ _)); exact BK602.out) hb); have n4_ := Aside0.mk (blk_below (g := gb607) (o := .cells #[.int .i64 x608000_1, .slice Ao35 x608001_1.length co35] 61 (0, 0)) (by (with_reducible repeat (first | refine blk_drewN ?_ _ | refine blk_drew ?_ | refine blk_alloc ?_ _)); exact BK607.out) hb); have n5_ := Aside0.mk (below_step (by repeat (first | (with_reducible first | exact HB.out | apply below_alloc | apply pw_below_drewN | apply below_drew1 | refine below_set ?_ GE601.out | refine below_set ?_ GE602.out | refine below_set ?_ GE607.out) | exact HB.out)) hb); have n6_ := Aside0.mk (hbox); have n7_ := Aside0.mk ((by rw [hg]; exact (below_size (by repeat (first | (with_reducible first | exact HB.out | apply below_alloc | apply pw_below_drewN | apply below_drew1 | refine below_set ?_ GE601.out | refine below_set ?_ GE602.out | refine below_set ?_ GE607.out) | exact HB.out))) : w.heap.size ≤ gb614)); have n8_ := Aside0.mk ((by rw [hg]; exact (below_size (by repeat (first | (with_reducible first | exact HB.out | apply below_alloc | apply pw_below_drewN | apply below_drew1 | refine below_set ?_ GE601.out | refine below_set ?_ GE602.out | refine below_set ?_ GE607.out) | exact HB.out))) : w.heap.size ≤ gb614)); have n9_ := Aside0.mk ((by rw [hg]; exact Nat.ne_of_lt (blk_lt (g := gb601) (o := .cells #[.int .i64 a0_0, .slice A0_1 l0_1.length c0_1] 61 (0, 0)) (by (with_reducible repeat (first | refine blk_drewN ?_ _ | refine blk_drew ?_ | refine blk_alloc ?_ _)); exact BK601.out)) : gb601 ≠ gb614)); have n10_ := Aside0.mk ((by rw [hg]; exact Nat.ne_of_gt (blk_lt (g := gb601) (o := .cells #[.int .i64 a0_0, .slice A0_1 l0_1.length c0_1] 61 (0, 0)) (by (with_reducible repeat (first | refine blk_drewN ?_ _ | refine blk_drew ?_ | refine blk_alloc ?_ _)); exact BK601.out)) : gb614 ≠ gb601)); have n11_ := Aside0.mk ((by rw [hg]; exact Nat.ne_of_lt (blk_lt (g := gb602) (o := .cells #[.int .i64 x603000_1, .slice none 0 0] 61 (0, 0)) (by (with_reducible repeat (first | refine blk_drewN ?_ _ | refine blk_drew ?_ | refine blk_alloc ?_ _)); exact BK602.out)) : gb602 ≠ gb614)); have n12_ := Aside0.mk ((by rw [hg]; exact Nat.ne_of_gt (blk_lt (g := gb602) (o := .cells #[.int .i64 x603000_1, .slice none 0 0] 61 (0, 0)) (by (with_reducible repeat (first | refine blk_drewN ?_ _ | refine blk_drew ?_ | refine blk_alloc ?_ _)); exact BK602.out)) : gb614 ≠ gb602)); have n13_ := Aside0.mk ((by rw [hg]; exact Nat.ne_of_lt (blk_lt (g := gb607) (o := .cells #[.int .i64 x608000_1, .slice Ao35 x608001_1.length co35] 61 (0, 0)) (by (with_reducible repeat (first | refine blk_drewN ?_ _ | refine blk_drew ?_ | refine blk_alloc ?_ _)); exact BK607.out)) : gb607 ≠ gb614)); have n14_ := Aside0.mk ((by rw [hg]; exact Nat.ne_of_gt (blk_lt (g := gb607) (o := .cells #[.int .i64 x608000_1, .slice Ao35 x608001_1.length co35] 61 (0, 0)) (by (with_reducible repeat (first | refine blk_drewN ?_ _ | refine blk_drew ?_ | refine blk_alloc ?_ _)); exact BK607.out)) : gb614 ≠ gb607)); clear HO_608001; clear HO612; clear BK601; clear BK602; clear BK607; clear HB; have HO_608001 := n0_; have HO612 := n1_; have BK601 := n2_; have BK602 := n3_; have BK607 := n4_; have HB := n5_; have BK614 := n6_; have GW614 := n7_; have GE614 := n8_; have NB601_614 := n9_; have NB614_601 := n10_; have NB602_614 := n11_; have NB614_602 := n12_; have NB607_614 := n13_; have NB614_607 := n14_; clear n0_ n1_ n2_ n3_ n4_ n5_ n6_ n7_ n8_ n9_ n10_ n11_ n12_ n13_ n14_; clear hb hbox hg; have hnb38 := NB614_601.out; have hnc38 := NB601_614.out; have hnb39 := NB614_602.out; have hnc39 := NB602_614.out; have hnb40 := NB614_607.out; have hnc40 := NB607_614.out; have hcz41_0 : w37.cell? ⟨gb614, 0, none⟩ = some (.int .i64 0) := (blk_cell BK614.out 0).trans rfl; have hcz41_1 : w37.cell? ⟨gb614, 1, none⟩ = some (.slice none 0 0) := (blk_cell BK614.out 1).trans rfl; have hfz41_0 := blk_frozen BK614.out 0; have hfz41_1 := blk_frozen BK614.out 1; obtain ⟨Ao42, co42, eo42⟩ := Kd.R_slice HO612.out; subst eo42; have hnb43 := NB601_602.out; have hnc43 := NB602_601.out; have hcz44_0 : w37.cell? ⟨gb601, 0, none⟩ = some (.int .i64 a0_0) := (blk_cell BK601.out 0).trans rfl; have hcz44_1 : w37.cell? ⟨gb601, 1, none⟩ = some (.slice A0_1 l0_1.length c0_1) := (blk_cell BK601.out 1).trans rfl; have hfz44_0 := blk_frozen BK601.out 0; have hfz44_1 := blk_frozen BK601.out 1) | ((with_reducible refine gate_callee (f := 122) rfl ?_); refine goesL_ (some 28) rfl rfl Try.func122 (by kernel_rfl) rfl #[.agg #[.int .i64 a0_0, .slice A0_1 l0_1.length c0_1]] rfl (by (try simp only [List.map_toArray, List.map_cons, List.map_nil]); first | done | rfl | (simp only [List.length_drop, List.length_take]; rfl)) ?_; (with_reducible refine (impl_copyEdge.calls a0_0 _ _ l0_1 t615 t616 _ ?side1 ?side2 A31.out).mono ?_); (case side1 => exact Kd.C_below HR0_1.out (by repeat (first | (with_reducible first | exact HB.out | apply below_alloc | apply pw_below_drewN | apply below_drew1 | refine below_set ?_ GE601.out | refine below_set ?_ GE602.out | refine below_set ?_ GE607.out | refine below_set ?_ GE614.out) | exact HB.out))); (case side2 => exact HC0_1.out); rintro e w45 ⟨v617, rfl, ho0, hb⟩; refine ⟨_, rfl, ?_⟩; have n0_ := Aside0.mk (Kd.R_elder' (by (with_reducible repeat (first | apply Kd.R_alloc | apply Kd.R_drewN | apply Kd.R_drew)); exact (Kd.R_mono (Kd.R_far (p := ⟨gb614, 1, none⟩) (Kd.R_far (p := ⟨gb614, 0, none⟩) (Kd.R_types HO_608001.out BK614.out (by decide)) (fun _ hk => hk.2) (.int .i64 t609)) (fun _ hk => hk.2) (.slice Ao42 t610.length co42)) (fun _ h_ => h_.1))) (Kd.R_base ho0) hb); have n1_ := Aside0.mk (Kd.R_elder' (by (with_reducible repeat (first | apply Kd.R_alloc | apply Kd.R_drewN | apply Kd.R_drew)); exact (Kd.R_mono (Kd.R_far (p := ⟨gb614, 1, none⟩) (Kd.R_far (p := ⟨gb614, 0, none⟩) (Kd.R_types HO612.out BK614.out (by decide)) (fun _ hk => hk.2) (.int .i64 t609)) (fun _ hk => hk.2) (.slice Ao42 t610.length co42)) (fun _ h_ => h_.1))) (Kd.R_base ho0) hb); have n2_ := Aside0.mk (Kd.R_lower (Kd.R_new' (Kd.R_new' ho0 (Kd.R_lt (by (with_reducible repeat (first | apply Kd.R_alloc | apply Kd.R_drewN | apply Kd.R_drew)); exact (Kd.R_mono (Kd.R_far (p := ⟨gb614, 1, none⟩) (Kd.R_far (p := ⟨gb614, 0, none⟩) (Kd.R_types HO_608001.out BK614.out (by decide)) (fun _ hk => hk.2) (.int .i64 t609)) (fun _ hk => hk.2) (.slice Ao42 t610.length co42)) (fun _ h_ => h_.1))))) (Kd.R_lt (by (with_reducible repeat (first | apply Kd.R_alloc | apply Kd.R_drewN | apply Kd.R_drew)); exact (Kd.R_mono (Kd.R_far (p := ⟨gb614, 1, none⟩) (Kd.R_far (p := ⟨gb614, 0, none⟩) (Kd.R_types HO612.out BK614.out (by decide)) (fun _ hk => hk.2) (.int .i64 t609)) (fun _ hk => hk.2) (.slice Ao42 t610.length co42)) (fun _ h_ => h_.1))))) (below_size (by repeat (first | (with_reducible first | exact HB.out | apply below_alloc | apply pw_below_drewN | apply below_drew1 | refine below_set ?_ GE601.out | refine below_set ?_ GE602.out | refine below_set ?_ GE607.out | refine below_set ?_ GE614.out) | exact HB.out)))); have n3_ := Aside0.mk (blk_below (g := gb601) (o := .cells #[.int .i64 a0_0, .slice A0_1 l0_1.length c0_1] 61 (0, 0)) (by (with_reducible repeat (first | refine blk_drewN ?_ _ | refine blk_drew ?_ | refine blk_alloc ?_ _)); refine blk_far ?_ NB601_614.out _; (with_reducible repeat (first | refine blk_drewN ?_ _ | refine blk_drew ?_ | refine blk_alloc ?_ _)); refine blk_far ?_ NB601_614.out _; (with_reducible repeat (first | refine blk_drewN ?_ _ | refine blk_drew ?_ | refine blk_alloc ?_ _)); exact BK601.out) hb); have n4_ := Aside0.mk (blk_below (g := gb602) (o := .cells #[.int .i64 x603000_1, .slice none 0 0] 61 (0, 0)) (by (with_reducible repeat (first | refine blk_drewN ?_ _ | refine blk_drew ?_ | refine blk_alloc ?_ _)); refine blk_far ?_ NB602_614.out _; (with_reducible repeat (first | refine blk_drewN ?_ _ | refine blk_drew ?_ | refine blk_alloc ?_ _)); refine blk_far ?_ NB602_614.out _; (with_reducible repeat (first | refine blk_drewN ?_ _ | refine blk_drew ?_ | refine blk_alloc ?_ _)); exact BK602.out) hb); have n5_ := Aside0.mk (blk_below (g := gb607) (o := .cells #[.int .i64 x608000_1, .slice Ao35 x608001_1.length co35] 61 (0, 0)) (by (with_reducible repeat (first | refine blk_drewN ?_ _ | refine blk_drew ?_ | refine blk_alloc ?_ _)); refine blk_far ?_ NB607_614.out _; (with_reducible repeat (first | refine blk_drewN ?_ _ | refine blk_drew ?_ | refine blk_alloc ?_ _)); refine blk_far ?_ NB607_614.out _; (with_reducible repeat (first | refine blk_drewN ?_ _ | refine blk_drew ?_ | refine blk_alloc ?_ _)); exact BK607.out) hb); have n6_ := Aside0.mk (blk_below (g := gb614) (o := .cells #[.int .i64 t609, .slice Ao42 t610.length co42] 61 (0, 0)) (by (with_reducible repeat (first | refine blk_drewN ?_ _ | refine blk_drew ?_ | refine blk_alloc ?_ _)); refine blk_put (cs := #[.int .i64 t609, .slice none 0 0]) ?_ 1 _ rfl; (with_reducible repeat (first | refine blk_drewN ?_ _ | refine blk_drew ?_ | refine blk_alloc ?_ _)); refine blk_put (cs := #[.int .i64 0, .slice none 0 0]) ?_ 0 _ rfl; (with_reducible repeat (first | refine blk_drewN ?_ _ | refine blk_drew ?_ | refine blk_alloc ?_ _)); exact BK614.out) hb); have n7_ := Aside0.mk (below_step (by repeat (first | (with_reducible first | exact HB.out | apply below_alloc | apply pw_below_drewN | apply below_drew1 | refine below_set ?_ GE601.out | refine below_set ?_ GE602.out | refine below_set ?_ GE607.out | refine below_set ?_ GE614.out) | exact HB.out)) hb); clear HO_608001; clear HO612; clear BK601; clear BK602; clear BK607; clear BK614; clear HB; have HO_608001 := n0_; have HO612 := n1_; have HO618 := n2_; have BK601 := n3_; have BK602 := n4_; have BK607 := n5_; have BK614 := n6_; have HB := n7_; clear n0_ n1_ n2_ n3_ n4_ n5_ n6_ n7_; (try clear hb); (try clear hb2); (try clear hk); (try clear hi); (try clear ho0); have hcz46_0 : w45.cell? ⟨gb602, 0, none⟩ = some (.int .i64 x603000_1) := (blk_cell BK602.out 0).trans rfl; have hcz46_1 : w45.cell? ⟨gb602, 1, none⟩ = some (.slice none 0 0) := (blk_cell BK602.out 1).trans rfl; have hfz46_0 := blk_frozen BK602.out 0; have hfz46_1 := blk_frozen BK602.out 1; obtain ⟨Ao47, co47, eo47⟩ := Kd.R_slice HO618.out; subst eo47))
              refine bodyPost_ret (results_ct rfl _ _ gb602 61 #[.int .i64 t615, .slice Ao47 t616.length co47] (0, 0) _ rfl (by (with_reducible repeat (first | refine blk_drewN ?_ _ | refine blk_drew ?_ | refine blk_alloc ?_ _)); refine blk_put (cs := #[.int .i64 t615, .slice none 0 0]) ?_ 1 _ rfl; (with_reducible repeat (first | refine blk_drewN ?_ _ | refine blk_drew ?_ | refine blk_alloc ?_ _)); refine blk_put (cs := #[.int .i64 x603000_1, .slice none 0 0]) ?_ 0 _ rfl; (with_reducible repeat (first | refine blk_drewN ?_ _ | refine blk_drew ?_ | refine blk_alloc ?_ _)); exact BK602.out) Try.underlying61 rfl (by kernel_rfl)) rfl ?_
              exact ⟨_, by first | rfl | (simp [errW_none, errW_some] <;> rfl) | (simp [*, errW_none, errW_some] <;> rfl), by (with_reducible repeat (first | apply Kd.R_alloc | apply Kd.R_drewN | apply Kd.R_drew)); exact Kd.R_mono (Kd.R_far (p := ⟨gb602, 1, none⟩) (Kd.R_far (p := ⟨gb602, 0, none⟩) (Kd.R_types HO618.out BK602.out (by decide)) (fun _ hk => hk.2) (.int .i64 t615)) (fun _ hk => hk.2) (.slice Ao47 t616.length co47)) (fun _ hk => trivial), by repeat (first | (with_reducible first | exact HB.out | apply below_alloc | apply pw_below_drewN | apply below_drew1 | refine below_set ?_ GE601.out | refine below_set ?_ GE602.out | refine below_set ?_ GE607.out | refine below_set ?_ GE614.out) | exact HB.out)⟩
          · rw [if_neg c16] at H
            exact absurd H (by simp)
        · rw [if_neg c15] at H
          exact absurd H (by simp)
      · rw [if_neg c14] at H
        have c14b0 : decide (x15_1 < (l1.length : Int)) = false := decide_eq_false c14
        clear c14
        simp only [Option.some.injEq, Prod.mk.injEq] at H
        obtain ⟨rfl, rfl, rfl⟩ := H
        have hnb48 := NB607_601.out
        have hnc48 := NB601_607.out
        have hnb49 := NB607_602.out
        have hnc49 := NB602_607.out
        have hcz50_0 : wr.cell? ⟨gb607, 0, none⟩ = some (.int .i64 x608000_1) := (blk_cell BK607.out 0).trans rfl
        have hcz50_1 : wr.cell? ⟨gb607, 1, none⟩ = some (u608001) := (blk_cell BK607.out 1).trans rfl
        have hfz50_0 := blk_frozen BK607.out 0
        have hfz50_1 := blk_frozen BK607.out 1
        have hnb51 := NB602_601.out
        have hnc51 := NB601_602.out
        have hcz52_0 : wr.cell? ⟨gb602, 0, none⟩ = some (.int .i64 x603000_1) := (blk_cell BK602.out 0).trans rfl
        have hcz52_1 : wr.cell? ⟨gb602, 1, none⟩ = some (.slice none 0 0) := (blk_cell BK602.out 1).trans rfl
        have hfz52_0 := blk_frozen BK602.out 0
        have hfz52_1 := blk_frozen BK602.out 1
        obtain ⟨Ao53, co53, eo53⟩ := Kd.R_slice HO_608001.out
        subst eo53
        go_wp2
        refine bodyPost_ret (results_ct rfl _ _ gb602 61 #[.int .i64 x608000_1, .slice Ao53 x608001_1.length co53] (0, 0) _ rfl (by (with_reducible repeat (first | refine blk_drewN ?_ _ | refine blk_drew ?_ | refine blk_alloc ?_ _)); refine blk_put (cs := #[.int .i64 x608000_1, .slice none 0 0]) ?_ 1 _ rfl; (with_reducible repeat (first | refine blk_drewN ?_ _ | refine blk_drew ?_ | refine blk_alloc ?_ _)); refine blk_put (cs := #[.int .i64 x603000_1, .slice none 0 0]) ?_ 0 _ rfl; (with_reducible repeat (first | refine blk_drewN ?_ _ | refine blk_drew ?_ | refine blk_alloc ?_ _)); exact BK602.out) Try.underlying61 rfl (by kernel_rfl)) rfl ?_
        exact ⟨_, by first | rfl | (simp [errW_none, errW_some] <;> rfl) | (simp [*, errW_none, errW_some] <;> rfl), by (with_reducible repeat (first | apply Kd.R_alloc | apply Kd.R_drewN | apply Kd.R_drew)); exact Kd.R_mono (Kd.R_far (p := ⟨gb602, 1, none⟩) (Kd.R_far (p := ⟨gb602, 0, none⟩) (Kd.R_types HO_608001.out BK602.out (by decide)) (fun _ hk => hk.2) (.int .i64 x608000_1)) (fun _ hk => hk.2) (.slice Ao53 x608001_1.length co53)) (fun _ hk => trivial), by repeat (first | (with_reducible first | exact HB.out | apply below_alloc | apply pw_below_drewN | apply below_drew1 | refine below_set ?_ GE601.out | refine below_set ?_ GE602.out | refine below_set ?_ GE607.out) | exact HB.out)⟩

end Go.Proofs.Ytoipfpjcpngpfaa.Q
end

section
/- The program's EdgeAdd and EdgeAll of edges that are right. Plain. -/
namespace Go.Proofs.Ytoipfpjcpngpfaa.Q
open Go.RowKit Go.Proofs.Ytoipfpjcpngpfaa.B Go.Proofs.YtoipfpjcpngpfaaW.PrintWords Go.Proofs.YtoipfpjcpngpfaaW.PrintMore
set_option linter.unusedVariables false
set_option linter.unusedSimpArgs false

theorem edgeOk_inv (n : Nat) (hs : List ByteArray) (h : n ≤ 200) (hl : hs.length = pops n) (hx : ∀ x ∈ hs, x.size = 32) : edgeOk (n : Int) hs = true := by
  unfold edgeOk
  rw [if_pos (by omega), Int.toNat_natCast, if_pos hl]
  unfold all32
  rw [List.all_eq_true]
  intro x hx2
  rw [hx x hx2]
  rfl
theorem pops_301 {n : Nat} (h : n ≤ 255) : pops n ≤ 300 := by
  have : ∀ n : Fin 256, pops n.1 ≤ 300 := by decide +kernel
  exact this ⟨n, by omega⟩
theorem impl_EdgeAdd_eq (n : Nat) (hs : List ByteArray) (s : ByteArray) (hn : n < 200) (hl : hs.length = pops n) (hx : ∀ x ∈ hs, x.size = 32) (h2 : s.size ≤ 1048700) : impl_EdgeAdd.f (n : Int) hs s = some (((n + 1 : Nat) : Int), carry 8 n hs (leafH s), true) := by
  have := pops_301 (n := n) (by omega)
  unfold impl_EdgeAdd.f
  rw [if_pos (by omega), if_neg (by omega), if_pos (edgeOk_inv n hs (by omega) hl hx), impl_Edge_add_eq n hs s (by omega) hl hx h2, w64 (by omega) (by omega)]
  rfl
end Go.Proofs.Ytoipfpjcpngpfaa.Q
end
