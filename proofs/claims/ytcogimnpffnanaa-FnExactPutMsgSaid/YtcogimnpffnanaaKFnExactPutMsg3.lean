-- Joined and shortened by a program of this session (wip/tools/shakecopy.py): the words of the print, texts of pp.sh and of mine.
import Derived.Test.YtcogimnpffnanaaKFnExactPutMsg2
import Derived.Deep.Slices
import Derived.ChangeArms
import Derived.Test.YtcogimnpffnanaaRows
import Derived.WalkKit
import Derived.ProofKit
import Derived.OpenShut
import Derived.ShutString
import Derived.ChangeOld
import Derived.Below
import Derived.SizedLaws
import Derived.Carry
section
-- Written by a program of this session (wip/tools/pp.sh) over the print of the kit.
namespace Go.Proofs.Ytcogimnpffnanaa.Q
open Go.RowKit Go.Proofs.YtcogimnpffnanaaW.PrintWords Go.Proofs.YtcogimnpffnanaaW.PrintLast Go.Proofs.YtcogimnpffnanaaW.PrintMore
attribute [local go_sem] max2_int min2_int max_two min_two max_three min_three max_four min_four   -- for this text's walks alone
set_option linter.unusedVariables false
set_option linter.unusedSimpArgs false

/-! ### laws_toMsg: function 19 -/
def laws_toMsg.f (k : Nat) (a0_0 : Int) (a0_1 : Int) (a0_2 : Int) (a0_3 : Int) (a0_4 : ByteArray) (a0_5 : Int) (l0_6 : List ByteArray) : Option (Int × Int × Int × Int × ByteArray × Int × List ByteArray) := (laws_toHead.f a0_3 a0_4).bind fun bt604 => ((laws_toStringS.f k l0_6).bind fun t606 => (some (a0_0, a0_1, a0_2, bt604.1, bt604.2, a0_5, t606)))
theorem laws_toMsg.mono : ∀ a0 a1 a2 a3 a4 a5 a6 k, LeO (laws_toMsg.f k a0 a1 a2 a3 a4 a5 a6) (laws_toMsg.f (k + 1) a0 a1 a2 a3 a4 a5 a6) := by
 intro a0 a1 a2 a3 a4 a5 a6 k
 unfold laws_toMsg.f
 repeat' first
   | (with_reducible exact laws_toStringS.mono _ _)
   | (with_reducible exact LeO.refl _)
   | (with_reducible exact LeO.none _)
   | (with_reducible refine LeO.ite ?_ ?_)
   | (with_reducible refine LeO.bind ?_ (fun _ => ?_))
   | exact laws_toStringS.mono _ _
   | exact LeO.none _
   | refine LeO.ite ?_ ?_
   | refine LeO.bind ?_ (fun _ => ?_)
set_option maxHeartbeats 8000000 in
set_option maxRecDepth 100000 in
theorem laws_toMsg.calls (k : Nat) (a0_0 : Int) (a0_1 : Int) (a0_2 : Int) (a0_3 : Int) (a0_4 : ByteArray) (a0_5 : Int) (A0_6 : Option Addr) (c0_6 : Nat) (l0_6 : List ByteArray) (r1 : Int) (r2 : Int) (r3 : Int) (r4 : Int) (r5 : ByteArray) (r6 : Int) (r7 : List ByteArray) (w : World) (hr0_6 : Kd.C Kd.string w A0_6 l0_6.length l0_6) (hc0_6 : l0_6.length ≤ c0_6) (h : laws_toMsg.f k a0_0 a0_1 a0_2 a0_3 a0_4 a0_5 l0_6 = some (r1, r2, r3, r4, r5, r6, r7)) :
  Calls Try.prog 19 #[.agg #[.int .i64 a0_0, .int .i64 a0_1, .int .i64 a0_2, .int .i64 a0_3, .string a0_4, .int .i64 a0_5, .slice A0_6 l0_6.length c0_6]] w fun e w' => ∃ v6_ : Value, e = .returned (.agg #[.int .i64 r1, .int .i64 r2, .int .i64 r3, .int .i64 r4, .string r5, .int .i64 r6, v6_]) ∧ Kd.R Kd.string 9 w' w.heap.size (fun _ => True) v6_ r7 ∧ Below w.heap.size w w' := by
 have hu27 := Try.underlying27
 have hu33 := Try.underlying33
 have hu24 := Try.underlying24
 have hu31 := Try.underlying31
 have HR0_6 := Aside0.mk hr0_6
 have HC0_6 := Aside0.mk hc0_6
 clear hr0_6 hc0_6
 have HB := Aside0.mk (Below.refl w.heap.size w)
 have H : ((laws_toHead.f a0_3 a0_4).bind fun bt604 => ((laws_toStringS.f k l0_6).bind fun t606 => (some (a0_0, a0_1, a0_2, bt604.1, bt604.2, a0_5, t606)))) = some (r1, r2, r3, r4, r5, r6, r7) := h
 clear h
 replace H := Option.bind_eq_some_iff.mp H
 obtain ⟨⟨t604, t605⟩, A20, H⟩ := H
 replace H : ((laws_toStringS.f k l0_6).bind fun t606 => (some (a0_0, a0_1, a0_2, t604, t605, a0_5, t606))) = some (r1, r2, r3, r4, r5, r6, r7) := H
 have A2 := Aside0.mk A20
 clear A20
 replace H := Option.bind_eq_some_iff.mp H
 obtain ⟨t606, A30, H⟩ := H
 replace H : (some (a0_0, a0_1, a0_2, t604, t605, a0_5, t606)) = some (r1, r2, r3, r4, r5, r6, r7) := H
 have A3 := Aside0.mk A30
 clear A30
 simp only [Option.some.injEq, Prod.mk.injEq] at H
 obtain ⟨rfl, rfl, rfl, rfl, rfl, rfl, rfl⟩ := H
 go_enter Try.func19, Try.ntmps19
 go_wp2_with (first | ((with_reducible refine gate_dst (N := 1) rfl ?_); refine box_event ?hg (N := 1) ?hd (cs := #[.int .i64 a0_0, .int .i64 a0_1, .int .i64 a0_2, .int .i64 a0_3, .string a0_4, .int .i64 a0_5, .slice A0_6 l0_6.length c0_6]) (t := 27) ?hr ?_; (case hd => rfl); (case hg => rfl); (case hr => first | (go_simp; done) | (go_simp; rfl)); intro gb601 hg w4 hbox hb; have n0_ := Aside0.mk (below_step (by repeat (first | (with_reducible first | exact HB.out | apply below_alloc | apply pw_below_drewN | apply below_drew1) | exact HB.out)) hb); have n1_ := Aside0.mk (hbox); have n2_ := Aside0.mk ((by rw [hg]; exact (below_size (by repeat (first | (with_reducible first | exact HB.out | apply below_alloc | apply pw_below_drewN | apply below_drew1) | exact HB.out))) : w.heap.size ≤ gb601)); have n3_ := Aside0.mk ((by rw [hg]; exact (below_size (by repeat (first | (with_reducible first | exact HB.out | apply below_alloc | apply pw_below_drewN | apply below_drew1) | exact HB.out))) : w.heap.size ≤ gb601)); clear HB; have HB := n0_; have BK601 := n1_; have GW601 := n2_; have GE601 := n3_; clear n0_ n1_ n2_ n3_; clear hb hbox hg) | ((with_reducible refine gate_dst (N := 2) rfl ?_); refine box_event ?hg (N := 2) ?hd (cs := #[.int .i64 0, .int .i64 0, .int .i64 0, .int .i64 0, .string (⟨#[]⟩ : ByteArray), .int .i64 0, .slice none 0 0]) (t := 33) ?hr ?_; (case hd => rfl); (case hg => rfl); (case hr => first | (go_simp; done) | (go_simp; rfl)); intro gb602 hg w5 hbox hb; have n0_ := Aside0.mk (blk_below (g := gb601) (o := .cells #[.int .i64 a0_0, .int .i64 a0_1, .int .i64 a0_2, .int .i64 a0_3, .string a0_4, .int .i64 a0_5, .slice A0_6 l0_6.length c0_6] 27 (0, 0)) (by (with_reducible repeat (first | refine blk_drewN ?_ _ | refine blk_drew ?_ | refine blk_alloc ?_ _)); exact BK601.out) hb); have n1_ := Aside0.mk (below_step (by repeat (first | (with_reducible first | exact HB.out | apply below_alloc | apply pw_below_drewN | apply below_drew1 | refine below_set ?_ GE601.out) | exact HB.out)) hb); have n2_ := Aside0.mk (hbox); have n3_ := Aside0.mk ((by rw [hg]; exact (below_size (by repeat (first | (with_reducible first | exact HB.out | apply below_alloc | apply pw_below_drewN | apply below_drew1 | refine below_set ?_ GE601.out) | exact HB.out))) : w.heap.size ≤ gb602)); have n4_ := Aside0.mk ((by rw [hg]; exact (below_size (by repeat (first | (with_reducible first | exact HB.out | apply below_alloc | apply pw_below_drewN | apply below_drew1 | refine below_set ?_ GE601.out) | exact HB.out))) : w.heap.size ≤ gb602)); have n5_ := Aside0.mk ((by rw [hg]; exact Nat.ne_of_lt (blk_lt (g := gb601) (o := .cells #[.int .i64 a0_0, .int .i64 a0_1, .int .i64 a0_2, .int .i64 a0_3, .string a0_4, .int .i64 a0_5, .slice A0_6 l0_6.length c0_6] 27 (0, 0)) (by (with_reducible repeat (first | refine blk_drewN ?_ _ | refine blk_drew ?_ | refine blk_alloc ?_ _)); exact BK601.out)) : gb601 ≠ gb602)); have n6_ := Aside0.mk ((by rw [hg]; exact Nat.ne_of_gt (blk_lt (g := gb601) (o := .cells #[.int .i64 a0_0, .int .i64 a0_1, .int .i64 a0_2, .int .i64 a0_3, .string a0_4, .int .i64 a0_5, .slice A0_6 l0_6.length c0_6] 27 (0, 0)) (by (with_reducible repeat (first | refine blk_drewN ?_ _ | refine blk_drew ?_ | refine blk_alloc ?_ _)); exact BK601.out)) : gb602 ≠ gb601)); clear BK601; clear HB; have BK601 := n0_; have HB := n1_; have BK602 := n2_; have GW602 := n3_; have GE602 := n4_; have NB601_602 := n5_; have NB602_601 := n6_; clear n0_ n1_ n2_ n3_ n4_ n5_ n6_; clear hb hbox hg) | ((with_reducible refine gate_dst (N := 3) rfl ?_); refine box_event ?hg (N := 3) ?hd (cs := #[.int .i64 0, .int .i64 0, .int .i64 0, .int .i64 0, .string (⟨#[]⟩ : ByteArray), .int .i64 0, .slice none 0 0]) (t := 33) ?hr ?_; (case hd => rfl); (case hg => rfl); (case hr => first | (go_simp; done) | (go_simp; rfl)); intro gb603 hg w6 hbox hb; have n0_ := Aside0.mk (blk_below (g := gb601) (o := .cells #[.int .i64 a0_0, .int .i64 a0_1, .int .i64 a0_2, .int .i64 a0_3, .string a0_4, .int .i64 a0_5, .slice A0_6 l0_6.length c0_6] 27 (0, 0)) (by (with_reducible repeat (first | refine blk_drewN ?_ _ | refine blk_drew ?_ | refine blk_alloc ?_ _)); exact BK601.out) hb); have n1_ := Aside0.mk (blk_below (g := gb602) (o := .cells #[.int .i64 0, .int .i64 0, .int .i64 0, .int .i64 0, .string (⟨#[]⟩ : ByteArray), .int .i64 0, .slice none 0 0] 33 (0, 0)) (by (with_reducible repeat (first | refine blk_drewN ?_ _ | refine blk_drew ?_ | refine blk_alloc ?_ _)); exact BK602.out) hb); have n2_ := Aside0.mk (below_step (by repeat (first | (with_reducible first | exact HB.out | apply below_alloc | apply pw_below_drewN | apply below_drew1 | refine below_set ?_ GE601.out | refine below_set ?_ GE602.out) | exact HB.out)) hb); have n3_ := Aside0.mk (hbox); have n4_ := Aside0.mk ((by rw [hg]; exact (below_size (by repeat (first | (with_reducible first | exact HB.out | apply below_alloc | apply pw_below_drewN | apply below_drew1 | refine below_set ?_ GE601.out | refine below_set ?_ GE602.out) | exact HB.out))) : w.heap.size ≤ gb603)); have n5_ := Aside0.mk ((by rw [hg]; exact (below_size (by repeat (first | (with_reducible first | exact HB.out | apply below_alloc | apply pw_below_drewN | apply below_drew1 | refine below_set ?_ GE601.out | refine below_set ?_ GE602.out) | exact HB.out))) : w.heap.size ≤ gb603)); have n6_ := Aside0.mk ((by rw [hg]; exact Nat.ne_of_lt (blk_lt (g := gb601) (o := .cells #[.int .i64 a0_0, .int .i64 a0_1, .int .i64 a0_2, .int .i64 a0_3, .string a0_4, .int .i64 a0_5, .slice A0_6 l0_6.length c0_6] 27 (0, 0)) (by (with_reducible repeat (first | refine blk_drewN ?_ _ | refine blk_drew ?_ | refine blk_alloc ?_ _)); exact BK601.out)) : gb601 ≠ gb603)); have n7_ := Aside0.mk ((by rw [hg]; exact Nat.ne_of_gt (blk_lt (g := gb601) (o := .cells #[.int .i64 a0_0, .int .i64 a0_1, .int .i64 a0_2, .int .i64 a0_3, .string a0_4, .int .i64 a0_5, .slice A0_6 l0_6.length c0_6] 27 (0, 0)) (by (with_reducible repeat (first | refine blk_drewN ?_ _ | refine blk_drew ?_ | refine blk_alloc ?_ _)); exact BK601.out)) : gb603 ≠ gb601)); have n8_ := Aside0.mk ((by rw [hg]; exact Nat.ne_of_lt (blk_lt (g := gb602) (o := .cells #[.int .i64 0, .int .i64 0, .int .i64 0, .int .i64 0, .string (⟨#[]⟩ : ByteArray), .int .i64 0, .slice none 0 0] 33 (0, 0)) (by (with_reducible repeat (first | refine blk_drewN ?_ _ | refine blk_drew ?_ | refine blk_alloc ?_ _)); exact BK602.out)) : gb602 ≠ gb603)); have n9_ := Aside0.mk ((by rw [hg]; exact Nat.ne_of_gt (blk_lt (g := gb602) (o := .cells #[.int .i64 0, .int .i64 0, .int .i64 0, .int .i64 0, .string (⟨#[]⟩ : ByteArray), .int .i64 0, .slice none 0 0] 33 (0, 0)) (by (with_reducible repeat (first | refine blk_drewN ?_ _ | refine blk_drew ?_ | refine blk_alloc ?_ _)); exact BK602.out)) : gb603 ≠ gb602)); clear BK601; clear BK602; clear HB; have BK601 := n0_; have BK602 := n1_; have HB := n2_; have BK603 := n3_; have GW603 := n4_; have GE603 := n5_; have NB601_603 := n6_; have NB603_601 := n7_; have NB602_603 := n8_; have NB603_602 := n9_; clear n0_ n1_ n2_ n3_ n4_ n5_ n6_ n7_ n8_ n9_; clear hb hbox hg; have hnb7 := NB601_602.out; have hnc7 := NB602_601.out; have hnb8 := NB601_603.out; have hnc8 := NB603_601.out; have hcz9_0 : w6.cell? ⟨gb601, 0, none⟩ = some (.int .i64 a0_0) := (blk_cell BK601.out 0).trans rfl; have hcz9_1 : w6.cell? ⟨gb601, 1, none⟩ = some (.int .i64 a0_1) := (blk_cell BK601.out 1).trans rfl; have hcz9_2 : w6.cell? ⟨gb601, 2, none⟩ = some (.int .i64 a0_2) := (blk_cell BK601.out 2).trans rfl; have hcz9_3 : w6.cell? ⟨gb601, 3, none⟩ = some (.int .i64 a0_3) := (blk_cell BK601.out 3).trans rfl; have hcz9_4 : w6.cell? ⟨gb601, 4, none⟩ = some (.string a0_4) := (blk_cell BK601.out 4).trans rfl; have hcz9_5 : w6.cell? ⟨gb601, 5, none⟩ = some (.int .i64 a0_5) := (blk_cell BK601.out 5).trans rfl; have hcz9_6 : w6.cell? ⟨gb601, 6, none⟩ = some (.slice A0_6 l0_6.length c0_6) := (blk_cell BK601.out 6).trans rfl; have hfz9_0 := blk_frozen BK601.out 0; have hfz9_1 := blk_frozen BK601.out 1; have hfz9_2 := blk_frozen BK601.out 2; have hfz9_3 := blk_frozen BK601.out 3; have hfz9_4 := blk_frozen BK601.out 4; have hfz9_5 := blk_frozen BK601.out 5; have hfz9_6 := blk_frozen BK601.out 6; have hnb10 := NB603_602.out; have hnc10 := NB602_603.out; have hcz11_0 : w6.cell? ⟨gb603, 0, none⟩ = some (.int .i64 0) := (blk_cell BK603.out 0).trans rfl; have hcz11_1 : w6.cell? ⟨gb603, 1, none⟩ = some (.int .i64 0) := (blk_cell BK603.out 1).trans rfl; have hcz11_2 : w6.cell? ⟨gb603, 2, none⟩ = some (.int .i64 0) := (blk_cell BK603.out 2).trans rfl; have hcz11_3 : w6.cell? ⟨gb603, 3, none⟩ = some (.int .i64 0) := (blk_cell BK603.out 3).trans rfl; have hcz11_4 : w6.cell? ⟨gb603, 4, none⟩ = some (.string (⟨#[]⟩ : ByteArray)) := (blk_cell BK603.out 4).trans rfl; have hcz11_5 : w6.cell? ⟨gb603, 5, none⟩ = some (.int .i64 0) := (blk_cell BK603.out 5).trans rfl; have hcz11_6 : w6.cell? ⟨gb603, 6, none⟩ = some (.slice none 0 0) := (blk_cell BK603.out 6).trans rfl; have hfz11_0 := blk_frozen BK603.out 0; have hfz11_1 := blk_frozen BK603.out 1; have hfz11_2 := blk_frozen BK603.out 2; have hfz11_3 := blk_frozen BK603.out 3; have hfz11_4 := blk_frozen BK603.out 4; have hfz11_5 := blk_frozen BK603.out 5; have hfz11_6 := blk_frozen BK603.out 6) | ((with_reducible refine gate_callee (f := 81) rfl ?_); refine goesL_ (some 15) rfl rfl Try.func81 (by kernel_rfl) rfl #[.agg #[.int .i64 a0_3, .string a0_4]] rfl (by (try simp only [List.map_toArray, List.map_cons, List.map_nil]); first | done | rfl | (simp only [List.length_drop, List.length_take]; rfl)) ?_; (with_reducible refine (laws_toHead.calls a0_3 a0_4 t604 t605 _ A2.out).mono ?_); rintro e w12 ⟨rfl, hb⟩; refine ⟨_, rfl, ?_⟩; have n0_ := Aside0.mk (blk_below (g := gb601) (o := .cells #[.int .i64 a0_0, .int .i64 a0_1, .int .i64 a0_2, .int .i64 a0_3, .string a0_4, .int .i64 a0_5, .slice A0_6 l0_6.length c0_6] 27 (0, 0)) (by (with_reducible repeat (first | refine blk_drewN ?_ _ | refine blk_drew ?_ | refine blk_alloc ?_ _)); refine blk_far ?_ NB601_603.out _; (with_reducible repeat (first | refine blk_drewN ?_ _ | refine blk_drew ?_ | refine blk_alloc ?_ _)); refine blk_far ?_ NB601_603.out _; (with_reducible repeat (first | refine blk_drewN ?_ _ | refine blk_drew ?_ | refine blk_alloc ?_ _)); refine blk_far ?_ NB601_603.out _; (with_reducible repeat (first | refine blk_drewN ?_ _ | refine blk_drew ?_ | refine blk_alloc ?_ _)); exact BK601.out) hb); have n1_ := Aside0.mk (blk_below (g := gb602) (o := .cells #[.int .i64 0, .int .i64 0, .int .i64 0, .int .i64 0, .string (⟨#[]⟩ : ByteArray), .int .i64 0, .slice none 0 0] 33 (0, 0)) (by (with_reducible repeat (first | refine blk_drewN ?_ _ | refine blk_drew ?_ | refine blk_alloc ?_ _)); refine blk_far ?_ NB602_603.out _; (with_reducible repeat (first | refine blk_drewN ?_ _ | refine blk_drew ?_ | refine blk_alloc ?_ _)); refine blk_far ?_ NB602_603.out _; (with_reducible repeat (first | refine blk_drewN ?_ _ | refine blk_drew ?_ | refine blk_alloc ?_ _)); refine blk_far ?_ NB602_603.out _; (with_reducible repeat (first | refine blk_drewN ?_ _ | refine blk_drew ?_ | refine blk_alloc ?_ _)); exact BK602.out) hb); have n2_ := Aside0.mk (blk_below (g := gb603) (o := .cells #[.int .i64 a0_0, .int .i64 a0_1, .int .i64 a0_2, .int .i64 0, .string (⟨#[]⟩ : ByteArray), .int .i64 0, .slice none 0 0] 33 (0, 0)) (by (with_reducible repeat (first | refine blk_drewN ?_ _ | refine blk_drew ?_ | refine blk_alloc ?_ _)); refine blk_put (cs := #[.int .i64 a0_0, .int .i64 a0_1, .int .i64 0, .int .i64 0, .string (⟨#[]⟩ : ByteArray), .int .i64 0, .slice none 0 0]) ?_ 2 _ rfl; (with_reducible repeat (first | refine blk_drewN ?_ _ | refine blk_drew ?_ | refine blk_alloc ?_ _)); refine blk_put (cs := #[.int .i64 a0_0, .int .i64 0, .int .i64 0, .int .i64 0, .string (⟨#[]⟩ : ByteArray), .int .i64 0, .slice none 0 0]) ?_ 1 _ rfl; (with_reducible repeat (first | refine blk_drewN ?_ _ | refine blk_drew ?_ | refine blk_alloc ?_ _)); refine blk_put (cs := #[.int .i64 0, .int .i64 0, .int .i64 0, .int .i64 0, .string (⟨#[]⟩ : ByteArray), .int .i64 0, .slice none 0 0]) ?_ 0 _ rfl; (with_reducible repeat (first | refine blk_drewN ?_ _ | refine blk_drew ?_ | refine blk_alloc ?_ _)); exact BK603.out) hb); have n3_ := Aside0.mk (below_step (by repeat (first | (with_reducible first | exact HB.out | apply below_alloc | apply pw_below_drewN | apply below_drew1 | refine below_set ?_ GE601.out | refine below_set ?_ GE602.out | refine below_set ?_ GE603.out) | exact HB.out)) hb); clear BK601; clear BK602; clear BK603; clear HB; have BK601 := n0_; have BK602 := n1_; have BK603 := n2_; have HB := n3_; clear n0_ n1_ n2_ n3_; (try clear hb); (try clear hb2); (try clear hk); (try clear hi); have hcz13_0 : w12.cell? ⟨gb603, 0, none⟩ = some (.int .i64 a0_0) := (blk_cell BK603.out 0).trans rfl; have hcz13_1 : w12.cell? ⟨gb603, 1, none⟩ = some (.int .i64 a0_1) := (blk_cell BK603.out 1).trans rfl; have hcz13_2 : w12.cell? ⟨gb603, 2, none⟩ = some (.int .i64 a0_2) := (blk_cell BK603.out 2).trans rfl; have hcz13_3 : w12.cell? ⟨gb603, 3, none⟩ = some (.int .i64 0) := (blk_cell BK603.out 3).trans rfl; have hcz13_4 : w12.cell? ⟨gb603, 4, none⟩ = some (.string (⟨#[]⟩ : ByteArray)) := (blk_cell BK603.out 4).trans rfl; have hcz13_5 : w12.cell? ⟨gb603, 5, none⟩ = some (.int .i64 0) := (blk_cell BK603.out 5).trans rfl; have hcz13_6 : w12.cell? ⟨gb603, 6, none⟩ = some (.slice none 0 0) := (blk_cell BK603.out 6).trans rfl; have hfz13_0 := blk_frozen BK603.out 0; have hfz13_1 := blk_frozen BK603.out 1; have hfz13_2 := blk_frozen BK603.out 2; have hfz13_3 := blk_frozen BK603.out 3; have hfz13_4 := blk_frozen BK603.out 4; have hfz13_5 := blk_frozen BK603.out 5; have hfz13_6 := blk_frozen BK603.out 6; have hcz14_0 : w12.cell? ⟨gb601, 0, none⟩ = some (.int .i64 a0_0) := (blk_cell BK601.out 0).trans rfl; have hcz14_1 : w12.cell? ⟨gb601, 1, none⟩ = some (.int .i64 a0_1) := (blk_cell BK601.out 1).trans rfl; have hcz14_2 : w12.cell? ⟨gb601, 2, none⟩ = some (.int .i64 a0_2) := (blk_cell BK601.out 2).trans rfl; have hcz14_3 : w12.cell? ⟨gb601, 3, none⟩ = some (.int .i64 a0_3) := (blk_cell BK601.out 3).trans rfl; have hcz14_4 : w12.cell? ⟨gb601, 4, none⟩ = some (.string a0_4) := (blk_cell BK601.out 4).trans rfl; have hcz14_5 : w12.cell? ⟨gb601, 5, none⟩ = some (.int .i64 a0_5) := (blk_cell BK601.out 5).trans rfl; have hcz14_6 : w12.cell? ⟨gb601, 6, none⟩ = some (.slice A0_6 l0_6.length c0_6) := (blk_cell BK601.out 6).trans rfl; have hfz14_0 := blk_frozen BK601.out 0; have hfz14_1 := blk_frozen BK601.out 1; have hfz14_2 := blk_frozen BK601.out 2; have hfz14_3 := blk_frozen BK601.out 3; have hfz14_4 := blk_frozen BK601.out 4; have hfz14_5 := blk_frozen BK601.out 5; have hfz14_6 := blk_frozen BK601.out 6) | ((with_reducible refine gate_callee (f := 45) rfl ?_); refine goesL_ (some 22) rfl rfl Try.func45 (by kernel_rfl) rfl #[.slice A0_6 l0_6.length c0_6] rfl (by (try simp only [List.map_toArray, List.map_cons, List.map_nil]); first | done | rfl | (simp only [List.length_drop, List.length_take]; rfl)) ?_; (with_reducible refine (laws_toStringS.calls k _ _ l0_6 t606 _ ?side1 ?side2 A3.out).mono ?_); (case side1 => exact Kd.C_below HR0_6.out (by repeat (first | (with_reducible first | exact HB.out | apply below_alloc | apply pw_below_drewN | apply below_drew1 | refine below_set ?_ GE601.out | refine below_set ?_ GE602.out | refine below_set ?_ GE603.out) | exact HB.out))); (case side2 => exact HC0_6.out); rintro e w15 ⟨v607, rfl, ho0, hb⟩; refine ⟨_, rfl, ?_⟩; have n0_ := Aside0.mk (Kd.R_lower ho0 (below_size (by repeat (first | (with_reducible first | exact HB.out | apply below_alloc | apply pw_below_drewN | apply below_drew1 | refine below_set ?_ GE601.out | refine below_set ?_ GE602.out | refine below_set ?_ GE603.out) | exact HB.out)))); have n1_ := Aside0.mk (blk_below (g := gb601) (o := .cells #[.int .i64 a0_0, .int .i64 a0_1, .int .i64 a0_2, .int .i64 a0_3, .string a0_4, .int .i64 a0_5, .slice A0_6 l0_6.length c0_6] 27 (0, 0)) (by (with_reducible repeat (first | refine blk_drewN ?_ _ | refine blk_drew ?_ | refine blk_alloc ?_ _)); refine blk_far ?_ NB601_603.out _; (with_reducible repeat (first | refine blk_drewN ?_ _ | refine blk_drew ?_ | refine blk_alloc ?_ _)); refine blk_far ?_ NB601_603.out _; (with_reducible repeat (first | refine blk_drewN ?_ _ | refine blk_drew ?_ | refine blk_alloc ?_ _)); refine blk_far ?_ NB601_603.out _; (with_reducible repeat (first | refine blk_drewN ?_ _ | refine blk_drew ?_ | refine blk_alloc ?_ _)); exact BK601.out) hb); have n2_ := Aside0.mk (blk_below (g := gb602) (o := .cells #[.int .i64 0, .int .i64 0, .int .i64 0, .int .i64 0, .string (⟨#[]⟩ : ByteArray), .int .i64 0, .slice none 0 0] 33 (0, 0)) (by (with_reducible repeat (first | refine blk_drewN ?_ _ | refine blk_drew ?_ | refine blk_alloc ?_ _)); refine blk_far ?_ NB602_603.out _; (with_reducible repeat (first | refine blk_drewN ?_ _ | refine blk_drew ?_ | refine blk_alloc ?_ _)); refine blk_far ?_ NB602_603.out _; (with_reducible repeat (first | refine blk_drewN ?_ _ | refine blk_drew ?_ | refine blk_alloc ?_ _)); refine blk_far ?_ NB602_603.out _; (with_reducible repeat (first | refine blk_drewN ?_ _ | refine blk_drew ?_ | refine blk_alloc ?_ _)); exact BK602.out) hb); have n3_ := Aside0.mk (blk_below (g := gb603) (o := .cells #[.int .i64 a0_0, .int .i64 a0_1, .int .i64 a0_2, .int .i64 t604, .string t605, .int .i64 a0_5, .slice none 0 0] 33 (0, 0)) (by (with_reducible repeat (first | refine blk_drewN ?_ _ | refine blk_drew ?_ | refine blk_alloc ?_ _)); refine blk_put (cs := #[.int .i64 a0_0, .int .i64 a0_1, .int .i64 a0_2, .int .i64 t604, .string t605, .int .i64 0, .slice none 0 0]) ?_ 5 _ rfl; (with_reducible repeat (first | refine blk_drewN ?_ _ | refine blk_drew ?_ | refine blk_alloc ?_ _)); refine blk_put (cs := #[.int .i64 a0_0, .int .i64 a0_1, .int .i64 a0_2, .int .i64 t604, .string (⟨#[]⟩ : ByteArray), .int .i64 0, .slice none 0 0]) ?_ 4 _ rfl; (with_reducible repeat (first | refine blk_drewN ?_ _ | refine blk_drew ?_ | refine blk_alloc ?_ _)); refine blk_put (cs := #[.int .i64 a0_0, .int .i64 a0_1, .int .i64 a0_2, .int .i64 0, .string (⟨#[]⟩ : ByteArray), .int .i64 0, .slice none 0 0]) ?_ 3 _ rfl; (with_reducible repeat (first | refine blk_drewN ?_ _ | refine blk_drew ?_ | refine blk_alloc ?_ _)); exact BK603.out) hb); have n4_ := Aside0.mk (below_step (by repeat (first | (with_reducible first | exact HB.out | apply below_alloc | apply pw_below_drewN | apply below_drew1 | refine below_set ?_ GE601.out | refine below_set ?_ GE602.out | refine below_set ?_ GE603.out) | exact HB.out)) hb); clear BK601; clear BK602; clear BK603; clear HB; have HO608 := n0_; have BK601 := n1_; have BK602 := n2_; have BK603 := n3_; have HB := n4_; clear n0_ n1_ n2_ n3_ n4_; (try clear hb); (try clear hb2); (try clear hk); (try clear hi); (try clear ho0); obtain ⟨Ao16, co16, eo16⟩ := Kd.R_slice HO608.out; subst eo16; have hcz17_0 : w15.cell? ⟨gb603, 0, none⟩ = some (.int .i64 a0_0) := (blk_cell BK603.out 0).trans rfl; have hcz17_1 : w15.cell? ⟨gb603, 1, none⟩ = some (.int .i64 a0_1) := (blk_cell BK603.out 1).trans rfl; have hcz17_2 : w15.cell? ⟨gb603, 2, none⟩ = some (.int .i64 a0_2) := (blk_cell BK603.out 2).trans rfl; have hcz17_3 : w15.cell? ⟨gb603, 3, none⟩ = some (.int .i64 t604) := (blk_cell BK603.out 3).trans rfl; have hcz17_4 : w15.cell? ⟨gb603, 4, none⟩ = some (.string t605) := (blk_cell BK603.out 4).trans rfl; have hcz17_5 : w15.cell? ⟨gb603, 5, none⟩ = some (.int .i64 a0_5) := (blk_cell BK603.out 5).trans rfl; have hcz17_6 : w15.cell? ⟨gb603, 6, none⟩ = some (.slice none 0 0) := (blk_cell BK603.out 6).trans rfl; have hfz17_0 := blk_frozen BK603.out 0; have hfz17_1 := blk_frozen BK603.out 1; have hfz17_2 := blk_frozen BK603.out 2; have hfz17_3 := blk_frozen BK603.out 3; have hfz17_4 := blk_frozen BK603.out 4; have hfz17_5 := blk_frozen BK603.out 5; have hfz17_6 := blk_frozen BK603.out 6; have hcz18_0 : w15.cell? ⟨gb602, 0, none⟩ = some (.int .i64 0) := (blk_cell BK602.out 0).trans rfl; have hcz18_1 : w15.cell? ⟨gb602, 1, none⟩ = some (.int .i64 0) := (blk_cell BK602.out 1).trans rfl; have hcz18_2 : w15.cell? ⟨gb602, 2, none⟩ = some (.int .i64 0) := (blk_cell BK602.out 2).trans rfl; have hcz18_3 : w15.cell? ⟨gb602, 3, none⟩ = some (.int .i64 0) := (blk_cell BK602.out 3).trans rfl; have hcz18_4 : w15.cell? ⟨gb602, 4, none⟩ = some (.string (⟨#[]⟩ : ByteArray)) := (blk_cell BK602.out 4).trans rfl; have hcz18_5 : w15.cell? ⟨gb602, 5, none⟩ = some (.int .i64 0) := (blk_cell BK602.out 5).trans rfl; have hcz18_6 : w15.cell? ⟨gb602, 6, none⟩ = some (.slice none 0 0) := (blk_cell BK602.out 6).trans rfl; have hfz18_0 := blk_frozen BK602.out 0; have hfz18_1 := blk_frozen BK602.out 1; have hfz18_2 := blk_frozen BK602.out 2; have hfz18_3 := blk_frozen BK602.out 3; have hfz18_4 := blk_frozen BK602.out 4; have hfz18_5 := blk_frozen BK602.out 5; have hfz18_6 := blk_frozen BK602.out 6))
 refine bodyPost_ret (results_cell_row rfl _ _ gb602 33 #[.int .i64 a0_0, .int .i64 a0_1, .int .i64 a0_2, .int .i64 t604, .string t605, .int .i64 a0_5, .slice Ao16 t606.length co16] (0, 0) _ rfl (by (with_reducible repeat (first | refine blk_drewN ?_ _ | refine blk_drew ?_ | refine blk_alloc ?_ _)); refine blk_put (cs := #[.int .i64 a0_0, .int .i64 a0_1, .int .i64 a0_2, .int .i64 t604, .string t605, .int .i64 a0_5, .slice none 0 0]) ?_ 6 _ rfl; (with_reducible repeat (first | refine blk_drewN ?_ _ | refine blk_drew ?_ | refine blk_alloc ?_ _)); refine blk_put (cs := #[.int .i64 a0_0, .int .i64 a0_1, .int .i64 a0_2, .int .i64 t604, .string t605, .int .i64 0, .slice none 0 0]) ?_ 5 _ rfl; (with_reducible repeat (first | refine blk_drewN ?_ _ | refine blk_drew ?_ | refine blk_alloc ?_ _)); refine blk_put (cs := #[.int .i64 a0_0, .int .i64 a0_1, .int .i64 a0_2, .int .i64 t604, .string (⟨#[]⟩ : ByteArray), .int .i64 0, .slice none 0 0]) ?_ 4 _ rfl; (with_reducible repeat (first | refine blk_drewN ?_ _ | refine blk_drew ?_ | refine blk_alloc ?_ _)); refine blk_put (cs := #[.int .i64 a0_0, .int .i64 a0_1, .int .i64 a0_2, .int .i64 0, .string (⟨#[]⟩ : ByteArray), .int .i64 0, .slice none 0 0]) ?_ 3 _ rfl; (with_reducible repeat (first | refine blk_drewN ?_ _ | refine blk_drew ?_ | refine blk_alloc ?_ _)); refine blk_put (cs := #[.int .i64 a0_0, .int .i64 a0_1, .int .i64 0, .int .i64 0, .string (⟨#[]⟩ : ByteArray), .int .i64 0, .slice none 0 0]) ?_ 2 _ rfl; (with_reducible repeat (first | refine blk_drewN ?_ _ | refine blk_drew ?_ | refine blk_alloc ?_ _)); refine blk_put (cs := #[.int .i64 a0_0, .int .i64 0, .int .i64 0, .int .i64 0, .string (⟨#[]⟩ : ByteArray), .int .i64 0, .slice none 0 0]) ?_ 1 _ rfl; (with_reducible repeat (first | refine blk_drewN ?_ _ | refine blk_drew ?_ | refine blk_alloc ?_ _)); refine blk_put (cs := #[.int .i64 0, .int .i64 0, .int .i64 0, .int .i64 0, .string (⟨#[]⟩ : ByteArray), .int .i64 0, .slice none 0 0]) ?_ 0 _ rfl; (with_reducible repeat (first | refine blk_drewN ?_ _ | refine blk_drew ?_ | refine blk_alloc ?_ _)); refine blk_far ?_ NB602_603.out _; (with_reducible repeat (first | refine blk_drewN ?_ _ | refine blk_drew ?_ | refine blk_alloc ?_ _)); exact BK602.out) Try.underlying33 rfl (by kernel_rfl)) rfl ?_
 exact ⟨_, by first | rfl | (simp [errW_none, errW_some] <;> rfl) | (simp [*, errW_none, errW_some] <;> rfl), by (with_reducible repeat (first | apply Kd.R_alloc | apply Kd.R_drewN | apply Kd.R_drew)); exact Kd.R_mono (Kd.R_far (p := ⟨gb602, 6, none⟩) (Kd.R_far (p := ⟨gb602, 5, none⟩) (Kd.R_far (p := ⟨gb602, 4, none⟩) (Kd.R_far (p := ⟨gb602, 3, none⟩) (Kd.R_far (p := ⟨gb602, 2, none⟩) (Kd.R_far (p := ⟨gb602, 1, none⟩) (Kd.R_far (p := ⟨gb602, 0, none⟩) (Kd.R_far (p := ⟨gb603, 6, none⟩) (Kd.R_types (Kd.R_types HO608.out BK603.out (by decide)) BK602.out (by decide)) (fun _ hk => hk.1.2) (.slice Ao16 t606.length co16)) (fun _ hk => hk.2) (.int .i64 a0_0)) (fun _ hk => hk.2) (.int .i64 a0_1)) (fun _ hk => hk.2) (.int .i64 a0_2)) (fun _ hk => hk.2) (.int .i64 t604)) (fun _ hk => hk.2) (.string t605)) (fun _ hk => hk.2) (.int .i64 a0_5)) (fun _ hk => hk.2) (.slice Ao16 t606.length co16)) (fun _ hk => trivial), by repeat (first | (with_reducible first | exact HB.out | apply below_alloc | apply pw_below_drewN | apply below_drew1 | refine below_set ?_ GE601.out | refine below_set ?_ GE602.out | refine below_set ?_ GE603.out) | exact HB.out)⟩

end Go.Proofs.Ytcogimnpffnanaa.Q
end

section
/- Arguments that were read as data, opened as Lean values: numbers, bools, strings, slices of whatever kind; structs by their fields. For the rows of this seat's laws. -/
namespace Go.Proofs.Ytcogimnpffnanaa.XO
open Go.RowKit Go.Proofs.YtcogimnpffnanaaW.PrintWords Go.ChangeShapes Go.WideShapes

/-- What reads as data of type t is a Lean value of kind d, and good. -/
def Opens {α : Type} (P : Program) (d : Kd α) (t : TypeId) (G : α → Prop) : Prop :=
 ∀ {H : Type} {enc : TypeId × Value → H} {w : World} {base : Nat} {spare : Nat → Bool} {held : Bool} {fuel : Nat} {cs : List Value} {x : DataW H × List MemPlace},
  DataW.trod enc P w base spare held fuel t cs = some x → ∃ a : α, d.K w a cs ∧ G a

variable {P : Program} {t : TypeId}

theorem add_add (a : Addr) (x i : Nat) : (a.add x).add i = a.add (x + i) := by
 unfold Addr.add
 by_cases hx : x = 0
 ·subst hx
  simp
 ·by_cases hi : i = 0
  ·subst hi
   simp
  ·simp [hx, hi, Nat.add_assoc]
theorem cells_read {w : World} {base : Nat} {a : Addr} {x n : Nat} {cs : List Value} (h : w.cells? base (a.add x) n = some cs) (i : Nat) (u : Value) (hu : cs[i]? = some u) : w.cell? (a.add (x + i)) = some u := by
 unfold World.cells? at h
 split at h
 ·have hl : cs.length = n := by simpa using mapM_some_length h
  have hi : i < n := by
   rw [← hl]
   exact (List.getElem?_eq_some_iff.1 hu).1
  have hg := mapM_some_get h i i (by simp [hi])
  rw [hu, add_add] at hg
  exact hg
 ·exact absurd h (by simp)

theorem family {α : Type} {p : Nat → α → Prop} (n : Nat) (h : ∀ i, i < n → ∃ x, p i x) : ∃ xs : List α, xs.length = n ∧ ∀ i x, xs[i]? = some x → p i x := by
 induction n with
 | zero => exact ⟨[], rfl, fun i x hx => by simp at hx⟩
 | succ n ih =>
  obtain ⟨xs, h1, h2⟩ := ih (fun i hi => h i (by omega))
  obtain ⟨y, hy⟩ := h n (by omega)
  refine ⟨xs ++ [y], by simp [h1], fun i x hx => ?_⟩
  by_cases hi : i < xs.length
  ·rw [List.getElem?_append_left hi] at hx
   exact h2 i x hx
  ·rw [List.getElem?_append_right (by omega)] at hx
   have hz : i - xs.length = 0 := by
    rcases Nat.eq_zero_or_pos (i - xs.length) with hz | hz
    ·exact hz
    ·rw [List.getElem?_eq_none (by simp; omega)] at hx
     exact absurd hx (by simp)
   rw [hz] at hx
   have hxy : y = x := by simpa using hx
   have hin : i = n := by omega
   rw [← hxy, hin]
   exact hy

theorem opens_int {k : IntKind} (ht : P.underlying t = some (.int k)) : Opens P (Kd.int k) t (fun n => (Lit.int k n).wf = true) := by
 intro H enc w base spare held fuel cs x h
 obtain ⟨n, rfl, _, hw⟩ := DataW.trod_int ht h
 exact ⟨n, rfl, hw⟩

theorem opens_string (ht : P.underlying t = some .string) : Opens P Kd.string t (fun s => s.size ≤ 9223372036854775807) := by
 intro H enc w base spare held fuel cs x h
 obtain ⟨s, rfl, _, hs⟩ := DataW.trod_string ht h
 exact ⟨s, rfl, by simpa [maxLen] using hs⟩

theorem opens_slice {α : Type} {d : Kd α} {G : α → Prop} {e : TypeId} (ht : P.underlying t = some (.slice e)) (hc : P.cellsOf e = d.sz) (h0 : Opens P d e G) :
  Opens P (Kd.slice e d) t (fun l => l.length ≤ 9223372036854775807 ∧ ∀ x ∈ l, G x) := by
 intro H enc w base spare held fuel cs x h
 rcases Go.Deep.open_slice ht h with ⟨rfl, _⟩ | ⟨a, len, cap, m, n, D, Pl, rfl, _, hl, hm, hmm, _, hel⟩
 ·exact ⟨[], ⟨none, 0, rfl, Nat.le_refl _, rfl, by simp, fun hp => absurd hp (by simp)⟩, by simp, fun x hx => absurd hx (by simp)⟩
 ·have hlm : len ≤ m := by
   rw [hmm]
   split
   ·exact hl
   ·exact Nat.le_refl _
  have hall : ∀ i, i < len → ∃ x : α, (∃ cs', w.cells? base (a.add (i * P.cellsOf e)) (P.cellsOf e) = some cs' ∧ d.K w x cs') ∧ G x := by
   intro i hi
   obtain ⟨cs', h1, h2⟩ := hel i (by omega)
   obtain ⟨x, hk, hg⟩ := h0 h2
   exact ⟨x, ⟨cs', h1, hk⟩, hg⟩
  have hlen : len ≤ 9223372036854775807 := by simp only [maxLen] at hm; omega
  obtain ⟨xs, h1, h2⟩ := family len hall
  refine ⟨xs, ⟨some a, cap, by rw [h1], by omega, rfl, by omega, fun _ => ⟨a, rfl, fun j p hj => ?_⟩⟩, by omega, fun x hx => ?_⟩
  ·obtain ⟨⟨cs', hc1, hk⟩, _⟩ := h2 j p hj
   refine ⟨cs', d.K_len hk, hk, fun i u hu => ?_⟩
   rw [hc] at hc1
   exact cells_read hc1 i u hu
  ·obtain ⟨i, hi⟩ := List.getElem?_of_mem hx
   exact (h2 i x hi).2

/-- A list of cells, cut behind its first n. -/
theorem cut_cells {cs : List Value} {o n total : Nat} (hl : cs.length = total) (ho : o + n = total) : (cs.drop o).take n = cs.drop o := by
 apply List.take_of_length_le
 simp
 omega
theorem part_cells (cs : List Value) (o n : Nat) : cs.drop o = (cs.drop o).take n ++ cs.drop (o + n) := by
 rw [← List.drop_drop, List.take_append_drop]
theorem get_cells {β : Type} {xs : List β} {n : Nat} (h : xs.length = n) (i : Nat) (hi : i < n) : ∃ y, xs[i]? = some y := ⟨xs[i], List.getElem?_eq_getElem (by omega)⟩
end Go.Proofs.Ytcogimnpffnanaa.XO
end

section
/- Which Lean values the laws' arguments are opened to: each struct type by its fields. -/
namespace Go.Proofs.Ytcogimnpffnanaa.Q
open Go.RowKit Go.Proofs.Ytcogimnpffnanaa.XO Go.Proofs.YtcogimnpffnanaaW.PrintWords Go.ChangeShapes Go.WideShapes
set_option linter.unusedVariables false
set_option linter.unusedSimpArgs false
def G24 (x : S24) : Prop := (Lit.int .i64 x.f0).wf = true ∧ x.f1.size ≤ 9223372036854775807
theorem opens24 : Opens Try.prog k24 24 G24 := by
 intro H enc w base spare held fuel cs x h
 obtain ⟨xs, n, _, _, hl, hlen, hf⟩ := DataW.trod_struct Try.underlying24 h
 replace hl : cs.length = 2 := hl.trans (by kernel_rfl)
 replace hlen : xs.length = 2 := hlen
 obtain ⟨y0, e0⟩ := get_cells hlen 0 (by decide)
 have h0 : DataW.trod enc Try.prog w base spare held n 3 ((cs.drop 0).take (Try.prog.cellsOf 3)) = some y0 := (hf 0 _ rfl).trans e0
 rw [show Try.prog.cellsOf 3 = 1 from by kernel_rfl] at h0
 obtain ⟨a0, k0_, g0⟩ := (opens_int Try.underlying3) h0
 obtain ⟨y1, e1⟩ := get_cells hlen 1 (by decide)
 have h1 : DataW.trod enc Try.prog w base spare held n 9 ((cs.drop 1).take (Try.prog.cellsOf 9)) = some y1 := (hf 1 _ rfl).trans e1
 rw [show Try.prog.cellsOf 9 = 1 from by kernel_rfl] at h1
 obtain ⟨a1, k1_, g1⟩ := (opens_string Try.underlying9) h1
 exact ⟨⟨a0, a1⟩, ⟨_, _, (List.drop_zero).symm.trans (part_cells cs 0 1), k0_, (by rw [← cut_cells hl (show 1 + 1 = 2 from rfl)]; exact k1_)⟩, g0, g1⟩
def G27 (x : S27) : Prop := (Lit.int .i64 x.f0).wf = true ∧ (Lit.int .i64 x.f1).wf = true ∧ (Lit.int .i64 x.f2).wf = true ∧ G24 x.f3 ∧ (Lit.int .i64 x.f4).wf = true ∧ (x.f5.length ≤ 9223372036854775807 ∧ ∀ y0 ∈ x.f5, y0.size ≤ 9223372036854775807)
theorem opens27 : Opens Try.prog k27 27 G27 := by
 intro H enc w base spare held fuel cs x h
 obtain ⟨xs, n, _, _, hl, hlen, hf⟩ := DataW.trod_struct Try.underlying27 h
 replace hl : cs.length = 7 := hl.trans (by kernel_rfl)
 replace hlen : xs.length = 6 := hlen
 obtain ⟨y0, e0⟩ := get_cells hlen 0 (by decide)
 have h0 : DataW.trod enc Try.prog w base spare held n 3 ((cs.drop 0).take (Try.prog.cellsOf 3)) = some y0 := (hf 0 _ rfl).trans e0
 rw [show Try.prog.cellsOf 3 = 1 from by kernel_rfl] at h0
 obtain ⟨a0, k0_, g0⟩ := (opens_int Try.underlying3) h0
 obtain ⟨y1, e1⟩ := get_cells hlen 1 (by decide)
 have h1 : DataW.trod enc Try.prog w base spare held n 3 ((cs.drop 1).take (Try.prog.cellsOf 3)) = some y1 := (hf 1 _ rfl).trans e1
 rw [show Try.prog.cellsOf 3 = 1 from by kernel_rfl] at h1
 obtain ⟨a1, k1_, g1⟩ := (opens_int Try.underlying3) h1
 obtain ⟨y2, e2⟩ := get_cells hlen 2 (by decide)
 have h2 : DataW.trod enc Try.prog w base spare held n 3 ((cs.drop 2).take (Try.prog.cellsOf 3)) = some y2 := (hf 2 _ rfl).trans e2
 rw [show Try.prog.cellsOf 3 = 1 from by kernel_rfl] at h2
 obtain ⟨a2, k2_, g2⟩ := (opens_int Try.underlying3) h2
 obtain ⟨y3, e3⟩ := get_cells hlen 3 (by decide)
 have h3 : DataW.trod enc Try.prog w base spare held n 24 ((cs.drop 3).take (Try.prog.cellsOf 24)) = some y3 := (hf 3 _ rfl).trans e3
 rw [show Try.prog.cellsOf 24 = 2 from by kernel_rfl] at h3
 obtain ⟨a3, k3_, g3⟩ := opens24 h3
 obtain ⟨y4, e4⟩ := get_cells hlen 4 (by decide)
 have h4 : DataW.trod enc Try.prog w base spare held n 3 ((cs.drop 5).take (Try.prog.cellsOf 3)) = some y4 := (hf 4 _ rfl).trans e4
 rw [show Try.prog.cellsOf 3 = 1 from by kernel_rfl] at h4
 obtain ⟨a4, k4_, g4⟩ := (opens_int Try.underlying3) h4
 obtain ⟨y5, e5⟩ := get_cells hlen 5 (by decide)
 have h5 : DataW.trod enc Try.prog w base spare held n 25 ((cs.drop 6).take (Try.prog.cellsOf 25)) = some y5 := (hf 5 _ rfl).trans e5
 rw [show Try.prog.cellsOf 25 = 1 from by kernel_rfl] at h5
 obtain ⟨a5, k5_, g5⟩ := (opens_slice Try.underlying25 (by kernel_rfl) (opens_string Try.underlying9)) h5
 exact ⟨⟨a0, a1, a2, a3, a4, a5⟩, ⟨_, _, (List.drop_zero).symm.trans (part_cells cs 0 1), k0_, ⟨_, _, part_cells cs 1 1, k1_, ⟨_, _, part_cells cs 2 1, k2_, ⟨_, _, part_cells cs 3 2, k3_, ⟨_, _, part_cells cs 5 1, k4_, (by rw [← cut_cells hl (show 6 + 1 = 7 from rfl)]; exact k5_)⟩⟩⟩⟩⟩, g0, g1, g2, g3, g4, g5⟩
end Go.Proofs.Ytcogimnpffnanaa.Q
end

section
/- What follows of an 'and', found by search over its parts. -/
namespace Go.Proofs.Ytcogimnpffnanaa.Q
class Imp (P Q : Prop) : Prop where
 imp : P → Q
instance Imp.refl {P : Prop} : Imp P P := ⟨id⟩
instance Imp.left {P Q R : Prop} [h : Imp P R] : Imp (P ∧ Q) R := ⟨fun x => h.imp x.1⟩
instance Imp.right {P Q R : Prop} [h : Imp Q R] : Imp (P ∧ Q) R := ⟨fun x => h.imp x.2⟩
instance Imp.both {P Q R : Prop} [h : Imp P Q] [k : Imp P R] : Imp P (Q ∧ R) := ⟨fun x => ⟨h.imp x, k.imp x⟩⟩
end Go.Proofs.Ytcogimnpffnanaa.Q
end

section
-- Written by a program of this session (wip/tools/pp.sh) over the print of the kit.
namespace Go.Proofs.Ytcogimnpffnanaa.Q
open Go.RowKit Go.Proofs.YtcogimnpffnanaaW.PrintWords Go.Proofs.YtcogimnpffnanaaW.PrintLast Go.Proofs.YtcogimnpffnanaaW.PrintMore
attribute [local go_sem] max2_int min2_int max_two min_two max_three min_three max_four min_four   -- for this text's walks alone
set_option linter.unusedVariables false
set_option linter.unusedSimpArgs false

/-! ### laws_markMsg: function 23 -/
def laws_markMsg.f (k : Nat) (a0_0 : Int) (a0_1 : Int) (a0_2 : Int) (a0_3 : Int) (a0_4 : ByteArray) (a0_5 : Int) (l0_6 : List ByteArray) (a1 : Int) : Option (Int × List ByteArray) := (laws_markStringS.f k l0_6 a1).bind fun bt602 => (some (bt602.1, bt602.2))
theorem laws_markMsg.mono : ∀ a0 a1 a2 a3 a4 a5 a6 a7 k, LeO (laws_markMsg.f k a0 a1 a2 a3 a4 a5 a6 a7) (laws_markMsg.f (k + 1) a0 a1 a2 a3 a4 a5 a6 a7) := by
 intro a0 a1 a2 a3 a4 a5 a6 a7 k
 unfold laws_markMsg.f
 repeat' first
   | (with_reducible exact laws_markStringS.mono _ _ _)
   | (with_reducible exact LeO.refl _)
   | (with_reducible exact LeO.none _)
   | (with_reducible refine LeO.ite ?_ ?_)
   | (with_reducible refine LeO.bind ?_ (fun _ => ?_))
   | exact laws_markStringS.mono _ _ _
   | exact LeO.none _
   | refine LeO.ite ?_ ?_
   | refine LeO.bind ?_ (fun _ => ?_)
set_option maxHeartbeats 8000000 in
set_option maxRecDepth 100000 in
theorem laws_markMsg.calls (k : Nat) (a0_0 : Int) (a0_1 : Int) (a0_2 : Int) (a0_3 : Int) (a0_4 : ByteArray) (a0_5 : Int) (P0_6_ : Nat → Prop) (u9000_ : Value) (l0_6 : List ByteArray) (a1 : Int) (r1 : Int) (r2 : List ByteArray) (w0 w : World) (hB : Below w0.heap.size w0 w) (ho0_6 : Kd.R Kd.string 9 w w0.heap.size P0_6_ u9000_ l0_6) (h : laws_markMsg.f k a0_0 a0_1 a0_2 a0_3 a0_4 a0_5 l0_6 a1 = some (r1, r2)) :
  Calls Try.prog 23 #[.agg #[.int .i64 a0_0, .int .i64 a0_1, .int .i64 a0_2, .int .i64 a0_3, .string a0_4, .int .i64 a0_5, u9000_], .int .i64 a1] w fun e w' => e = .returned (.int .i64 r1) ∧ Kd.R Kd.string 9 w' w0.heap.size (fun k_ => (P0_6_ k_ ∨ w.heap.size ≤ k_)) u9000_ r2 ∧ Below w0.heap.size w0 w' ∧ Kept w w' (fun k_ => P0_6_ k_) := by
 have hu33 := Try.underlying33
 have HO0_6 := Aside0.mk (show Kd.R Kd.string 9 w w0.heap.size (fun k_ => (P0_6_ k_ ∨ w.heap.size ≤ k_)) u9000_ l0_6 from Kd.R_mono ho0_6 (fun k_ hk => (.inl hk)))
 have HK := Aside0.mk (Kept.refl w (fun k_ => P0_6_ k_))
 have HW0 := Aside0.mk hB.size
 have HB := Aside0.mk hB
 clear hB
 have H : ((laws_markStringS.f k l0_6 a1).bind fun bt602 => (some (bt602.1, bt602.2))) = some (r1, r2) := h
 clear h
 replace H := Option.bind_eq_some_iff.mp H
 obtain ⟨⟨t602, t603⟩, A30, H⟩ := H
 replace H : (some (t602, t603)) = some (r1, r2) := H
 have A3 := Aside0.mk A30
 clear A30
 simp only [Option.some.injEq, Prod.mk.injEq] at H
 obtain ⟨rfl, rfl⟩ := H
 obtain ⟨Ao4, co4, eo4⟩ := Kd.R_slice HO0_6.out
 subst eo4
 go_enter Try.func23, Try.ntmps23
 go_wp2_with (first | ((with_reducible refine gate_dst (N := 2) rfl ?_); refine box_event ?hg (N := 2) ?hd (cs := #[.int .i64 a0_0, .int .i64 a0_1, .int .i64 a0_2, .int .i64 a0_3, .string a0_4, .int .i64 a0_5, .slice Ao4 l0_6.length co4]) (t := 33) ?hr ?_; (case hd => rfl); (case hg => rfl); (case hr => first | (go_simp; done) | (go_simp; rfl)); intro gb601 hg w5 hbox hb; have n0_ := Aside0.mk (Kd.R_below (by (with_reducible repeat (first | apply Kd.R_alloc | apply Kd.R_drewN | apply Kd.R_drew)); exact HO0_6.out) hb); have n1_ := Aside0.mk (Kept.below (S := (fun k_ => P0_6_ k_)) (by repeat (first | (with_reducible first | exact HK.out | apply Kept.alloc | apply Kept.drewN | apply Kept.drew) | exact HK.out)) hb); have n2_ := Aside0.mk (below_step (by repeat (first | (with_reducible first | exact HB.out | apply below_alloc | apply pw_below_drewN | apply below_drew1) | exact HB.out)) hb); have n3_ := Aside0.mk (hbox); have n4_ := Aside0.mk ((by rw [hg]; exact (by first | exact HK.out.1 | exact (show Kept w _ (fun k_ => P0_6_ k_) from by repeat (first | (with_reducible first | exact HK.out | apply Kept.alloc | apply Kept.drewN | apply Kept.drew) | exact HK.out)).1) : w.heap.size ≤ gb601)); have n5_ := Aside0.mk ((by rw [hg]; exact (below_size (by repeat (first | (with_reducible first | exact HB.out | apply below_alloc | apply pw_below_drewN | apply below_drew1) | exact HB.out))) : w0.heap.size ≤ gb601)); clear HO0_6; clear HK; clear HB; have HO0_6 := n0_; have HK := n1_; have HB := n2_; have BK601 := n3_; have GW601 := n4_; have GE601 := n5_; clear n0_ n1_ n2_ n3_ n4_ n5_; clear hb hbox hg; have hcz6_0 : w5.cell? ⟨gb601, 0, none⟩ = some (.int .i64 a0_0) := (blk_cell BK601.out 0).trans rfl; have hcz6_1 : w5.cell? ⟨gb601, 1, none⟩ = some (.int .i64 a0_1) := (blk_cell BK601.out 1).trans rfl; have hcz6_2 : w5.cell? ⟨gb601, 2, none⟩ = some (.int .i64 a0_2) := (blk_cell BK601.out 2).trans rfl; have hcz6_3 : w5.cell? ⟨gb601, 3, none⟩ = some (.int .i64 a0_3) := (blk_cell BK601.out 3).trans rfl; have hcz6_4 : w5.cell? ⟨gb601, 4, none⟩ = some (.string a0_4) := (blk_cell BK601.out 4).trans rfl; have hcz6_5 : w5.cell? ⟨gb601, 5, none⟩ = some (.int .i64 a0_5) := (blk_cell BK601.out 5).trans rfl; have hcz6_6 : w5.cell? ⟨gb601, 6, none⟩ = some (.slice Ao4 l0_6.length co4) := (blk_cell BK601.out 6).trans rfl; have hfz6_0 := blk_frozen BK601.out 0; have hfz6_1 := blk_frozen BK601.out 1; have hfz6_2 := blk_frozen BK601.out 2; have hfz6_3 := blk_frozen BK601.out 3; have hfz6_4 := blk_frozen BK601.out 4; have hfz6_5 := blk_frozen BK601.out 5; have hfz6_6 := blk_frozen BK601.out 6) | ((with_reducible refine gate_callee (f := 50) rfl ?_); refine goesL_ (some 8) rfl rfl Try.func50 (by kernel_rfl) rfl #[.slice Ao4 l0_6.length co4, .int .i64 a1] rfl (by (try simp only [List.map_toArray, List.map_cons, List.map_nil]); first | done | rfl | (simp only [List.length_drop, List.length_take]; rfl)) ?_; (with_reducible refine (laws_markStringS.calls k (fun k_ => some k_ = (.slice Ao4 l0_6.length co4 : Value).ownBlock) (.slice Ao4 l0_6.length co4) l0_6 a1 t602 t603 w0 _ ?side1 ?side2 A3.out).mono ?_); (case side1 => repeat (first | (with_reducible first | exact HB.out | apply below_alloc | apply pw_below_drewN | apply below_drew1 | refine below_set ?_ GE601.out) | exact HB.out)); (case side2 => exact Kd.R_tight rfl HO0_6.out); rintro e w7 ⟨rfl, hy0, hb, hkp⟩; refine ⟨_, rfl, ?_⟩; have n0_ := Aside0.mk (Kd.R_reok rfl hy0 (fun k_ e_ => HO0_6.out.1 k_ e_)); have n1_ := Aside0.mk (blk_kept (by (with_reducible repeat (first | refine blk_drewN ?_ _ | refine blk_drew ?_ | refine blk_alloc ?_ _)); exact BK601.out) hkp (fun hs_ => (fun e_ => (Kd.R_ne HO0_6.out BK601.out (by decide)) e_) hs_)); have n2_ := Aside0.mk (Kept.then_ (S := (fun k_ => P0_6_ k_)) (by repeat (first | (with_reducible first | exact HK.out | apply Kept.alloc | apply Kept.drewN | apply Kept.drew | refine Kept.setCell ?_ (.inr GW601.out) _) | exact HK.out)) hkp (fun k_ hs_ => (fun e_ => (HO0_6.out.1 k_ e_.symm)) hs_)); have n3_ := Aside0.mk (hb); clear HO0_6; clear BK601; clear HK; clear HB; have HO0_6 := n0_; have BK601 := n1_; have HK := n2_; have HB := n3_; clear n0_ n1_ n2_ n3_; (try clear hb); (try clear hkp); (try clear hy0)))
 go_ret
 exact ⟨by first | rfl | (simp [errW_none, errW_some] <;> rfl) | (simp [*, errW_none, errW_some] <;> rfl), by (with_reducible repeat (first | apply Kd.R_alloc | apply Kd.R_drewN | apply Kd.R_drew)); exact HO0_6.out, by repeat (first | (with_reducible first | exact HB.out | apply below_alloc | apply pw_below_drewN | apply below_drew1 | refine below_set ?_ GE601.out) | exact HB.out), by repeat (first | (with_reducible first | exact HK.out | apply Kept.alloc | apply Kept.drewN | apply Kept.drew | refine Kept.setCell ?_ (.inr GW601.out) _) | exact HK.out)⟩

end Go.Proofs.Ytcogimnpffnanaa.Q
end

section
-- Written by a program of this session (wip/tools/pp.sh) over the print of the kit.
namespace Go.Proofs.Ytcogimnpffnanaa.Q
open Go.RowKit Go.Proofs.YtcogimnpffnanaaW.PrintWords Go.Proofs.YtcogimnpffnanaaW.PrintLast Go.Proofs.YtcogimnpffnanaaW.PrintMore
attribute [local go_sem] max2_int min2_int max_two min_two max_three min_three max_four min_four   -- for this text's walks alone
set_option linter.unusedVariables false
set_option linter.unusedSimpArgs false

/-! ### laws_FnExactPutMsg: function 4 -/
def laws_FnExactPutMsg.j0 : Nat → List Int → List Int → Bool → Int → Int → Int → Int → ByteArray → Int → List ByteArray → Option (Bool)
 | 0, _, _, _, _, _, _, _, _, _, _ => none
 | k + 1, x4, x6, x42, x602000, x602001, x602002, x602003, x602004, x602005, x602006 => if x42 = true then (none) else ((laws_markByteS.f k x6 1).bind fun bt642 => ((laws_heldByteS.f k bt642.2 1).bind fun t644 => (if t644 < 0 then (none) else (if t644 = bt642.1 then ((laws_toMsg.f k x602000 x602001 x602002 x602003 x602004 x602005 x602006).bind fun bt645 => ((impl_PutMsg.f k bt645.1 bt645.2.1 bt645.2.2.1 bt645.2.2.2.1 bt645.2.2.2.2.1 bt645.2.2.2.2.2.1 bt645.2.2.2.2.2.2).bind fun t654 => ((laws_eqByteS.f k t654 x4).bind fun t657 => (if t657 = true then ((laws_heldByteS.f k bt642.2 1).bind fun t658 => (if t658 < 0 then (none) else (if t658 = bt642.1 then (some true) else (none)))) else (none))))) else (none)))))
def laws_FnExactPutMsg.f (k : Nat) (a0_0 : Int) (a0_1 : Int) (a0_2 : Int) (a0_3 : Int) (a0_4 : ByteArray) (a0_5 : Int) (l0_6 : List ByteArray) : Option (Bool) := (laws_szMsg.f k a0_0 a0_1 a0_2 a0_3 a0_4 a0_5 l0_6 1048576).bind fun t602 => (if t602 < 0 then (some true) else ((laws_toMsg.f k a0_0 a0_1 a0_2 a0_3 a0_4 a0_5 l0_6).bind fun bt603 => ((spec_PutMsg.f k bt603.1 bt603.2.1 bt603.2.2.1 bt603.2.2.2.1 bt603.2.2.2.2.1 bt603.2.2.2.2.2.1 bt603.2.2.2.2.2.2).bind fun t612 => ((laws_toMsg.f k a0_0 a0_1 a0_2 a0_3 a0_4 a0_5 l0_6).bind fun bt615 => ((impl_PutMsg.f k bt615.1 bt615.2.1 bt615.2.2.1 bt615.2.2.2.1 bt615.2.2.2.2.1 bt615.2.2.2.2.2.1 bt615.2.2.2.2.2.2).bind fun t625 => ((laws_eqByteS.f k t625 t612).bind fun t628 => (if t628 = true then ((laws_toMsg.f k a0_0 a0_1 a0_2 a0_3 a0_4 a0_5 l0_6).bind fun bt629 => ((laws_eqMsg.f k bt615.1 bt615.2.1 bt615.2.2.1 bt615.2.2.2.1 bt615.2.2.2.2.1 bt615.2.2.2.2.2.1 bt615.2.2.2.2.2.2 bt629.1 bt629.2.1 bt629.2.2.1 bt629.2.2.2.1 bt629.2.2.2.2.1 bt629.2.2.2.2.2.1 bt629.2.2.2.2.2.2).bind fun t638 => (if t638 = true then ((laws_markMsg.f k bt615.1 bt615.2.1 bt615.2.2.1 bt615.2.2.2.1 bt615.2.2.2.2.1 bt615.2.2.2.2.2.1 bt615.2.2.2.2.2.2 1).bind fun bt639 => (if bt639.1 < 0 then (laws_FnExactPutMsg.j0 k t612 t625 true a0_0 a0_1 a0_2 a0_3 a0_4 a0_5 l0_6) else ((laws_eqByteS.f k t625 t612).bind fun t641 => (laws_FnExactPutMsg.j0 k t612 t625 (!t641) a0_0 a0_1 a0_2 a0_3 a0_4 a0_5 l0_6)))) else (none)))) else (none))))))))
theorem laws_FnExactPutMsg.mono_l : ∀ k, (∀ y0 y1 y2 y3 y4 y5 y6 y7 y8 y9, LeO (laws_FnExactPutMsg.j0 k y0 y1 y2 y3 y4 y5 y6 y7 y8 y9) (laws_FnExactPutMsg.j0 (k + 1) y0 y1 y2 y3 y4 y5 y6 y7 y8 y9))
 | 0 => fun _ _ _ _ _ _ _ _ _ _ r h => by simp [laws_FnExactPutMsg.j0] at h
 | k + 1 => by
  have ih0 := laws_FnExactPutMsg.mono_l k
  ·intro y0 y1 y2 y3 y4 y5 y6 y7 y8 y9
   unfold laws_FnExactPutMsg.j0
   repeat' first
   | (with_reducible exact ih0 _ _ _ _ _ _ _ _ _ _)
   | (with_reducible exact impl_PutMsg.mono _ _ _ _ _ _ _ _)
   | (with_reducible exact laws_eqByteS.mono _ _ _)
   | (with_reducible exact laws_eqMsg.mono _ _ _ _ _ _ _ _ _ _ _ _ _ _ _)
   | (with_reducible exact laws_heldByteS.mono _ _ _)
   | (with_reducible exact laws_markByteS.mono _ _ _)
   | (with_reducible exact laws_markMsg.mono _ _ _ _ _ _ _ _ _)
   | (with_reducible exact laws_szMsg.mono _ _ _ _ _ _ _ _ _)
   | (with_reducible exact laws_toMsg.mono _ _ _ _ _ _ _ _)
   | (with_reducible exact spec_PutMsg.mono _ _ _ _ _ _ _ _)
   | (with_reducible exact LeO.refl _)
   | (with_reducible exact LeO.none _)
   | (with_reducible refine LeO.ite ?_ ?_)
   | (with_reducible refine LeO.bind ?_ (fun _ => ?_))
   | exact ih0 _ _ _ _ _ _ _ _ _ _
   | exact impl_PutMsg.mono _ _ _ _ _ _ _ _
   | exact laws_eqByteS.mono _ _ _
   | exact laws_eqMsg.mono _ _ _ _ _ _ _ _ _ _ _ _ _ _ _
   | exact laws_heldByteS.mono _ _ _
   | exact laws_markByteS.mono _ _ _
   | exact laws_markMsg.mono _ _ _ _ _ _ _ _ _
   | exact laws_szMsg.mono _ _ _ _ _ _ _ _ _
   | exact laws_toMsg.mono _ _ _ _ _ _ _ _
   | exact spec_PutMsg.mono _ _ _ _ _ _ _ _
   | exact LeO.none _
   | refine LeO.ite ?_ ?_
   | refine LeO.bind ?_ (fun _ => ?_)
theorem laws_FnExactPutMsg.mono : ∀ a0 a1 a2 a3 a4 a5 a6 k, LeO (laws_FnExactPutMsg.f k a0 a1 a2 a3 a4 a5 a6) (laws_FnExactPutMsg.f (k + 1) a0 a1 a2 a3 a4 a5 a6) := by
 intro a0 a1 a2 a3 a4 a5 a6 k
 have ih0 := laws_FnExactPutMsg.mono_l k
 unfold laws_FnExactPutMsg.f
 repeat' first
   | (with_reducible exact ih0 _ _ _ _ _ _ _ _ _ _)
   | (with_reducible exact impl_PutMsg.mono _ _ _ _ _ _ _ _)
   | (with_reducible exact laws_eqByteS.mono _ _ _)
   | (with_reducible exact laws_eqMsg.mono _ _ _ _ _ _ _ _ _ _ _ _ _ _ _)
   | (with_reducible exact laws_heldByteS.mono _ _ _)
   | (with_reducible exact laws_markByteS.mono _ _ _)
   | (with_reducible exact laws_markMsg.mono _ _ _ _ _ _ _ _ _)
   | (with_reducible exact laws_szMsg.mono _ _ _ _ _ _ _ _ _)
   | (with_reducible exact laws_toMsg.mono _ _ _ _ _ _ _ _)
   | (with_reducible exact spec_PutMsg.mono _ _ _ _ _ _ _ _)
   | (with_reducible exact LeO.refl _)
   | (with_reducible exact LeO.none _)
   | (with_reducible refine LeO.ite ?_ ?_)
   | (with_reducible refine LeO.bind ?_ (fun _ => ?_))
   | exact ih0 _ _ _ _ _ _ _ _ _ _
   | exact impl_PutMsg.mono _ _ _ _ _ _ _ _
   | exact laws_eqByteS.mono _ _ _
   | exact laws_eqMsg.mono _ _ _ _ _ _ _ _ _ _ _ _ _ _ _
   | exact laws_heldByteS.mono _ _ _
   | exact laws_markByteS.mono _ _ _
   | exact laws_markMsg.mono _ _ _ _ _ _ _ _ _
   | exact laws_szMsg.mono _ _ _ _ _ _ _ _ _
   | exact laws_toMsg.mono _ _ _ _ _ _ _ _
   | exact spec_PutMsg.mono _ _ _ _ _ _ _ _
   | exact LeO.none _
   | refine LeO.ite ?_ ?_
   | refine LeO.bind ?_ (fun _ => ?_)
set_option maxHeartbeats 8000000 in
set_option maxRecDepth 100000 in
theorem laws_FnExactPutMsg.calls (k : Nat) (a0_0 : Int) (a0_1 : Int) (a0_2 : Int) (a0_3 : Int) (a0_4 : ByteArray) (a0_5 : Int) (A0_6 : Option Addr) (c0_6 : Nat) (l0_6 : List ByteArray) (r : Bool) (w : World) (hr0_6 : Kd.C Kd.string w A0_6 l0_6.length l0_6) (hc0_6 : l0_6.length ≤ c0_6) (h : laws_FnExactPutMsg.f k a0_0 a0_1 a0_2 a0_3 a0_4 a0_5 l0_6 = some r) :
  Calls Try.prog 4 #[.agg #[.int .i64 a0_0, .int .i64 a0_1, .int .i64 a0_2, .int .i64 a0_3, .string a0_4, .int .i64 a0_5, .slice A0_6 l0_6.length c0_6]] w fun e w' => e = .returned (.bool r) ∧ Below w.heap.size w w' := by
 have hu27 := Try.underlying27
 have hu33 := Try.underlying33
 have HR0_6 := Aside0.mk hr0_6
 have HC0_6 := Aside0.mk hc0_6
 clear hr0_6 hc0_6
 have HB := Aside0.mk (Below.refl w.heap.size w)
 have H : ((laws_szMsg.f k a0_0 a0_1 a0_2 a0_3 a0_4 a0_5 l0_6 1048576).bind fun t602 => (if t602 < 0 then (some true) else ((laws_toMsg.f k a0_0 a0_1 a0_2 a0_3 a0_4 a0_5 l0_6).bind fun bt603 => ((spec_PutMsg.f k bt603.1 bt603.2.1 bt603.2.2.1 bt603.2.2.2.1 bt603.2.2.2.2.1 bt603.2.2.2.2.2.1 bt603.2.2.2.2.2.2).bind fun t612 => ((laws_toMsg.f k a0_0 a0_1 a0_2 a0_3 a0_4 a0_5 l0_6).bind fun bt615 => ((impl_PutMsg.f k bt615.1 bt615.2.1 bt615.2.2.1 bt615.2.2.2.1 bt615.2.2.2.2.1 bt615.2.2.2.2.2.1 bt615.2.2.2.2.2.2).bind fun t625 => ((laws_eqByteS.f k t625 t612).bind fun t628 => (if t628 = true then ((laws_toMsg.f k a0_0 a0_1 a0_2 a0_3 a0_4 a0_5 l0_6).bind fun bt629 => ((laws_eqMsg.f k bt615.1 bt615.2.1 bt615.2.2.1 bt615.2.2.2.1 bt615.2.2.2.2.1 bt615.2.2.2.2.2.1 bt615.2.2.2.2.2.2 bt629.1 bt629.2.1 bt629.2.2.1 bt629.2.2.2.1 bt629.2.2.2.2.1 bt629.2.2.2.2.2.1 bt629.2.2.2.2.2.2).bind fun t638 => (if t638 = true then ((laws_markMsg.f k bt615.1 bt615.2.1 bt615.2.2.1 bt615.2.2.2.1 bt615.2.2.2.2.1 bt615.2.2.2.2.2.1 bt615.2.2.2.2.2.2 1).bind fun bt639 => (if bt639.1 < 0 then (laws_FnExactPutMsg.j0 k t612 t625 true a0_0 a0_1 a0_2 a0_3 a0_4 a0_5 l0_6) else ((laws_eqByteS.f k t625 t612).bind fun t641 => (laws_FnExactPutMsg.j0 k t612 t625 (!t641) a0_0 a0_1 a0_2 a0_3 a0_4 a0_5 l0_6)))) else (none)))) else (none))))))))) = some r := h
 clear h
 replace H := Option.bind_eq_some_iff.mp H
 obtain ⟨t602, A20, H⟩ := H
 replace H : (if t602 < 0 then (some true) else ((laws_toMsg.f k a0_0 a0_1 a0_2 a0_3 a0_4 a0_5 l0_6).bind fun bt603 => ((spec_PutMsg.f k bt603.1 bt603.2.1 bt603.2.2.1 bt603.2.2.2.1 bt603.2.2.2.2.1 bt603.2.2.2.2.2.1 bt603.2.2.2.2.2.2).bind fun t612 => ((laws_toMsg.f k a0_0 a0_1 a0_2 a0_3 a0_4 a0_5 l0_6).bind fun bt615 => ((impl_PutMsg.f k bt615.1 bt615.2.1 bt615.2.2.1 bt615.2.2.2.1 bt615.2.2.2.2.1 bt615.2.2.2.2.2.1 bt615.2.2.2.2.2.2).bind fun t625 => ((laws_eqByteS.f k t625 t612).bind fun t628 => (if t628 = true then ((laws_toMsg.f k a0_0 a0_1 a0_2 a0_3 a0_4 a0_5 l0_6).bind fun bt629 => ((laws_eqMsg.f k bt615.1 bt615.2.1 bt615.2.2.1 bt615.2.2.2.1 bt615.2.2.2.2.1 bt615.2.2.2.2.2.1 bt615.2.2.2.2.2.2 bt629.1 bt629.2.1 bt629.2.2.1 bt629.2.2.2.1 bt629.2.2.2.2.1 bt629.2.2.2.2.2.1 bt629.2.2.2.2.2.2).bind fun t638 => (if t638 = true then ((laws_markMsg.f k bt615.1 bt615.2.1 bt615.2.2.1 bt615.2.2.2.1 bt615.2.2.2.2.1 bt615.2.2.2.2.2.1 bt615.2.2.2.2.2.2 1).bind fun bt639 => (if bt639.1 < 0 then (laws_FnExactPutMsg.j0 k t612 t625 true a0_0 a0_1 a0_2 a0_3 a0_4 a0_5 l0_6) else ((laws_eqByteS.f k t625 t612).bind fun t641 => (laws_FnExactPutMsg.j0 k t612 t625 (!t641) a0_0 a0_1 a0_2 a0_3 a0_4 a0_5 l0_6)))) else (none)))) else (none)))))))) = some r := H
 have A2 := Aside0.mk A20
 clear A20
 by_cases c3 : t602 < 0
 ·rw [if_pos c3] at H
  have c3b0 : decide (t602 < 0) = true := decide_eq_true c3
  clear c3
  obtain rfl := Option.some.inj H
  go_enter Try.func4, Try.ntmps4
  go_wp2_with (first | ((with_reducible refine gate_dst (N := 1) rfl ?_); refine box_event ?hg (N := 1) ?hd (cs := #[.int .i64 a0_0, .int .i64 a0_1, .int .i64 a0_2, .int .i64 a0_3, .string a0_4, .int .i64 a0_5, .slice A0_6 l0_6.length c0_6]) (t := 27) ?hr ?_; (case hd => rfl); (case hg => rfl); (case hr => first | (go_simp; done) | (go_simp; rfl)); intro gb601 hg w4 hbox hb; have n0_ := Aside0.mk (below_step (by repeat (first | (with_reducible first | exact HB.out | apply below_alloc | apply pw_below_drewN | apply below_drew1) | exact HB.out)) hb); have n1_ := Aside0.mk (hbox); have n2_ := Aside0.mk ((by rw [hg]; exact (below_size (by repeat (first | (with_reducible first | exact HB.out | apply below_alloc | apply pw_below_drewN | apply below_drew1) | exact HB.out))) : w.heap.size ≤ gb601)); have n3_ := Aside0.mk ((by rw [hg]; exact (below_size (by repeat (first | (with_reducible first | exact HB.out | apply below_alloc | apply pw_below_drewN | apply below_drew1) | exact HB.out))) : w.heap.size ≤ gb601)); clear HB; have HB := n0_; have BK601 := n1_; have GW601 := n2_; have GE601 := n3_; clear n0_ n1_ n2_ n3_; clear hb hbox hg; have hcz5_0 : w4.cell? ⟨gb601, 0, none⟩ = some (.int .i64 a0_0) := (blk_cell BK601.out 0).trans rfl; have hcz5_1 : w4.cell? ⟨gb601, 1, none⟩ = some (.int .i64 a0_1) := (blk_cell BK601.out 1).trans rfl; have hcz5_2 : w4.cell? ⟨gb601, 2, none⟩ = some (.int .i64 a0_2) := (blk_cell BK601.out 2).trans rfl; have hcz5_3 : w4.cell? ⟨gb601, 3, none⟩ = some (.int .i64 a0_3) := (blk_cell BK601.out 3).trans rfl; have hcz5_4 : w4.cell? ⟨gb601, 4, none⟩ = some (.string a0_4) := (blk_cell BK601.out 4).trans rfl; have hcz5_5 : w4.cell? ⟨gb601, 5, none⟩ = some (.int .i64 a0_5) := (blk_cell BK601.out 5).trans rfl; have hcz5_6 : w4.cell? ⟨gb601, 6, none⟩ = some (.slice A0_6 l0_6.length c0_6) := (blk_cell BK601.out 6).trans rfl; have hfz5_0 := blk_frozen BK601.out 0; have hfz5_1 := blk_frozen BK601.out 1; have hfz5_2 := blk_frozen BK601.out 2; have hfz5_3 := blk_frozen BK601.out 3; have hfz5_4 := blk_frozen BK601.out 4; have hfz5_5 := blk_frozen BK601.out 5; have hfz5_6 := blk_frozen BK601.out 6) | ((with_reducible refine gate_callee (f := 17) rfl ?_); refine goesL_ (some 13) rfl rfl Try.func17 (by kernel_rfl) rfl #[.agg #[.int .i64 a0_0, .int .i64 a0_1, .int .i64 a0_2, .int .i64 a0_3, .string a0_4, .int .i64 a0_5, .slice A0_6 l0_6.length c0_6], .int .i64 1048576] rfl (by (try simp only [List.map_toArray, List.map_cons, List.map_nil]); first | done | rfl | (simp only [List.length_drop, List.length_take]; rfl)) ?_; (with_reducible refine (laws_szMsg.calls k a0_0 a0_1 a0_2 a0_3 a0_4 a0_5 _ _ l0_6 1048576 t602 _ ?side1 ?side2 A2.out).mono ?_); (case side1 => repeat (first | exact (Kd.C_below HR0_6.out HB.out) | (with_reducible refine Kd.C_alloc ?_ _) | (with_reducible refine Kd.C_drewN ?_ _) | (with_reducible refine Kd.C_drew ?_))); (case side2 => exact HC0_6.out); rintro e w6 ⟨rfl, hb⟩; refine ⟨_, rfl, ?_⟩; have n0_ := Aside0.mk (blk_below (g := gb601) (o := .cells #[.int .i64 a0_0, .int .i64 a0_1, .int .i64 a0_2, .int .i64 a0_3, .string a0_4, .int .i64 a0_5, .slice A0_6 l0_6.length c0_6] 27 (0, 0)) (by (with_reducible repeat (first | refine blk_drewN ?_ _ | refine blk_drew ?_ | refine blk_alloc ?_ _)); exact BK601.out) hb); have n1_ := Aside0.mk (below_step (by repeat (first | (with_reducible first | exact HB.out | apply below_alloc | apply pw_below_drewN | apply below_drew1 | refine below_set ?_ GE601.out) | exact HB.out)) hb); clear BK601; clear HB; have BK601 := n0_; have HB := n1_; clear n0_ n1_; (try clear hb); (try clear hb2); (try clear hk); (try clear hi)))
  go_ret
  exact ⟨by first | rfl | (simp [errW_none, errW_some] <;> rfl) | (simp [*, errW_none, errW_some] <;> rfl), by repeat (first | (with_reducible first | exact HB.out | apply below_alloc | apply pw_below_drewN | apply below_drew1 | refine below_set ?_ GE601.out) | exact HB.out)⟩
 ·rw [if_neg c3] at H
  have c3b0 : decide (t602 < 0) = false := decide_eq_false c3
  clear c3
  replace H := Option.bind_eq_some_iff.mp H
  obtain ⟨⟨t603, t604, t605, t606, t607, t608, t609⟩, A70, H⟩ := H
  replace H : ((spec_PutMsg.f k t603 t604 t605 t606 t607 t608 t609).bind fun t612 => ((laws_toMsg.f k a0_0 a0_1 a0_2 a0_3 a0_4 a0_5 l0_6).bind fun bt615 => ((impl_PutMsg.f k bt615.1 bt615.2.1 bt615.2.2.1 bt615.2.2.2.1 bt615.2.2.2.2.1 bt615.2.2.2.2.2.1 bt615.2.2.2.2.2.2).bind fun t625 => ((laws_eqByteS.f k t625 t612).bind fun t628 => (if t628 = true then ((laws_toMsg.f k a0_0 a0_1 a0_2 a0_3 a0_4 a0_5 l0_6).bind fun bt629 => ((laws_eqMsg.f k bt615.1 bt615.2.1 bt615.2.2.1 bt615.2.2.2.1 bt615.2.2.2.2.1 bt615.2.2.2.2.2.1 bt615.2.2.2.2.2.2 bt629.1 bt629.2.1 bt629.2.2.1 bt629.2.2.2.1 bt629.2.2.2.2.1 bt629.2.2.2.2.2.1 bt629.2.2.2.2.2.2).bind fun t638 => (if t638 = true then ((laws_markMsg.f k bt615.1 bt615.2.1 bt615.2.2.1 bt615.2.2.2.1 bt615.2.2.2.2.1 bt615.2.2.2.2.2.1 bt615.2.2.2.2.2.2 1).bind fun bt639 => (if bt639.1 < 0 then (laws_FnExactPutMsg.j0 k t612 t625 true a0_0 a0_1 a0_2 a0_3 a0_4 a0_5 l0_6) else ((laws_eqByteS.f k t625 t612).bind fun t641 => (laws_FnExactPutMsg.j0 k t612 t625 (!t641) a0_0 a0_1 a0_2 a0_3 a0_4 a0_5 l0_6)))) else (none)))) else (none)))))) = some r := H
  have A7 := Aside0.mk A70
  clear A70
  replace H := Option.bind_eq_some_iff.mp H
  obtain ⟨t612, A80, H⟩ := H
  replace H : ((laws_toMsg.f k a0_0 a0_1 a0_2 a0_3 a0_4 a0_5 l0_6).bind fun bt615 => ((impl_PutMsg.f k bt615.1 bt615.2.1 bt615.2.2.1 bt615.2.2.2.1 bt615.2.2.2.2.1 bt615.2.2.2.2.2.1 bt615.2.2.2.2.2.2).bind fun t625 => ((laws_eqByteS.f k t625 t612).bind fun t628 => (if t628 = true then ((laws_toMsg.f k a0_0 a0_1 a0_2 a0_3 a0_4 a0_5 l0_6).bind fun bt629 => ((laws_eqMsg.f k bt615.1 bt615.2.1 bt615.2.2.1 bt615.2.2.2.1 bt615.2.2.2.2.1 bt615.2.2.2.2.2.1 bt615.2.2.2.2.2.2 bt629.1 bt629.2.1 bt629.2.2.1 bt629.2.2.2.1 bt629.2.2.2.2.1 bt629.2.2.2.2.2.1 bt629.2.2.2.2.2.2).bind fun t638 => (if t638 = true then ((laws_markMsg.f k bt615.1 bt615.2.1 bt615.2.2.1 bt615.2.2.2.1 bt615.2.2.2.2.1 bt615.2.2.2.2.2.1 bt615.2.2.2.2.2.2 1).bind fun bt639 => (if bt639.1 < 0 then (laws_FnExactPutMsg.j0 k t612 t625 true a0_0 a0_1 a0_2 a0_3 a0_4 a0_5 l0_6) else ((laws_eqByteS.f k t625 t612).bind fun t641 => (laws_FnExactPutMsg.j0 k t612 t625 (!t641) a0_0 a0_1 a0_2 a0_3 a0_4 a0_5 l0_6)))) else (none)))) else (none))))) = some r := H
  have A8 := Aside0.mk A80
  clear A80
  replace H := Option.bind_eq_some_iff.mp H
  obtain ⟨⟨t615, t616, t617, t618, t619, t620, t621⟩, A90, H⟩ := H
  replace H : ((impl_PutMsg.f k t615 t616 t617 t618 t619 t620 t621).bind fun t625 => ((laws_eqByteS.f k t625 t612).bind fun t628 => (if t628 = true then ((laws_toMsg.f k a0_0 a0_1 a0_2 a0_3 a0_4 a0_5 l0_6).bind fun bt629 => ((laws_eqMsg.f k t615 t616 t617 t618 t619 t620 t621 bt629.1 bt629.2.1 bt629.2.2.1 bt629.2.2.2.1 bt629.2.2.2.2.1 bt629.2.2.2.2.2.1 bt629.2.2.2.2.2.2).bind fun t638 => (if t638 = true then ((laws_markMsg.f k t615 t616 t617 t618 t619 t620 t621 1).bind fun bt639 => (if bt639.1 < 0 then (laws_FnExactPutMsg.j0 k t612 t625 true a0_0 a0_1 a0_2 a0_3 a0_4 a0_5 l0_6) else ((laws_eqByteS.f k t625 t612).bind fun t641 => (laws_FnExactPutMsg.j0 k t612 t625 (!t641) a0_0 a0_1 a0_2 a0_3 a0_4 a0_5 l0_6)))) else (none)))) else (none)))) = some r := H
  have A9 := Aside0.mk A90
  clear A90
  replace H := Option.bind_eq_some_iff.mp H
  obtain ⟨t625, A100, H⟩ := H
  replace H : ((laws_eqByteS.f k t625 t612).bind fun t628 => (if t628 = true then ((laws_toMsg.f k a0_0 a0_1 a0_2 a0_3 a0_4 a0_5 l0_6).bind fun bt629 => ((laws_eqMsg.f k t615 t616 t617 t618 t619 t620 t621 bt629.1 bt629.2.1 bt629.2.2.1 bt629.2.2.2.1 bt629.2.2.2.2.1 bt629.2.2.2.2.2.1 bt629.2.2.2.2.2.2).bind fun t638 => (if t638 = true then ((laws_markMsg.f k t615 t616 t617 t618 t619 t620 t621 1).bind fun bt639 => (if bt639.1 < 0 then (laws_FnExactPutMsg.j0 k t612 t625 true a0_0 a0_1 a0_2 a0_3 a0_4 a0_5 l0_6) else ((laws_eqByteS.f k t625 t612).bind fun t641 => (laws_FnExactPutMsg.j0 k t612 t625 (!t641) a0_0 a0_1 a0_2 a0_3 a0_4 a0_5 l0_6)))) else (none)))) else (none))) = some r := H
  have A10 := Aside0.mk A100
  clear A100
  replace H := Option.bind_eq_some_iff.mp H
  obtain ⟨t628, A110, H⟩ := H
  replace H : (if t628 = true then ((laws_toMsg.f k a0_0 a0_1 a0_2 a0_3 a0_4 a0_5 l0_6).bind fun bt629 => ((laws_eqMsg.f k t615 t616 t617 t618 t619 t620 t621 bt629.1 bt629.2.1 bt629.2.2.1 bt629.2.2.2.1 bt629.2.2.2.2.1 bt629.2.2.2.2.2.1 bt629.2.2.2.2.2.2).bind fun t638 => (if t638 = true then ((laws_markMsg.f k t615 t616 t617 t618 t619 t620 t621 1).bind fun bt639 => (if bt639.1 < 0 then (laws_FnExactPutMsg.j0 k t612 t625 true a0_0 a0_1 a0_2 a0_3 a0_4 a0_5 l0_6) else ((laws_eqByteS.f k t625 t612).bind fun t641 => (laws_FnExactPutMsg.j0 k t612 t625 (!t641) a0_0 a0_1 a0_2 a0_3 a0_4 a0_5 l0_6)))) else (none)))) else (none)) = some r := H
  have A11 := Aside0.mk A110
  clear A110
  by_cases c12 : t628 = true
  ·subst c12
   have H1 : ((laws_toMsg.f k a0_0 a0_1 a0_2 a0_3 a0_4 a0_5 l0_6).bind fun bt629 => ((laws_eqMsg.f k t615 t616 t617 t618 t619 t620 t621 bt629.1 bt629.2.1 bt629.2.2.1 bt629.2.2.2.1 bt629.2.2.2.2.1 bt629.2.2.2.2.2.1 bt629.2.2.2.2.2.2).bind fun t638 => (if t638 = true then ((laws_markMsg.f k t615 t616 t617 t618 t619 t620 t621 1).bind fun bt639 => (if bt639.1 < 0 then (laws_FnExactPutMsg.j0 k t612 t625 true a0_0 a0_1 a0_2 a0_3 a0_4 a0_5 l0_6) else ((laws_eqByteS.f k t625 t612).bind fun t641 => (laws_FnExactPutMsg.j0 k t612 t625 (!t641) a0_0 a0_1 a0_2 a0_3 a0_4 a0_5 l0_6)))) else (none)))) = some r := by rw [if_pos rfl] at H; exact H
   clear H
   have H := H1
   clear H1
   replace H := Option.bind_eq_some_iff.mp H
   obtain ⟨⟨t629, t630, t631, t632, t633, t634, t635⟩, A130, H⟩ := H
   replace H : ((laws_eqMsg.f k t615 t616 t617 t618 t619 t620 t621 t629 t630 t631 t632 t633 t634 t635).bind fun t638 => (if t638 = true then ((laws_markMsg.f k t615 t616 t617 t618 t619 t620 t621 1).bind fun bt639 => (if bt639.1 < 0 then (laws_FnExactPutMsg.j0 k t612 t625 true a0_0 a0_1 a0_2 a0_3 a0_4 a0_5 l0_6) else ((laws_eqByteS.f k t625 t612).bind fun t641 => (laws_FnExactPutMsg.j0 k t612 t625 (!t641) a0_0 a0_1 a0_2 a0_3 a0_4 a0_5 l0_6)))) else (none))) = some r := H
   have A13 := Aside0.mk A130
   clear A130
   replace H := Option.bind_eq_some_iff.mp H
   obtain ⟨t638, A140, H⟩ := H
   replace H : (if t638 = true then ((laws_markMsg.f k t615 t616 t617 t618 t619 t620 t621 1).bind fun bt639 => (if bt639.1 < 0 then (laws_FnExactPutMsg.j0 k t612 t625 true a0_0 a0_1 a0_2 a0_3 a0_4 a0_5 l0_6) else ((laws_eqByteS.f k t625 t612).bind fun t641 => (laws_FnExactPutMsg.j0 k t612 t625 (!t641) a0_0 a0_1 a0_2 a0_3 a0_4 a0_5 l0_6)))) else (none)) = some r := H
   have A14 := Aside0.mk A140
   clear A140
   by_cases c15 : t638 = true
   ·subst c15
    have H1 : ((laws_markMsg.f k t615 t616 t617 t618 t619 t620 t621 1).bind fun bt639 => (if bt639.1 < 0 then (laws_FnExactPutMsg.j0 k t612 t625 true a0_0 a0_1 a0_2 a0_3 a0_4 a0_5 l0_6) else ((laws_eqByteS.f k t625 t612).bind fun t641 => (laws_FnExactPutMsg.j0 k t612 t625 (!t641) a0_0 a0_1 a0_2 a0_3 a0_4 a0_5 l0_6)))) = some r := by rw [if_pos rfl] at H; exact H
    clear H
    have H := H1
    clear H1
    replace H := Option.bind_eq_some_iff.mp H
    obtain ⟨⟨t639, t640⟩, A160, H⟩ := H
    replace H : (if t639 < 0 then (laws_FnExactPutMsg.j0 k t612 t625 true a0_0 a0_1 a0_2 a0_3 a0_4 a0_5 l0_6) else ((laws_eqByteS.f k t625 t612).bind fun t641 => (laws_FnExactPutMsg.j0 k t612 t625 (!t641) a0_0 a0_1 a0_2 a0_3 a0_4 a0_5 l0_6))) = some r := H
    have A16 := Aside0.mk A160
    clear A160
    have HC17 := Aside0.mk H
    clear H
    go_enter Try.func4, Try.ntmps4
    try go_wp2_with (first | ((with_reducible refine gate_dst (N := 1) rfl ?_); refine box_event ?hg (N := 1) ?hd (cs := #[.int .i64 a0_0, .int .i64 a0_1, .int .i64 a0_2, .int .i64 a0_3, .string a0_4, .int .i64 a0_5, .slice A0_6 l0_6.length c0_6]) (t := 27) ?hr ?_; (case hd => rfl); (case hg => rfl); (case hr => first | (go_simp; done) | (go_simp; rfl)); intro gb601 hg w18 hbox hb; have n0_ := Aside0.mk (below_step (by repeat (first | (with_reducible first | exact HB.out | apply below_alloc | apply pw_below_drewN | apply below_drew1) | exact HB.out)) hb); have n1_ := Aside0.mk (hbox); have n2_ := Aside0.mk ((by rw [hg]; exact (below_size (by repeat (first | (with_reducible first | exact HB.out | apply below_alloc | apply pw_below_drewN | apply below_drew1) | exact HB.out))) : w.heap.size ≤ gb601)); have n3_ := Aside0.mk ((by rw [hg]; exact (below_size (by repeat (first | (with_reducible first | exact HB.out | apply below_alloc | apply pw_below_drewN | apply below_drew1) | exact HB.out))) : w.heap.size ≤ gb601)); clear HB; have HB := n0_; have BK601 := n1_; have GW601 := n2_; have GE601 := n3_; clear n0_ n1_ n2_ n3_; clear hb hbox hg; have hcz19_0 : w18.cell? ⟨gb601, 0, none⟩ = some (.int .i64 a0_0) := (blk_cell BK601.out 0).trans rfl; have hcz19_1 : w18.cell? ⟨gb601, 1, none⟩ = some (.int .i64 a0_1) := (blk_cell BK601.out 1).trans rfl; have hcz19_2 : w18.cell? ⟨gb601, 2, none⟩ = some (.int .i64 a0_2) := (blk_cell BK601.out 2).trans rfl; have hcz19_3 : w18.cell? ⟨gb601, 3, none⟩ = some (.int .i64 a0_3) := (blk_cell BK601.out 3).trans rfl; have hcz19_4 : w18.cell? ⟨gb601, 4, none⟩ = some (.string a0_4) := (blk_cell BK601.out 4).trans rfl; have hcz19_5 : w18.cell? ⟨gb601, 5, none⟩ = some (.int .i64 a0_5) := (blk_cell BK601.out 5).trans rfl; have hcz19_6 : w18.cell? ⟨gb601, 6, none⟩ = some (.slice A0_6 l0_6.length c0_6) := (blk_cell BK601.out 6).trans rfl; have hfz19_0 := blk_frozen BK601.out 0; have hfz19_1 := blk_frozen BK601.out 1; have hfz19_2 := blk_frozen BK601.out 2; have hfz19_3 := blk_frozen BK601.out 3; have hfz19_4 := blk_frozen BK601.out 4; have hfz19_5 := blk_frozen BK601.out 5; have hfz19_6 := blk_frozen BK601.out 6) | ((with_reducible refine gate_callee (f := 17) rfl ?_); refine goesL_ (some 13) rfl rfl Try.func17 (by kernel_rfl) rfl #[.agg #[.int .i64 a0_0, .int .i64 a0_1, .int .i64 a0_2, .int .i64 a0_3, .string a0_4, .int .i64 a0_5, .slice A0_6 l0_6.length c0_6], .int .i64 1048576] rfl (by (try simp only [List.map_toArray, List.map_cons, List.map_nil]); first | done | rfl | (simp only [List.length_drop, List.length_take]; rfl)) ?_; (with_reducible refine (laws_szMsg.calls k a0_0 a0_1 a0_2 a0_3 a0_4 a0_5 _ _ l0_6 1048576 t602 _ ?side1 ?side2 A2.out).mono ?_); (case side1 => repeat (first | exact (Kd.C_below HR0_6.out HB.out) | (with_reducible refine Kd.C_alloc ?_ _) | (with_reducible refine Kd.C_drewN ?_ _) | (with_reducible refine Kd.C_drew ?_))); (case side2 => exact HC0_6.out); rintro e w20 ⟨rfl, hb⟩; refine ⟨_, rfl, ?_⟩; have n0_ := Aside0.mk (blk_below (g := gb601) (o := .cells #[.int .i64 a0_0, .int .i64 a0_1, .int .i64 a0_2, .int .i64 a0_3, .string a0_4, .int .i64 a0_5, .slice A0_6 l0_6.length c0_6] 27 (0, 0)) (by (with_reducible repeat (first | refine blk_drewN ?_ _ | refine blk_drew ?_ | refine blk_alloc ?_ _)); exact BK601.out) hb); have n1_ := Aside0.mk (below_step (by repeat (first | (with_reducible first | exact HB.out | apply below_alloc | apply pw_below_drewN | apply below_drew1 | refine below_set ?_ GE601.out) | exact HB.out)) hb); clear BK601; clear HB; have BK601 := n0_; have HB := n1_; clear n0_ n1_; (try clear hb); (try clear hb2); (try clear hk); (try clear hi); have hcz21_0 : w20.cell? ⟨gb601, 0, none⟩ = some (.int .i64 a0_0) := (blk_cell BK601.out 0).trans rfl; have hcz21_1 : w20.cell? ⟨gb601, 1, none⟩ = some (.int .i64 a0_1) := (blk_cell BK601.out 1).trans rfl; have hcz21_2 : w20.cell? ⟨gb601, 2, none⟩ = some (.int .i64 a0_2) := (blk_cell BK601.out 2).trans rfl; have hcz21_3 : w20.cell? ⟨gb601, 3, none⟩ = some (.int .i64 a0_3) := (blk_cell BK601.out 3).trans rfl; have hcz21_4 : w20.cell? ⟨gb601, 4, none⟩ = some (.string a0_4) := (blk_cell BK601.out 4).trans rfl; have hcz21_5 : w20.cell? ⟨gb601, 5, none⟩ = some (.int .i64 a0_5) := (blk_cell BK601.out 5).trans rfl; have hcz21_6 : w20.cell? ⟨gb601, 6, none⟩ = some (.slice A0_6 l0_6.length c0_6) := (blk_cell BK601.out 6).trans rfl; have hfz21_0 := blk_frozen BK601.out 0; have hfz21_1 := blk_frozen BK601.out 1; have hfz21_2 := blk_frozen BK601.out 2; have hfz21_3 := blk_frozen BK601.out 3; have hfz21_4 := blk_frozen BK601.out 4; have hfz21_5 := blk_frozen BK601.out 5; have hfz21_6 := blk_frozen BK601.out 6) | ((with_reducible refine gate_callee (f := 19) rfl ?_); refine goesL_ (some 17) rfl rfl Try.func19 (by kernel_rfl) rfl #[.agg #[.int .i64 a0_0, .int .i64 a0_1, .int .i64 a0_2, .int .i64 a0_3, .string a0_4, .int .i64 a0_5, .slice A0_6 l0_6.length c0_6]] rfl (by (try simp only [List.map_toArray, List.map_cons, List.map_nil]); first | done | rfl | (simp only [List.length_drop, List.length_take]; rfl)) ?_; (with_reducible refine (laws_toMsg.calls k a0_0 a0_1 a0_2 a0_3 a0_4 a0_5 _ _ l0_6 t603 t604 t605 t606 t607 t608 t609 _ ?side1 ?side2 A7.out).mono ?_); (case side1 => repeat (first | exact (Kd.C_below HR0_6.out HB.out) | (with_reducible refine Kd.C_alloc ?_ _) | (with_reducible refine Kd.C_drewN ?_ _) | (with_reducible refine Kd.C_drew ?_))); (case side2 => exact HC0_6.out); rintro e w22 ⟨v610, rfl, ho0, hb⟩; refine ⟨_, rfl, ?_⟩; have n0_ := Aside0.mk (Kd.R_lower ho0 (below_size (by repeat (first | (with_reducible first | exact HB.out | apply below_alloc | apply pw_below_drewN | apply below_drew1 | refine below_set ?_ GE601.out) | exact HB.out)))); have n1_ := Aside0.mk (blk_below (g := gb601) (o := .cells #[.int .i64 a0_0, .int .i64 a0_1, .int .i64 a0_2, .int .i64 a0_3, .string a0_4, .int .i64 a0_5, .slice A0_6 l0_6.length c0_6] 27 (0, 0)) (by (with_reducible repeat (first | refine blk_drewN ?_ _ | refine blk_drew ?_ | refine blk_alloc ?_ _)); exact BK601.out) hb); have n2_ := Aside0.mk (below_step (by repeat (first | (with_reducible first | exact HB.out | apply below_alloc | apply pw_below_drewN | apply below_drew1 | refine below_set ?_ GE601.out) | exact HB.out)) hb); clear BK601; clear HB; have HO611 := n0_; have BK601 := n1_; have HB := n2_; clear n0_ n1_ n2_; (try clear hb); (try clear hb2); (try clear hk); (try clear hi); (try clear ho0); obtain ⟨Ao23, co23, eo23⟩ := Kd.R_slice HO611.out; subst eo23) | ((with_reducible refine gate_callee (f := 18) rfl ?_); refine goesL_ (some 18) rfl rfl Try.func18 (by kernel_rfl) rfl #[.agg #[.int .i64 t603, .int .i64 t604, .int .i64 t605, .int .i64 t606, .string t607, .int .i64 t608, .slice Ao23 t609.length co23]] rfl (by (try simp only [List.map_toArray, List.map_cons, List.map_nil]); first | done | rfl | (simp only [List.length_drop, List.length_take]; rfl)) ?_; (with_reducible refine (spec_PutMsg.calls k t603 t604 t605 t606 t607 t608 _ _ t609 t612 _ ?side1 ?side2 A8.out).mono ?_); (case side1 => repeat (first | exact (Kd.R_reads' HO611.out).2.2 | (with_reducible refine Kd.C_alloc ?_ _) | (with_reducible refine Kd.C_drewN ?_ _) | (with_reducible refine Kd.C_drew ?_))); (case side2 => exact (Kd.R_reads' HO611.out).2.1); rintro e w24 ⟨v613, rfl, ho0, hb⟩; refine ⟨_, rfl, ?_⟩; have n0_ := Aside0.mk (Kd.R_below (by (with_reducible repeat (first | apply Kd.R_alloc | apply Kd.R_drewN | apply Kd.R_drew)); exact HO611.out) hb); have n1_ := Aside0.mk (Kd.R_lower ho0 (below_size (by repeat (first | (with_reducible first | exact HB.out | apply below_alloc | apply pw_below_drewN | apply below_drew1 | refine below_set ?_ GE601.out) | exact HB.out)))); have n2_ := Aside0.mk (blk_below (g := gb601) (o := .cells #[.int .i64 a0_0, .int .i64 a0_1, .int .i64 a0_2, .int .i64 a0_3, .string a0_4, .int .i64 a0_5, .slice A0_6 l0_6.length c0_6] 27 (0, 0)) (by (with_reducible repeat (first | refine blk_drewN ?_ _ | refine blk_drew ?_ | refine blk_alloc ?_ _)); exact BK601.out) hb); have n3_ := Aside0.mk (below_step (by repeat (first | (with_reducible first | exact HB.out | apply below_alloc | apply pw_below_drewN | apply below_drew1 | refine below_set ?_ GE601.out) | exact HB.out)) hb); clear HO611; clear BK601; clear HB; have HO611 := n0_; have HO614 := n1_; have BK601 := n2_; have HB := n3_; clear n0_ n1_ n2_ n3_; (try clear hb); (try clear hb2); (try clear hk); (try clear hi); (try clear ho0); have hcz25_0 : w24.cell? ⟨gb601, 0, none⟩ = some (.int .i64 a0_0) := (blk_cell BK601.out 0).trans rfl; have hcz25_1 : w24.cell? ⟨gb601, 1, none⟩ = some (.int .i64 a0_1) := (blk_cell BK601.out 1).trans rfl; have hcz25_2 : w24.cell? ⟨gb601, 2, none⟩ = some (.int .i64 a0_2) := (blk_cell BK601.out 2).trans rfl; have hcz25_3 : w24.cell? ⟨gb601, 3, none⟩ = some (.int .i64 a0_3) := (blk_cell BK601.out 3).trans rfl; have hcz25_4 : w24.cell? ⟨gb601, 4, none⟩ = some (.string a0_4) := (blk_cell BK601.out 4).trans rfl; have hcz25_5 : w24.cell? ⟨gb601, 5, none⟩ = some (.int .i64 a0_5) := (blk_cell BK601.out 5).trans rfl; have hcz25_6 : w24.cell? ⟨gb601, 6, none⟩ = some (.slice A0_6 l0_6.length c0_6) := (blk_cell BK601.out 6).trans rfl; have hfz25_0 := blk_frozen BK601.out 0; have hfz25_1 := blk_frozen BK601.out 1; have hfz25_2 := blk_frozen BK601.out 2; have hfz25_3 := blk_frozen BK601.out 3; have hfz25_4 := blk_frozen BK601.out 4; have hfz25_5 := blk_frozen BK601.out 5; have hfz25_6 := blk_frozen BK601.out 6) | ((with_reducible refine gate_callee (f := 19) rfl ?_); refine goesL_ (some 20) rfl rfl Try.func19 (by kernel_rfl) rfl #[.agg #[.int .i64 a0_0, .int .i64 a0_1, .int .i64 a0_2, .int .i64 a0_3, .string a0_4, .int .i64 a0_5, .slice A0_6 l0_6.length c0_6]] rfl (by (try simp only [List.map_toArray, List.map_cons, List.map_nil]); first | done | rfl | (simp only [List.length_drop, List.length_take]; rfl)) ?_; (with_reducible refine (laws_toMsg.calls k a0_0 a0_1 a0_2 a0_3 a0_4 a0_5 _ _ l0_6 t615 t616 t617 t618 t619 t620 t621 _ ?side1 ?side2 A9.out).mono ?_); (case side1 => repeat (first | exact (Kd.C_below HR0_6.out HB.out) | (with_reducible refine Kd.C_alloc ?_ _) | (with_reducible refine Kd.C_drewN ?_ _) | (with_reducible refine Kd.C_drew ?_))); (case side2 => exact HC0_6.out); rintro e w26 ⟨v622, rfl, ho0, hb⟩; refine ⟨_, rfl, ?_⟩; have n0_ := Aside0.mk (Kd.R_elder' (by (with_reducible repeat (first | apply Kd.R_alloc | apply Kd.R_drewN | apply Kd.R_drew)); exact HO611.out) (Kd.R_base ho0) hb); have n1_ := Aside0.mk (Kd.R_below (by (with_reducible repeat (first | apply Kd.R_alloc | apply Kd.R_drewN | apply Kd.R_drew)); exact HO614.out) hb); have n2_ := Aside0.mk (Kd.R_lower (Kd.R_new' ho0 (Kd.R_lt (by (with_reducible repeat (first | apply Kd.R_alloc | apply Kd.R_drewN | apply Kd.R_drew)); exact HO611.out))) (below_size (by repeat (first | (with_reducible first | exact HB.out | apply below_alloc | apply pw_below_drewN | apply below_drew1 | refine below_set ?_ GE601.out) | exact HB.out)))); have n3_ := Aside0.mk (blk_below (g := gb601) (o := .cells #[.int .i64 a0_0, .int .i64 a0_1, .int .i64 a0_2, .int .i64 a0_3, .string a0_4, .int .i64 a0_5, .slice A0_6 l0_6.length c0_6] 27 (0, 0)) (by (with_reducible repeat (first | refine blk_drewN ?_ _ | refine blk_drew ?_ | refine blk_alloc ?_ _)); exact BK601.out) hb); have n4_ := Aside0.mk (below_step (by repeat (first | (with_reducible first | exact HB.out | apply below_alloc | apply pw_below_drewN | apply below_drew1 | refine below_set ?_ GE601.out) | exact HB.out)) hb); clear HO611; clear HO614; clear BK601; clear HB; have HO611 := n0_; have HO614 := n1_; have HO623 := n2_; have BK601 := n3_; have HB := n4_; clear n0_ n1_ n2_ n3_ n4_; (try clear hb); (try clear hb2); (try clear hk); (try clear hi); (try clear ho0)) | ((with_reducible refine gate_dst (N := 5) rfl ?_); refine box_event ?hg (N := 5) ?hd (cs := #[.int .i64 0, .int .i64 0, .int .i64 0, .int .i64 0, .string (⟨#[]⟩ : ByteArray), .int .i64 0, .slice none 0 0]) (t := 33) ?hr ?_; (case hd => rfl); (case hg => rfl); (case hr => first | (go_simp; done) | (go_simp; rfl)); intro gb624 hg w27 hbox hb; have n0_ := Aside0.mk (Kd.R_below (by (with_reducible repeat (first | apply Kd.R_alloc | apply Kd.R_drewN | apply Kd.R_drew)); exact HO611.out) hb); have n1_ := Aside0.mk (Kd.R_below (by (with_reducible repeat (first | apply Kd.R_alloc | apply Kd.R_drewN | apply Kd.R_drew)); exact HO614.out) hb); have n2_ := Aside0.mk (Kd.R_below (by (with_reducible repeat (first | apply Kd.R_alloc | apply Kd.R_drewN | apply Kd.R_drew)); exact HO623.out) hb); have n3_ := Aside0.mk (blk_below (g := gb601) (o := .cells #[.int .i64 a0_0, .int .i64 a0_1, .int .i64 a0_2, .int .i64 a0_3, .string a0_4, .int .i64 a0_5, .slice A0_6 l0_6.length c0_6] 27 (0, 0)) (by (with_reducible repeat (first | refine blk_drewN ?_ _ | refine blk_drew ?_ | refine blk_alloc ?_ _)); exact BK601.out) hb); have n4_ := Aside0.mk (below_step (by repeat (first | (with_reducible first | exact HB.out | apply below_alloc | apply pw_below_drewN | apply below_drew1 | refine below_set ?_ GE601.out) | exact HB.out)) hb); have n5_ := Aside0.mk (hbox); have n6_ := Aside0.mk ((by rw [hg]; exact (below_size (by repeat (first | (with_reducible first | exact HB.out | apply below_alloc | apply pw_below_drewN | apply below_drew1 | refine below_set ?_ GE601.out) | exact HB.out))) : w.heap.size ≤ gb624)); have n7_ := Aside0.mk ((by rw [hg]; exact (below_size (by repeat (first | (with_reducible first | exact HB.out | apply below_alloc | apply pw_below_drewN | apply below_drew1 | refine below_set ?_ GE601.out) | exact HB.out))) : w.heap.size ≤ gb624)); have n8_ := Aside0.mk ((by rw [hg]; exact Nat.ne_of_lt (blk_lt (g := gb601) (o := .cells #[.int .i64 a0_0, .int .i64 a0_1, .int .i64 a0_2, .int .i64 a0_3, .string a0_4, .int .i64 a0_5, .slice A0_6 l0_6.length c0_6] 27 (0, 0)) (by (with_reducible repeat (first | refine blk_drewN ?_ _ | refine blk_drew ?_ | refine blk_alloc ?_ _)); exact BK601.out)) : gb601 ≠ gb624)); have n9_ := Aside0.mk ((by rw [hg]; exact Nat.ne_of_gt (blk_lt (g := gb601) (o := .cells #[.int .i64 a0_0, .int .i64 a0_1, .int .i64 a0_2, .int .i64 a0_3, .string a0_4, .int .i64 a0_5, .slice A0_6 l0_6.length c0_6] 27 (0, 0)) (by (with_reducible repeat (first | refine blk_drewN ?_ _ | refine blk_drew ?_ | refine blk_alloc ?_ _)); exact BK601.out)) : gb624 ≠ gb601)); clear HO611; clear HO614; clear HO623; clear BK601; clear HB; have HO611 := n0_; have HO614 := n1_; have HO623 := n2_; have BK601 := n3_; have HB := n4_; have BK624 := n5_; have GW624 := n6_; have GE624 := n7_; have NB601_624 := n8_; have NB624_601 := n9_; clear n0_ n1_ n2_ n3_ n4_ n5_ n6_ n7_ n8_ n9_; clear hb hbox hg; have hnb28 := NB624_601.out; have hnc28 := NB601_624.out; have hcz29_0 : w27.cell? ⟨gb624, 0, none⟩ = some (.int .i64 0) := (blk_cell BK624.out 0).trans rfl; have hcz29_1 : w27.cell? ⟨gb624, 1, none⟩ = some (.int .i64 0) := (blk_cell BK624.out 1).trans rfl; have hcz29_2 : w27.cell? ⟨gb624, 2, none⟩ = some (.int .i64 0) := (blk_cell BK624.out 2).trans rfl; have hcz29_3 : w27.cell? ⟨gb624, 3, none⟩ = some (.int .i64 0) := (blk_cell BK624.out 3).trans rfl; have hcz29_4 : w27.cell? ⟨gb624, 4, none⟩ = some (.string (⟨#[]⟩ : ByteArray)) := (blk_cell BK624.out 4).trans rfl; have hcz29_5 : w27.cell? ⟨gb624, 5, none⟩ = some (.int .i64 0) := (blk_cell BK624.out 5).trans rfl; have hcz29_6 : w27.cell? ⟨gb624, 6, none⟩ = some (.slice none 0 0) := (blk_cell BK624.out 6).trans rfl; have hfz29_0 := blk_frozen BK624.out 0; have hfz29_1 := blk_frozen BK624.out 1; have hfz29_2 := blk_frozen BK624.out 2; have hfz29_3 := blk_frozen BK624.out 3; have hfz29_4 := blk_frozen BK624.out 4; have hfz29_5 := blk_frozen BK624.out 5; have hfz29_6 := blk_frozen BK624.out 6; obtain ⟨Ao30, co30, eo30⟩ := Kd.R_slice HO623.out; subst eo30) | ((with_reducible refine gate_callee (f := 20) rfl ?_); refine goesL_ (some 22) rfl rfl Try.func20 (by kernel_rfl) rfl #[.agg #[.int .i64 t615, .int .i64 t616, .int .i64 t617, .int .i64 t618, .string t619, .int .i64 t620, .slice Ao30 t621.length co30]] rfl (by (try simp only [List.map_toArray, List.map_cons, List.map_nil]); first | done | rfl | (simp only [List.length_drop, List.length_take]; rfl)) ?_; (with_reducible refine (impl_PutMsg.calls k t615 t616 t617 t618 t619 t620 _ _ t621 t625 _ ?side1 ?side2 A10.out).mono ?_); (case side1 => refine (Kd.R_reads' (e := 9) (base := w.heap.size) (ok := fun k_ => (True ∧ some k_ ≠ (.slice Ao23 t609.length co23 : Value).ownBlock)) (n := t621.length) (c := co30) ?_).2.2; exact (by (with_reducible repeat (first | apply Kd.R_alloc | apply Kd.R_drewN | apply Kd.R_drew)); exact (Kd.R_mono (Kd.R_far (p := ⟨gb624, 6, none⟩) (Kd.R_far (p := ⟨gb624, 5, none⟩) (Kd.R_far (p := ⟨gb624, 4, none⟩) (Kd.R_far (p := ⟨gb624, 3, none⟩) (Kd.R_far (p := ⟨gb624, 2, none⟩) (Kd.R_far (p := ⟨gb624, 1, none⟩) (Kd.R_far (p := ⟨gb624, 0, none⟩) (Kd.R_types HO623.out BK624.out (by decide)) (fun _ hk => Imp.imp hk) (.int .i64 t615)) (fun _ hk => Imp.imp hk) (.int .i64 t616)) (fun _ hk => Imp.imp hk) (.int .i64 t617)) (fun _ hk => Imp.imp hk) (.int .i64 t618)) (fun _ hk => Imp.imp hk) (.string t619)) (fun _ hk => Imp.imp hk) (.int .i64 t620)) (fun _ hk => Imp.imp hk) (.slice Ao30 t621.length co30)) (fun _ h_ => h_.1)))); (case side2 => exact (Kd.R_reads' HO623.out).2.1); rintro e w31 ⟨v626, rfl, ho0, hb⟩; refine ⟨_, rfl, ?_⟩; have n0_ := Aside0.mk (Kd.R_below (by (with_reducible repeat (first | apply Kd.R_alloc | apply Kd.R_drewN | apply Kd.R_drew)); exact (Kd.R_mono (Kd.R_far (p := ⟨gb624, 6, none⟩) (Kd.R_far (p := ⟨gb624, 5, none⟩) (Kd.R_far (p := ⟨gb624, 4, none⟩) (Kd.R_far (p := ⟨gb624, 3, none⟩) (Kd.R_far (p := ⟨gb624, 2, none⟩) (Kd.R_far (p := ⟨gb624, 1, none⟩) (Kd.R_far (p := ⟨gb624, 0, none⟩) (Kd.R_types HO611.out BK624.out (by decide)) (fun _ hk => Imp.imp hk) (.int .i64 t615)) (fun _ hk => Imp.imp hk) (.int .i64 t616)) (fun _ hk => Imp.imp hk) (.int .i64 t617)) (fun _ hk => Imp.imp hk) (.int .i64 t618)) (fun _ hk => Imp.imp hk) (.string t619)) (fun _ hk => Imp.imp hk) (.int .i64 t620)) (fun _ hk => Imp.imp hk) (.slice Ao30 t621.length co30)) (fun _ h_ => h_.1))) hb); have n1_ := Aside0.mk (Kd.R_elder' (by (with_reducible repeat (first | apply Kd.R_alloc | apply Kd.R_drewN | apply Kd.R_drew)); exact (Kd.R_mono (Kd.R_far (p := ⟨gb624, 6, none⟩) (Kd.R_far (p := ⟨gb624, 5, none⟩) (Kd.R_far (p := ⟨gb624, 4, none⟩) (Kd.R_far (p := ⟨gb624, 3, none⟩) (Kd.R_far (p := ⟨gb624, 2, none⟩) (Kd.R_far (p := ⟨gb624, 1, none⟩) (Kd.R_far (p := ⟨gb624, 0, none⟩) (Kd.R_types HO614.out BK624.out (by decide)) (fun _ hk => Imp.imp hk) (.int .i64 t615)) (fun _ hk => Imp.imp hk) (.int .i64 t616)) (fun _ hk => Imp.imp hk) (.int .i64 t617)) (fun _ hk => Imp.imp hk) (.int .i64 t618)) (fun _ hk => Imp.imp hk) (.string t619)) (fun _ hk => Imp.imp hk) (.int .i64 t620)) (fun _ hk => Imp.imp hk) (.slice Ao30 t621.length co30)) (fun _ h_ => h_.1))) (Kd.R_base ho0) hb); have n2_ := Aside0.mk (Kd.R_below (by (with_reducible repeat (first | apply Kd.R_alloc | apply Kd.R_drewN | apply Kd.R_drew)); exact (Kd.R_mono (Kd.R_far (p := ⟨gb624, 6, none⟩) (Kd.R_far (p := ⟨gb624, 5, none⟩) (Kd.R_far (p := ⟨gb624, 4, none⟩) (Kd.R_far (p := ⟨gb624, 3, none⟩) (Kd.R_far (p := ⟨gb624, 2, none⟩) (Kd.R_far (p := ⟨gb624, 1, none⟩) (Kd.R_far (p := ⟨gb624, 0, none⟩) (Kd.R_types HO623.out BK624.out (by decide)) (fun _ hk => Imp.imp hk) (.int .i64 t615)) (fun _ hk => Imp.imp hk) (.int .i64 t616)) (fun _ hk => Imp.imp hk) (.int .i64 t617)) (fun _ hk => Imp.imp hk) (.int .i64 t618)) (fun _ hk => Imp.imp hk) (.string t619)) (fun _ hk => Imp.imp hk) (.int .i64 t620)) (fun _ hk => Imp.imp hk) (.slice Ao30 t621.length co30)) (fun _ h_ => h_.1))) hb); have n3_ := Aside0.mk (Kd.R_lower (Kd.R_new' ho0 (Kd.R_lt (by (with_reducible repeat (first | apply Kd.R_alloc | apply Kd.R_drewN | apply Kd.R_drew)); exact (Kd.R_mono (Kd.R_far (p := ⟨gb624, 6, none⟩) (Kd.R_far (p := ⟨gb624, 5, none⟩) (Kd.R_far (p := ⟨gb624, 4, none⟩) (Kd.R_far (p := ⟨gb624, 3, none⟩) (Kd.R_far (p := ⟨gb624, 2, none⟩) (Kd.R_far (p := ⟨gb624, 1, none⟩) (Kd.R_far (p := ⟨gb624, 0, none⟩) (Kd.R_types HO614.out BK624.out (by decide)) (fun _ hk => Imp.imp hk) (.int .i64 t615)) (fun _ hk => Imp.imp hk) (.int .i64 t616)) (fun _ hk => Imp.imp hk) (.int .i64 t617)) (fun _ hk => Imp.imp hk) (.int .i64 t618)) (fun _ hk => Imp.imp hk) (.string t619)) (fun _ hk => Imp.imp hk) (.int .i64 t620)) (fun _ hk => Imp.imp hk) (.slice Ao30 t621.length co30)) (fun _ h_ => h_.1))))) (below_size (by repeat (first | (with_reducible first | exact HB.out | apply below_alloc | apply pw_below_drewN | apply below_drew1 | refine below_set ?_ GE601.out | refine below_set ?_ GE624.out) | exact HB.out)))); have n4_ := Aside0.mk (blk_below (g := gb601) (o := .cells #[.int .i64 a0_0, .int .i64 a0_1, .int .i64 a0_2, .int .i64 a0_3, .string a0_4, .int .i64 a0_5, .slice A0_6 l0_6.length c0_6] 27 (0, 0)) (by (with_reducible repeat (first | refine blk_drewN ?_ _ | refine blk_drew ?_ | refine blk_alloc ?_ _)); refine blk_far ?_ NB601_624.out _; (with_reducible repeat (first | refine blk_drewN ?_ _ | refine blk_drew ?_ | refine blk_alloc ?_ _)); refine blk_far ?_ NB601_624.out _; (with_reducible repeat (first | refine blk_drewN ?_ _ | refine blk_drew ?_ | refine blk_alloc ?_ _)); refine blk_far ?_ NB601_624.out _; (with_reducible repeat (first | refine blk_drewN ?_ _ | refine blk_drew ?_ | refine blk_alloc ?_ _)); refine blk_far ?_ NB601_624.out _; (with_reducible repeat (first | refine blk_drewN ?_ _ | refine blk_drew ?_ | refine blk_alloc ?_ _)); refine blk_far ?_ NB601_624.out _; (with_reducible repeat (first | refine blk_drewN ?_ _ | refine blk_drew ?_ | refine blk_alloc ?_ _)); refine blk_far ?_ NB601_624.out _; (with_reducible repeat (first | refine blk_drewN ?_ _ | refine blk_drew ?_ | refine blk_alloc ?_ _)); refine blk_far ?_ NB601_624.out _; (with_reducible repeat (first | refine blk_drewN ?_ _ | refine blk_drew ?_ | refine blk_alloc ?_ _)); exact BK601.out) hb); have n5_ := Aside0.mk (blk_below (g := gb624) (o := .cells #[.int .i64 t615, .int .i64 t616, .int .i64 t617, .int .i64 t618, .string t619, .int .i64 t620, .slice Ao30 t621.length co30] 33 (0, 0)) (by (with_reducible repeat (first | refine blk_drewN ?_ _ | refine blk_drew ?_ | refine blk_alloc ?_ _)); refine blk_put (cs := #[.int .i64 t615, .int .i64 t616, .int .i64 t617, .int .i64 t618, .string t619, .int .i64 t620, .slice none 0 0]) ?_ 6 _ rfl; (with_reducible repeat (first | refine blk_drewN ?_ _ | refine blk_drew ?_ | refine blk_alloc ?_ _)); refine blk_put (cs := #[.int .i64 t615, .int .i64 t616, .int .i64 t617, .int .i64 t618, .string t619, .int .i64 0, .slice none 0 0]) ?_ 5 _ rfl; (with_reducible repeat (first | refine blk_drewN ?_ _ | refine blk_drew ?_ | refine blk_alloc ?_ _)); refine blk_put (cs := #[.int .i64 t615, .int .i64 t616, .int .i64 t617, .int .i64 t618, .string (⟨#[]⟩ : ByteArray), .int .i64 0, .slice none 0 0]) ?_ 4 _ rfl; (with_reducible repeat (first | refine blk_drewN ?_ _ | refine blk_drew ?_ | refine blk_alloc ?_ _)); refine blk_put (cs := #[.int .i64 t615, .int .i64 t616, .int .i64 t617, .int .i64 0, .string (⟨#[]⟩ : ByteArray), .int .i64 0, .slice none 0 0]) ?_ 3 _ rfl; (with_reducible repeat (first | refine blk_drewN ?_ _ | refine blk_drew ?_ | refine blk_alloc ?_ _)); refine blk_put (cs := #[.int .i64 t615, .int .i64 t616, .int .i64 0, .int .i64 0, .string (⟨#[]⟩ : ByteArray), .int .i64 0, .slice none 0 0]) ?_ 2 _ rfl; (with_reducible repeat (first | refine blk_drewN ?_ _ | refine blk_drew ?_ | refine blk_alloc ?_ _)); refine blk_put (cs := #[.int .i64 t615, .int .i64 0, .int .i64 0, .int .i64 0, .string (⟨#[]⟩ : ByteArray), .int .i64 0, .slice none 0 0]) ?_ 1 _ rfl; (with_reducible repeat (first | refine blk_drewN ?_ _ | refine blk_drew ?_ | refine blk_alloc ?_ _)); refine blk_put (cs := #[.int .i64 0, .int .i64 0, .int .i64 0, .int .i64 0, .string (⟨#[]⟩ : ByteArray), .int .i64 0, .slice none 0 0]) ?_ 0 _ rfl; (with_reducible repeat (first | refine blk_drewN ?_ _ | refine blk_drew ?_ | refine blk_alloc ?_ _)); exact BK624.out) hb); have n6_ := Aside0.mk (below_step (by repeat (first | (with_reducible first | exact HB.out | apply below_alloc | apply pw_below_drewN | apply below_drew1 | refine below_set ?_ GE601.out | refine below_set ?_ GE624.out) | exact HB.out)) hb); clear HO611; clear HO614; clear HO623; clear BK601; clear BK624; clear HB; have HO611 := n0_; have HO614 := n1_; have HO623 := n2_; have HO627 := n3_; have BK601 := n4_; have BK624 := n5_; have HB := n6_; clear n0_ n1_ n2_ n3_ n4_ n5_ n6_; (try clear hb); (try clear hb2); (try clear hk); (try clear hi); (try clear ho0); obtain ⟨Ao32, co32, eo32⟩ := Kd.R_slice HO627.out; subst eo32; obtain ⟨Ao33, co33, eo33⟩ := Kd.R_slice HO614.out; subst eo33) | ((with_reducible refine gate_callee (f := 21) rfl ?_); refine goesL_ (some 25) rfl rfl Try.func21 (by kernel_rfl) rfl #[.slice Ao32 t625.length co32, .slice Ao33 t612.length co33] rfl (by (try simp only [List.map_toArray, List.map_cons, List.map_nil]); first | done | rfl | (simp only [List.length_drop, List.length_take]; rfl)) ?_; (with_reducible refine (laws_eqByteS.calls k _ _ t625 _ _ t612 true _ ?side1 ?side2 ?side3 ?side4 A11.out).mono ?_); (case side1 => repeat (first | exact (Kd.R_reads' HO627.out).2.2 | (with_reducible refine Kd.C_alloc ?_ _) | (with_reducible refine Kd.C_drewN ?_ _) | (with_reducible refine Kd.C_drew ?_))); (case side2 => exact (Kd.R_reads' HO627.out).2.1); (case side3 => repeat (first | exact (Kd.R_reads' HO614.out).2.2 | (with_reducible refine Kd.C_alloc ?_ _) | (with_reducible refine Kd.C_drewN ?_ _) | (with_reducible refine Kd.C_drew ?_))); (case side4 => exact (Kd.R_reads' HO614.out).2.1); rintro e w' ⟨rfl, ⟨nd, rfl⟩⟩; refine ⟨_, rfl, ?_⟩))
    (try (rw [drewN_self w31]; generalize hq_ : World.drewN w31 _ = w31; have n0_ : Aside0 (Kd.R Kd.string 9 w31 w.heap.size (fun k_ => some k_ ≠ (.slice Ao30 t621.length co30 : Value).ownBlock) (.slice Ao23 t609.length co23) t609) := ⟨by rw [← hq_]; exact (by (with_reducible repeat (first | apply Kd.R_alloc | apply Kd.R_drewN | apply Kd.R_drew)); exact Kd.R_mono HO611.out (fun _ hk => Imp.imp hk))⟩; have n1_ : Aside0 (Kd.R (Kd.int .u8) 5 w31 w.heap.size (fun k_ => some k_ ≠ (.slice Ao32 t625.length co32 : Value).ownBlock) (.slice Ao33 t612.length co33) t612) := ⟨by rw [← hq_]; exact (by (with_reducible repeat (first | apply Kd.R_alloc | apply Kd.R_drewN | apply Kd.R_drew)); exact Kd.R_mono HO614.out (fun _ hk => Imp.imp hk))⟩; have n2_ : Aside0 (Kd.R Kd.string 9 w31 w.heap.size (fun k_ => some k_ ≠ (.slice Ao23 t609.length co23 : Value).ownBlock) (.slice Ao30 t621.length co30) t621) := ⟨by rw [← hq_]; exact (by (with_reducible repeat (first | apply Kd.R_alloc | apply Kd.R_drewN | apply Kd.R_drew)); exact Kd.R_mono HO623.out (fun _ hk => Imp.imp hk))⟩; have n3_ : Aside0 (Kd.R (Kd.int .u8) 5 w31 w.heap.size (fun k_ => some k_ ≠ (.slice Ao33 t612.length co33 : Value).ownBlock) (.slice Ao32 t625.length co32) t625) := ⟨by rw [← hq_]; exact (by (with_reducible repeat (first | apply Kd.R_alloc | apply Kd.R_drewN | apply Kd.R_drew)); exact Kd.R_mono HO627.out (fun _ hk => Imp.imp hk))⟩; have n4_ : Aside0 (w31.heap[gb601]? = some (.cells #[.int .i64 a0_0, .int .i64 a0_1, .int .i64 a0_2, .int .i64 a0_3, .string a0_4, .int .i64 a0_5, .slice A0_6 l0_6.length c0_6] 27 (0, 0))) := ⟨by rw [← hq_]; exact (by (with_reducible repeat (first | refine blk_drewN ?_ _ | refine blk_drew ?_ | refine blk_alloc ?_ _)); exact BK601.out)⟩; have n5_ : Aside0 (w31.heap[gb624]? = some (.cells #[.int .i64 t615, .int .i64 t616, .int .i64 t617, .int .i64 t618, .string t619, .int .i64 t620, .slice Ao30 t621.length co30] 33 (0, 0))) := ⟨by rw [← hq_]; exact (by (with_reducible repeat (first | refine blk_drewN ?_ _ | refine blk_drew ?_ | refine blk_alloc ?_ _)); exact BK624.out)⟩; have n6_ : Aside0 (Below w.heap.size w w31) := ⟨by rw [← hq_]; exact (by repeat (first | (with_reducible first | exact HB.out | apply below_alloc | apply pw_below_drewN | apply below_drew1 | refine below_set ?_ GE601.out | refine below_set ?_ GE624.out) | exact HB.out))⟩; clear HO611 HO614 HO623 HO627 BK601 BK624 HB hq_; have HO611 := n0_; have HO614 := n1_; have HO623 := n2_; have HO627 := n3_; have BK601 := n4_; have BK624 := n5_; have HB := n6_; clear n0_ n1_ n2_ n3_ n4_ n5_ n6_))
    have n0_ := Aside0.mk (Kd.R_drew HO611.out)
    have n1_ := Aside0.mk (Kd.R_drew HO614.out)
    have n2_ := Aside0.mk (Kd.R_drew HO623.out)
    have n3_ := Aside0.mk (Kd.R_drew HO627.out)
    have n4_ := Aside0.mk (blk_drew BK601.out)
    have n5_ := Aside0.mk (blk_drew BK624.out)
    have n6_ := Aside0.mk (below_drew1 HB.out)
    clear HO611
    clear HO614
    clear HO623
    clear HO627
    clear BK601
    clear BK624
    clear HB
    have HO611 := n0_
    have HO614 := n1_
    have HO623 := n2_
    have HO627 := n3_
    have BK601 := n4_
    have BK624 := n5_
    have HB := n6_
    clear n0_ n1_ n2_ n3_ n4_ n5_ n6_
    refine start_ (n := 5) (S := fun w' => w'.cell? ⟨gb624, 0, none⟩ = some (.int .i64 t615) ∧ w'.cell? ⟨gb624, 1, none⟩ = some (.int .i64 t616) ∧ w'.cell? ⟨gb624, 2, none⟩ = some (.int .i64 t617) ∧ w'.cell? ⟨gb624, 3, none⟩ = some (.int .i64 t618) ∧ w'.cell? ⟨gb624, 4, none⟩ = some (.string t619) ∧ w'.cell? ⟨gb624, 5, none⟩ = some (.int .i64 t620) ∧ w'.cell? ⟨gb624, 6, none⟩ = some (.slice Ao30 t621.length co30) ∧ w'.cell? ⟨gb601, 0, none⟩ = some (.int .i64 a0_0) ∧ w'.cell? ⟨gb601, 1, none⟩ = some (.int .i64 a0_1) ∧ w'.cell? ⟨gb601, 2, none⟩ = some (.int .i64 a0_2) ∧ w'.cell? ⟨gb601, 3, none⟩ = some (.int .i64 a0_3) ∧ w'.cell? ⟨gb601, 4, none⟩ = some (.string a0_4) ∧ w'.cell? ⟨gb601, 5, none⟩ = some (.int .i64 a0_5) ∧ w'.cell? ⟨gb601, 6, none⟩ = some (.slice A0_6 l0_6.length c0_6)) (ds := []) #[false, false, false, false, false] (by kernel_rfl) rfl rfl ⟨(blk_cell BK624.out 0).trans rfl, (blk_cell BK624.out 1).trans rfl, (blk_cell BK624.out 2).trans rfl, (blk_cell BK624.out 3).trans rfl, (blk_cell BK624.out 4).trans rfl, (blk_cell BK624.out 5).trans rfl, (blk_cell BK624.out 6).trans rfl, (blk_cell BK601.out 0).trans rfl, (blk_cell BK601.out 1).trans rfl, (blk_cell BK601.out 2).trans rfl, (blk_cell BK601.out 3).trans rfl, (blk_cell BK601.out 4).trans rfl, (blk_cell BK601.out 5).trans rfl, (blk_cell BK601.out 6).trans rfl⟩ (fun hHeld => ?_)
    generalize w31.drew = w34 at HO611 HO614 HO623 HO627 BK601 BK624 HB hHeld ⊢
    refine take_ (i := 0) (N := some 27) (v := ?_) (a' := ?_) #[true, false, false, false, false] rfl rfl (by kernel_rfl) (fun _ _ _ h => h) (Or.inl ⟨by rfl, ?_⟩) hHeld ?_ ?_
    rotate_left
    ·rintro w' ⟨s0, s1, s2, s3, s4, s5, s6, s7, s8, s9, s10, s11, s12, s13⟩
     go_simp
     with_reducible rfl
    rotate_left
    ·simp only [Act.put, List.setIfInBounds_toArray, List.set_cons_zero, List.set_cons_succ, i64_w, i32_w]
     rfl
    refine take_ (i := 1) (N := some 28) (v := ?_) (a' := ?_) #[true, true, false, false, false] rfl rfl (by kernel_rfl) (fun _ _ _ h => h) (Or.inl ⟨by rfl, ?_⟩) hHeld ?_ ?_
    rotate_left
    ·rintro w' ⟨s0, s1, s2, s3, s4, s5, s6, s7, s8, s9, s10, s11, s12, s13⟩
     go_simp
     with_reducible rfl
    rotate_left
    ·simp only [Act.put, List.setIfInBounds_toArray, List.set_cons_zero, List.set_cons_succ, i64_w, i32_w]
     rfl
    refine one_ (i := 2) (N := some 29) #[true, true, true, false, false] rfl rfl (by kernel_rfl) (by decide) (fun K hK => ?_)
    refine goes_ Try.func19 (by kernel_rfl) rfl #[.agg #[.int .i64 a0_0, .int .i64 a0_1, .int .i64 a0_2, .int .i64 a0_3, .string a0_4, .int .i64 a0_5, .slice A0_6 l0_6.length c0_6]] (by rfl) rfl rfl (by (try simp only [List.map_toArray, List.map_cons, List.map_nil]); first | done | rfl | (simp only [List.length_drop, List.length_take]; rfl)) ?_
    with_reducible refine (laws_toMsg.calls k a0_0 a0_1 a0_2 a0_3 a0_4 a0_5 _ _ l0_6 t629 t630 t631 t632 t633 t634 t635 _ ?side1 ?side2 A13.out).mono ?_
    (case side1 => repeat (first | exact (Kd.C_below HR0_6.out HB.out) | (with_reducible refine Kd.C_alloc ?_ _) | (with_reducible refine Kd.C_drewN ?_ _) | (with_reducible refine Kd.C_drew ?_)))
    (case side2 => exact HC0_6.out)
    rintro e w35 ⟨v636, rfl, ho0, hb⟩
    refine ⟨_, rfl, ?_⟩
    have n0_ := Aside0.mk (Kd.R_elder' (by (with_reducible repeat (first | apply Kd.R_alloc | apply Kd.R_drewN | apply Kd.R_drew)); exact HO611.out) (Kd.R_base ho0) hb)
    have n1_ := Aside0.mk (Kd.R_below (by (with_reducible repeat (first | apply Kd.R_alloc | apply Kd.R_drewN | apply Kd.R_drew)); exact HO614.out) hb)
    have n2_ := Aside0.mk (Kd.R_elder' (by (with_reducible repeat (first | apply Kd.R_alloc | apply Kd.R_drewN | apply Kd.R_drew)); exact HO623.out) (Kd.R_base ho0) hb)
    have n3_ := Aside0.mk (Kd.R_below (by (with_reducible repeat (first | apply Kd.R_alloc | apply Kd.R_drewN | apply Kd.R_drew)); exact HO627.out) hb)
    have n4_ := Aside0.mk (Kd.R_lower (Kd.R_new' (Kd.R_new' ho0 (Kd.R_lt (by (with_reducible repeat (first | apply Kd.R_alloc | apply Kd.R_drewN | apply Kd.R_drew)); exact HO611.out))) (Kd.R_lt (by (with_reducible repeat (first | apply Kd.R_alloc | apply Kd.R_drewN | apply Kd.R_drew)); exact HO623.out))) (below_size (by repeat (first | (with_reducible first | exact HB.out | apply below_alloc | apply pw_below_drewN | apply below_drew1 | refine below_set ?_ GE601.out | refine below_set ?_ GE624.out) | exact HB.out))))
    have n5_ := Aside0.mk (blk_below (g := gb601) (o := .cells #[.int .i64 a0_0, .int .i64 a0_1, .int .i64 a0_2, .int .i64 a0_3, .string a0_4, .int .i64 a0_5, .slice A0_6 l0_6.length c0_6] 27 (0, 0)) (by (with_reducible repeat (first | refine blk_drewN ?_ _ | refine blk_drew ?_ | refine blk_alloc ?_ _)); exact BK601.out) hb)
    have n6_ := Aside0.mk (blk_below (g := gb624) (o := .cells #[.int .i64 t615, .int .i64 t616, .int .i64 t617, .int .i64 t618, .string t619, .int .i64 t620, .slice Ao30 t621.length co30] 33 (0, 0)) (by (with_reducible repeat (first | refine blk_drewN ?_ _ | refine blk_drew ?_ | refine blk_alloc ?_ _)); exact BK624.out) hb)
    have n7_ := Aside0.mk (below_step (by repeat (first | (with_reducible first | exact HB.out | apply below_alloc | apply pw_below_drewN | apply below_drew1 | refine below_set ?_ GE601.out | refine below_set ?_ GE624.out) | exact HB.out)) hb)
    clear HO611
    clear HO614
    clear HO623
    clear HO627
    clear BK601
    clear BK624
    clear HB
    have HO611 := n0_
    have HO614 := n1_
    have HO623 := n2_
    have HO627 := n3_
    have HO637 := n4_
    have BK601 := n5_
    have BK624 := n6_
    have HB := n7_
    clear n0_ n1_ n2_ n3_ n4_ n5_ n6_ n7_
    (try clear hb)
    (try clear hb2)
    (try clear hk)
    (try clear hi)
    (try clear ho0)
    obtain ⟨Ao36, co36, eo36⟩ := Kd.R_slice HO637.out
    (first | subst eo36 | (injection eo36 with f1_ f2_ f3_; have f4_ := f1_.symm; have f5_ := f3_.symm; clear f1_ f2_ f3_; subst f4_; subst f5_))
    refine hK.out _ _ ⟨(blk_cell BK624.out 0).trans rfl, (blk_cell BK624.out 1).trans rfl, (blk_cell BK624.out 2).trans rfl, (blk_cell BK624.out 3).trans rfl, (blk_cell BK624.out 4).trans rfl, (blk_cell BK624.out 5).trans rfl, (blk_cell BK624.out 6).trans rfl, (blk_cell BK601.out 0).trans rfl, (blk_cell BK601.out 1).trans rfl, (blk_cell BK601.out 2).trans rfl, (blk_cell BK601.out 3).trans rfl, (blk_cell BK601.out 4).trans rfl, (blk_cell BK601.out 5).trans rfl, (blk_cell BK601.out 6).trans rfl⟩ (fun hHeld => ?_)
    clear hK K
    refine norm_ (a' := ?_) ?_ ?_
    rotate_left
    ·show Act.put _ (some 29) _ = _
     simp only [Act.put, List.setIfInBounds_toArray, List.set_cons_zero, List.set_cons_succ, i64_w, i32_w]
     rfl
    refine one_ (i := 3) (N := some 30) #[true, true, true, true, false] rfl rfl (by kernel_rfl) (by decide) (fun K hK => ?_)
    refine goes_ Try.func22 (by kernel_rfl) rfl #[.agg #[.int .i64 t615, .int .i64 t616, .int .i64 t617, .int .i64 t618, .string t619, .int .i64 t620, .slice Ao30 t621.length co30], .agg #[.int .i64 t629, .int .i64 t630, .int .i64 t631, .int .i64 t632, .string t633, .int .i64 t634, .slice Ao36 t635.length co36]] (by rfl) rfl rfl (by (try simp only [List.map_toArray, List.map_cons, List.map_nil]); first | done | rfl | (simp only [List.length_drop, List.length_take]; rfl)) ?_
    with_reducible refine (laws_eqMsg.calls k t615 t616 t617 t618 t619 t620 _ _ t621 t629 t630 t631 t632 t633 t634 _ _ t635 true _ ?side1 ?side2 ?side3 ?side4 A14.out).mono ?_
    (case side1 => repeat (first | exact (Kd.R_reads' HO623.out).2.2 | (with_reducible refine Kd.C_alloc ?_ _) | (with_reducible refine Kd.C_drewN ?_ _) | (with_reducible refine Kd.C_drew ?_)))
    (case side2 => exact (Kd.R_reads' HO623.out).2.1)
    (case side3 => repeat (first | exact (Kd.R_reads' HO637.out).2.2 | (with_reducible refine Kd.C_alloc ?_ _) | (with_reducible refine Kd.C_drewN ?_ _) | (with_reducible refine Kd.C_drew ?_)))
    (case side4 => exact (Kd.R_reads' HO637.out).2.1)
    rintro e w37 ⟨rfl, hb⟩
    refine ⟨_, rfl, ?_⟩
    have n0_ := Aside0.mk (Kd.R_below (by (with_reducible repeat (first | apply Kd.R_alloc | apply Kd.R_drewN | apply Kd.R_drew)); exact HO611.out) hb)
    have n1_ := Aside0.mk (Kd.R_below (by (with_reducible repeat (first | apply Kd.R_alloc | apply Kd.R_drewN | apply Kd.R_drew)); exact HO614.out) hb)
    have n2_ := Aside0.mk (Kd.R_below (by (with_reducible repeat (first | apply Kd.R_alloc | apply Kd.R_drewN | apply Kd.R_drew)); exact HO623.out) hb)
    have n3_ := Aside0.mk (Kd.R_below (by (with_reducible repeat (first | apply Kd.R_alloc | apply Kd.R_drewN | apply Kd.R_drew)); exact HO627.out) hb)
    have n4_ := Aside0.mk (Kd.R_below (by (with_reducible repeat (first | apply Kd.R_alloc | apply Kd.R_drewN | apply Kd.R_drew)); exact HO637.out) hb)
    have n5_ := Aside0.mk (blk_below (g := gb601) (o := .cells #[.int .i64 a0_0, .int .i64 a0_1, .int .i64 a0_2, .int .i64 a0_3, .string a0_4, .int .i64 a0_5, .slice A0_6 l0_6.length c0_6] 27 (0, 0)) (by (with_reducible repeat (first | refine blk_drewN ?_ _ | refine blk_drew ?_ | refine blk_alloc ?_ _)); exact BK601.out) hb)
    have n6_ := Aside0.mk (blk_below (g := gb624) (o := .cells #[.int .i64 t615, .int .i64 t616, .int .i64 t617, .int .i64 t618, .string t619, .int .i64 t620, .slice Ao30 t621.length co30] 33 (0, 0)) (by (with_reducible repeat (first | refine blk_drewN ?_ _ | refine blk_drew ?_ | refine blk_alloc ?_ _)); exact BK624.out) hb)
    have n7_ := Aside0.mk (below_step (by repeat (first | (with_reducible first | exact HB.out | apply below_alloc | apply pw_below_drewN | apply below_drew1 | refine below_set ?_ GE601.out | refine below_set ?_ GE624.out) | exact HB.out)) hb)
    clear HO611
    clear HO614
    clear HO623
    clear HO627
    clear HO637
    clear BK601
    clear BK624
    clear HB
    have HO611 := n0_
    have HO614 := n1_
    have HO623 := n2_
    have HO627 := n3_
    have HO637 := n4_
    have BK601 := n5_
    have BK624 := n6_
    have HB := n7_
    clear n0_ n1_ n2_ n3_ n4_ n5_ n6_ n7_
    (try clear hb)
    (try clear hb2)
    (try clear hk)
    (try clear hi)
    refine hK.out _ _ ⟨(blk_cell BK624.out 0).trans rfl, (blk_cell BK624.out 1).trans rfl, (blk_cell BK624.out 2).trans rfl, (blk_cell BK624.out 3).trans rfl, (blk_cell BK624.out 4).trans rfl, (blk_cell BK624.out 5).trans rfl, (blk_cell BK624.out 6).trans rfl, (blk_cell BK601.out 0).trans rfl, (blk_cell BK601.out 1).trans rfl, (blk_cell BK601.out 2).trans rfl, (blk_cell BK601.out 3).trans rfl, (blk_cell BK601.out 4).trans rfl, (blk_cell BK601.out 5).trans rfl, (blk_cell BK601.out 6).trans rfl⟩ (fun hHeld => ?_)
    clear hK K
    refine norm_ (a' := ?_) ?_ ?_
    rotate_left
    ·show Act.put _ (some 30) _ = _
     simp only [Act.put, List.setIfInBounds_toArray, List.set_cons_zero, List.set_cons_succ, i64_w, i32_w]
     rfl
    refine pure_ (i := 4) (N := some 31) (v := ?_) (a' := ?_) #[true, true, true, true, true] rfl rfl (by kernel_rfl) (fun _ _ _ h => h) (Or.inl ⟨by rfl, ?_⟩) ?_ ?_
    rotate_left
    ·intro w'
     go_simp
     with_reducible rfl
    rotate_left
    ·simp only [Act.put, List.setIfInBounds_toArray, List.set_cons_zero, List.set_cons_succ, i64_w, i32_w]
     rfl
    refine done_ (by kernel_rfl) ?_
    have hcz38_0 : w37.cell? ⟨gb624, 0, none⟩ = some (.int .i64 t615) := (blk_cell BK624.out 0).trans rfl
    have hcz38_1 : w37.cell? ⟨gb624, 1, none⟩ = some (.int .i64 t616) := (blk_cell BK624.out 1).trans rfl
    have hcz38_2 : w37.cell? ⟨gb624, 2, none⟩ = some (.int .i64 t617) := (blk_cell BK624.out 2).trans rfl
    have hcz38_3 : w37.cell? ⟨gb624, 3, none⟩ = some (.int .i64 t618) := (blk_cell BK624.out 3).trans rfl
    have hcz38_4 : w37.cell? ⟨gb624, 4, none⟩ = some (.string t619) := (blk_cell BK624.out 4).trans rfl
    have hcz38_5 : w37.cell? ⟨gb624, 5, none⟩ = some (.int .i64 t620) := (blk_cell BK624.out 5).trans rfl
    have hcz38_6 : w37.cell? ⟨gb624, 6, none⟩ = some (.slice Ao30 t621.length co30) := (blk_cell BK624.out 6).trans rfl
    have hfz38_0 := blk_frozen BK624.out 0
    have hfz38_1 := blk_frozen BK624.out 1
    have hfz38_2 := blk_frozen BK624.out 2
    have hfz38_3 := blk_frozen BK624.out 3
    have hfz38_4 := blk_frozen BK624.out 4
    have hfz38_5 := blk_frozen BK624.out 5
    have hfz38_6 := blk_frozen BK624.out 6
    go_upto_region 14 with (first | ((with_reducible refine gate_callee (f := 23) rfl ?_); refine goesL_ (some 34) rfl rfl Try.func23 (by kernel_rfl) rfl #[.agg #[.int .i64 t615, .int .i64 t616, .int .i64 t617, .int .i64 t618, .string t619, .int .i64 t620, .slice Ao30 t621.length co30], .int .i64 1] rfl (by (try simp only [List.map_toArray, List.map_cons, List.map_nil]); first | done | rfl | (simp only [List.length_drop, List.length_take]; rfl)) ?_; (with_reducible refine (laws_markMsg.calls k t615 t616 t617 t618 t619 t620 (fun k_ => some k_ = (.slice Ao30 t621.length co30 : Value).ownBlock) (.slice Ao30 t621.length co30) t621 1 t639 t640 w _ ?side1 ?side2 A16.out).mono ?_); (case side1 => repeat (first | (with_reducible first | exact HB.out | apply below_alloc | apply pw_below_drewN | apply below_drew1 | refine below_set ?_ GE601.out | refine below_set ?_ GE624.out) | exact HB.out)); (case side2 => exact Kd.R_tight rfl HO623.out); rintro e w39 ⟨rfl, hy0, hb, hkp⟩; refine ⟨_, rfl, ?_⟩; have n0_ := Aside0.mk (blk_kept (by (with_reducible repeat (first | refine blk_drewN ?_ _ | refine blk_drew ?_ | refine blk_alloc ?_ _)); exact BK601.out) hkp (fun hs_ => (fun e_ => (Kd.R_ne HO623.out BK601.out (by decide)) e_) hs_)); have n1_ := Aside0.mk (Kd.R_mono (ok' := fun k_ => some k_ ≠ (.slice Ao30 t621.length co30 : Value).ownBlock ∧ some k_ ≠ (.slice Ao36 t635.length co36 : Value).ownBlock) (Kd.R_keptB (HO611.out) hkp (fun k_ hk_ hs_ => absurd hs_ (Imp.imp hk_))) (fun k_ hk_ => Imp.imp hk_)); have n2_ := Aside0.mk (Kd.R_mono (ok' := fun k_ => some k_ ≠ (.slice Ao32 t625.length co32 : Value).ownBlock) (Kd.R_keptB ((Kd.R_apart' HO614.out (Kd.R_typed HO623.out) (by decide))) hkp (fun k_ hk_ hs_ => absurd hs_ (Imp.imp hk_))) (fun k_ hk_ => Imp.imp hk_)); have n3_ := Aside0.mk (Kd.R_reok rfl hy0 (fun k_ e_ => HO623.out.1 k_ e_)); have n4_ := Aside0.mk (blk_kept (by (with_reducible repeat (first | refine blk_drewN ?_ _ | refine blk_drew ?_ | refine blk_alloc ?_ _)); exact BK624.out) hkp (fun hs_ => (fun e_ => (Kd.R_ne HO623.out BK624.out (by decide)) e_) hs_)); have n5_ := Aside0.mk (Kd.R_mono (ok' := fun k_ => some k_ ≠ (.slice Ao33 t612.length co33 : Value).ownBlock) (Kd.R_keptB ((Kd.R_apart' HO627.out (Kd.R_typed HO623.out) (by decide))) hkp (fun k_ hk_ hs_ => absurd hs_ (Imp.imp hk_))) (fun k_ hk_ => Imp.imp hk_)); have n6_ := Aside0.mk (Kd.R_mono (ok' := fun k_ => some k_ ≠ (.slice Ao23 t609.length co23 : Value).ownBlock ∧ some k_ ≠ (.slice Ao30 t621.length co30 : Value).ownBlock) (Kd.R_keptB (HO637.out) hkp (fun k_ hk_ hs_ => absurd hs_ (Imp.imp hk_))) (fun k_ hk_ => Imp.imp hk_)); have n7_ := Aside0.mk (hb); clear BK601; clear HO611; clear HO614; clear HO623; clear BK624; clear HO627; clear HO637; clear HB; have BK601 := n0_; have HO611 := n1_; have HO614 := n2_; have HO623 := n3_; have BK624 := n4_; have HO627 := n5_; have HO637 := n6_; have HB := n7_; clear n0_ n1_ n2_ n3_ n4_ n5_ n6_ n7_; (try clear hb); (try clear hkp); (try clear hy0)))
    (try simp only [Act.put, List.setIfInBounds_toArray, List.set_cons_zero, List.set_cons_succ])
    go_cut [42] (fun v42 wc => ∃ (kq : Nat) (x42_16 : Bool), v42 = .bool x42_16 ∧ Aside0 (laws_FnExactPutMsg.j0 kq t612 t625 x42_16 a0_0 a0_1 a0_2 a0_3 a0_4 a0_5 l0_6 = some r) ∧ Aside0 (kq ≤ k) ∧ Aside0 (Kd.R (Kd.int .u8) 5 wc w.heap.size (fun k_ => some k_ ≠ ((.slice Ao32 t625.length co32) : Value).ownBlock) (.slice Ao33 t612.length co33) t612) ∧ Aside0 (Kd.R (Kd.int .u8) 5 wc w.heap.size (fun k_ => some k_ ≠ ((.slice Ao33 t612.length co33) : Value).ownBlock) (.slice Ao32 t625.length co32) t625) ∧ Aside0 (Kd.R Kd.string 9 wc w.heap.size (fun _ => True) (.slice Ao30 t621.length co30) t640) ∧ Aside0 (wc.heap[gb601]? = some (.cells #[.int .i64 a0_0, .int .i64 a0_1, .int .i64 a0_2, .int .i64 a0_3, .string a0_4, .int .i64 a0_5, (.slice A0_6 l0_6.length c0_6)] 27 (0, 0))) ∧ Aside0 (wc.heap[gb624]? = some (.cells #[.int .i64 t615, .int .i64 t616, .int .i64 t617, .int .i64 t618, .string t619, .int .i64 t620, (.slice Ao30 t621.length co30)] 33 (0, 0))) ∧ Aside0 (Below w.heap.size w wc))
    case first =>
     have H := HC17.out
     clear HC17
     by_cases c40 : t639 < 0
     ·rw [if_pos c40] at H
      have c40b0 : decide (t639 < 0) = true := decide_eq_true c40
      clear c40
      (first | rw [c40b0] | (simp only [i64_w, i32_w]; rw [c40b0]) | skip)
      have H' := Aside0.mk H
      clear H
      go_wp2
      go_meet
      case rel => exact ⟨_, (true), (by first | rfl | (simp; done) | (simp [*]; done)), H', ⟨by first | omega | exact Nat.le_refl _⟩, ⟨by (with_reducible repeat (first | apply Kd.R_alloc | apply Kd.R_drewN | apply Kd.R_drew)); exact HO614.out⟩, ⟨by (with_reducible repeat (first | apply Kd.R_alloc | apply Kd.R_drewN | apply Kd.R_drew)); exact HO627.out⟩, ⟨by (with_reducible repeat (first | apply Kd.R_alloc | apply Kd.R_drewN | apply Kd.R_drew)); exact Kd.R_mono HO623.out (fun _ hk => trivial)⟩, ⟨by (with_reducible repeat (first | refine blk_drewN ?_ _ | refine blk_drew ?_ | refine blk_alloc ?_ _)); exact BK601.out⟩, ⟨by (with_reducible repeat (first | refine blk_drewN ?_ _ | refine blk_drew ?_ | refine blk_alloc ?_ _)); exact BK624.out⟩, ⟨by repeat (first | (with_reducible first | exact HB.out | apply below_alloc | apply pw_below_drewN | apply below_drew1 | refine below_set ?_ GE601.out | refine below_set ?_ GE624.out) | exact HB.out)⟩⟩
     ·rw [if_neg c40] at H
      have c40b0 : decide (t639 < 0) = false := decide_eq_false c40
      clear c40
      (first | rw [c40b0] | (simp only [i64_w, i32_w]; rw [c40b0]) | skip)
      replace H := Option.bind_eq_some_iff.mp H
      obtain ⟨t641, A410, H⟩ := H
      replace H : (laws_FnExactPutMsg.j0 k t612 t625 (!t641) a0_0 a0_1 a0_2 a0_3 a0_4 a0_5 l0_6) = some r := H
      have A41 := Aside0.mk A410
      clear A410
      have H' := Aside0.mk H
      clear H
      go_wp2_with (first | (go_at_call 21; (with_reducible refine (laws_eqByteS.calls k _ _ t625 _ _ t612 t641 _ ?side1 ?side2 ?side3 ?side4 A41.out).mono ?_); (case side1 => repeat (first | exact (Kd.R_reads' HO627.out).2.2 | (with_reducible refine Kd.C_alloc ?_ _) | (with_reducible refine Kd.C_drewN ?_ _) | (with_reducible refine Kd.C_drew ?_))); (case side2 => exact (Kd.R_reads' HO627.out).2.1); (case side3 => repeat (first | exact (Kd.R_reads' HO614.out).2.2 | (with_reducible refine Kd.C_alloc ?_ _) | (with_reducible refine Kd.C_drewN ?_ _) | (with_reducible refine Kd.C_drew ?_))); (case side4 => exact (Kd.R_reads' HO614.out).2.1); rintro e w' ⟨rfl, ⟨nd, rfl⟩⟩))
      go_meet
      case rel => exact ⟨_, (!t641), (by first | rfl | (simp; done) | (simp [*]; done)), H', ⟨by first | omega | exact Nat.le_refl _⟩, ⟨by (with_reducible repeat (first | apply Kd.R_alloc | apply Kd.R_drewN | apply Kd.R_drew)); exact HO614.out⟩, ⟨by (with_reducible repeat (first | apply Kd.R_alloc | apply Kd.R_drewN | apply Kd.R_drew)); exact HO627.out⟩, ⟨by (with_reducible repeat (first | apply Kd.R_alloc | apply Kd.R_drewN | apply Kd.R_drew)); exact Kd.R_mono HO623.out (fun _ hk => trivial)⟩, ⟨by (with_reducible repeat (first | refine blk_drewN ?_ _ | refine blk_drew ?_ | refine blk_alloc ?_ _)); exact BK601.out⟩, ⟨by (with_reducible repeat (first | refine blk_drewN ?_ _ | refine blk_drew ?_ | refine blk_alloc ?_ _)); exact BK624.out⟩, ⟨by repeat (first | (with_reducible first | exact HB.out | apply below_alloc | apply pw_below_drewN | apply below_drew1 | refine below_set ?_ GE601.out | refine below_set ?_ GE624.out) | exact HB.out)⟩⟩
    case rest =>
     clear HC17
     try clear c1
     try clear c2
     try clear p2
     try clear c3
     try clear c3b0
     try clear c4
     try clear c12
     try clear c15
     try clear c17
     try clear c18
     try clear c19
     try clear c20
     try clear c21
     try clear c22
     try clear c23
     try clear c28
     try clear c40
     try clear c40b0
     try clear hcz19_0
     try clear hcz19_1
     try clear hcz19_2
     try clear hcz19_3
     try clear hcz19_4
     try clear hcz19_5
     try clear hcz19_6
     try clear hcz21_0
     try clear hcz21_1
     try clear hcz21_2
     try clear hcz21_3
     try clear hcz21_4
     try clear hcz21_5
     try clear hcz21_6
     try clear hcz25_0
     try clear hcz25_1
     try clear hcz25_2
     try clear hcz25_3
     try clear hcz25_4
     try clear hcz25_5
     try clear hcz25_6
     try clear hcz29_0
     try clear hcz29_1
     try clear hcz29_2
     try clear hcz29_3
     try clear hcz29_4
     try clear hcz29_5
     try clear hcz29_6
     try clear hcz38_0
     try clear hcz38_1
     try clear hcz38_2
     try clear hcz38_3
     try clear hcz38_4
     try clear hcz38_5
     try clear hcz38_6
     try clear hcz5_0
     try clear hcz5_1
     try clear hcz5_2
     try clear hcz5_3
     try clear hcz5_4
     try clear hcz5_5
     try clear hcz5_6
     try clear hfz19_0
     try clear hfz19_1
     try clear hfz19_2
     try clear hfz19_3
     try clear hfz19_4
     try clear hfz19_5
     try clear hfz19_6
     try clear hfz21_0
     try clear hfz21_1
     try clear hfz21_2
     try clear hfz21_3
     try clear hfz21_4
     try clear hfz21_5
     try clear hfz21_6
     try clear hfz25_0
     try clear hfz25_1
     try clear hfz25_2
     try clear hfz25_3
     try clear hfz25_4
     try clear hfz25_5
     try clear hfz25_6
     try clear hfz29_0
     try clear hfz29_1
     try clear hfz29_2
     try clear hfz29_3
     try clear hfz29_4
     try clear hfz29_5
     try clear hfz29_6
     try clear hfz38_0
     try clear hfz38_1
     try clear hfz38_2
     try clear hfz38_3
     try clear hfz38_4
     try clear hfz38_5
     try clear hfz38_6
     try clear hfz5_0
     try clear hfz5_1
     try clear hfz5_2
     try clear hfz5_3
     try clear hfz5_4
     try clear hfz5_5
     try clear hfz5_6
     obtain ⟨kq, x42_16, rfl, HA, HJ16, HO_4, HO_6, HO_625006, BK601, BK624, HB⟩ := hcut
     have hl625006_16 := (Kd.R_reads' HO_625006.out).1
     rw [hl625006_16] at HO_625006
     (try simp only [hl625006_16])
     (try simp only [hl625006_16] at BK601)
     (try simp only [hl625006_16] at BK624)
     (try simp only [hl625006_16] at HO_4)
     (try simp only [hl625006_16] at HO_6)
     cases kq with
     | zero => exact absurd HA.out (by simp [laws_FnExactPutMsg.j0])
     | succ kj16 =>
      have H := HA.out
      clear HA
      simp only [laws_FnExactPutMsg.j0] at H
      by_cases c42 : x42_16 = true
      ·subst c42
       have H1 : (none) = some r := by rw [if_pos rfl] at H; exact H
       clear H
       have H := H1
       clear H1
       exact absurd H (by simp)
      ·replace c42 := Bool.eq_false_iff.mpr c42
       subst c42
       have H1 : ((laws_markByteS.f kj16 t625 1).bind fun bt642 => ((laws_heldByteS.f kj16 bt642.2 1).bind fun t644 => (if t644 < 0 then (none) else (if t644 = bt642.1 then ((laws_toMsg.f kj16 a0_0 a0_1 a0_2 a0_3 a0_4 a0_5 l0_6).bind fun bt645 => ((impl_PutMsg.f kj16 bt645.1 bt645.2.1 bt645.2.2.1 bt645.2.2.2.1 bt645.2.2.2.2.1 bt645.2.2.2.2.2.1 bt645.2.2.2.2.2.2).bind fun t654 => ((laws_eqByteS.f kj16 t654 t612).bind fun t657 => (if t657 = true then ((laws_heldByteS.f kj16 bt642.2 1).bind fun t658 => (if t658 < 0 then (none) else (if t658 = bt642.1 then (some true) else (none)))) else (none))))) else (none))))) = some r := by rw [if_neg (show ¬ (false = true) by decide)] at H; exact H
       clear H
       have H := H1
       clear H1
       replace H := Option.bind_eq_some_iff.mp H
       obtain ⟨⟨t642, t643⟩, A430, H⟩ := H
       replace H : ((laws_heldByteS.f kj16 t643 1).bind fun t644 => (if t644 < 0 then (none) else (if t644 = t642 then ((laws_toMsg.f kj16 a0_0 a0_1 a0_2 a0_3 a0_4 a0_5 l0_6).bind fun bt645 => ((impl_PutMsg.f kj16 bt645.1 bt645.2.1 bt645.2.2.1 bt645.2.2.2.1 bt645.2.2.2.2.1 bt645.2.2.2.2.2.1 bt645.2.2.2.2.2.2).bind fun t654 => ((laws_eqByteS.f kj16 t654 t612).bind fun t657 => (if t657 = true then ((laws_heldByteS.f kj16 t643 1).bind fun t658 => (if t658 < 0 then (none) else (if t658 = t642 then (some true) else (none)))) else (none))))) else (none)))) = some r := H
       have A43 := Aside0.mk A430
       clear A430
       replace H := Option.bind_eq_some_iff.mp H
       obtain ⟨t644, A440, H⟩ := H
       replace H : (if t644 < 0 then (none) else (if t644 = t642 then ((laws_toMsg.f kj16 a0_0 a0_1 a0_2 a0_3 a0_4 a0_5 l0_6).bind fun bt645 => ((impl_PutMsg.f kj16 bt645.1 bt645.2.1 bt645.2.2.1 bt645.2.2.2.1 bt645.2.2.2.2.1 bt645.2.2.2.2.2.1 bt645.2.2.2.2.2.2).bind fun t654 => ((laws_eqByteS.f kj16 t654 t612).bind fun t657 => (if t657 = true then ((laws_heldByteS.f kj16 t643 1).bind fun t658 => (if t658 < 0 then (none) else (if t658 = t642 then (some true) else (none)))) else (none))))) else (none))) = some r := H
       have A44 := Aside0.mk A440
       clear A440
       by_cases c45 : t644 < 0
       ·rw [if_pos c45] at H
        exact absurd H (by simp)
       ·rw [if_neg c45] at H
        have c45b0 : decide (t644 < 0) = false := decide_eq_false c45
        clear c45
        by_cases c46 : t644 = t642
        ·rw [if_pos c46] at H
         have c46b0 : (t644 == t642) = true := beq_iff_eq.mpr c46
         have c46b1 : (t644 != t642) = false := bne_eq_false_iff_eq.mpr c46
         clear c46
         replace H := Option.bind_eq_some_iff.mp H
         obtain ⟨⟨t645, t646, t647, t648, t649, t650, t651⟩, A470, H⟩ := H
         replace H : ((impl_PutMsg.f kj16 t645 t646 t647 t648 t649 t650 t651).bind fun t654 => ((laws_eqByteS.f kj16 t654 t612).bind fun t657 => (if t657 = true then ((laws_heldByteS.f kj16 t643 1).bind fun t658 => (if t658 < 0 then (none) else (if t658 = t642 then (some true) else (none)))) else (none)))) = some r := H
         have A47 := Aside0.mk A470
         clear A470
         replace H := Option.bind_eq_some_iff.mp H
         obtain ⟨t654, A480, H⟩ := H
         replace H : ((laws_eqByteS.f kj16 t654 t612).bind fun t657 => (if t657 = true then ((laws_heldByteS.f kj16 t643 1).bind fun t658 => (if t658 < 0 then (none) else (if t658 = t642 then (some true) else (none)))) else (none))) = some r := H
         have A48 := Aside0.mk A480
         clear A480
         replace H := Option.bind_eq_some_iff.mp H
         obtain ⟨t657, A490, H⟩ := H
         replace H : (if t657 = true then ((laws_heldByteS.f kj16 t643 1).bind fun t658 => (if t658 < 0 then (none) else (if t658 = t642 then (some true) else (none)))) else (none)) = some r := H
         have A49 := Aside0.mk A490
         clear A490
         by_cases c50 : t657 = true
         ·subst c50
          have H1 : ((laws_heldByteS.f kj16 t643 1).bind fun t658 => (if t658 < 0 then (none) else (if t658 = t642 then (some true) else (none)))) = some r := by rw [if_pos rfl] at H; exact H
          clear H
          have H := H1
          clear H1
          replace H := Option.bind_eq_some_iff.mp H
          obtain ⟨t658, A510, H⟩ := H
          replace H : (if t658 < 0 then (none) else (if t658 = t642 then (some true) else (none))) = some r := H
          have A51 := Aside0.mk A510
          clear A510
          by_cases c52 : t658 < 0
          ·rw [if_pos c52] at H
           exact absurd H (by simp)
          ·rw [if_neg c52] at H
           have c52b0 : decide (t658 < 0) = false := decide_eq_false c52
           clear c52
           by_cases c53 : t658 = t642
           ·rw [if_pos c53] at H
            have c53b0 : (t658 == t642) = true := beq_iff_eq.mpr c53
            have c53b1 : (t658 != t642) = false := bne_eq_false_iff_eq.mpr c53
            clear c53
            obtain rfl := Option.some.inj H
            go_wp2_with (first | ((with_reducible refine gate_callee (f := 24) rfl ?_); refine goesL_ (some 45) rfl rfl Try.func24 (by kernel_rfl) rfl #[.slice Ao32 t625.length co32, .int .i64 1] rfl (by (try simp only [List.map_toArray, List.map_cons, List.map_nil]); first | done | rfl | (simp only [List.length_drop, List.length_take]; rfl)) ?_; (with_reducible refine (laws_markByteS.calls kj16 (fun k_ => some k_ = (.slice Ao32 t625.length co32 : Value).ownBlock) (.slice Ao32 t625.length co32) t625 1 t642 t643 w _ ?side1 ?side2 A43.out).mono ?_); (case side1 => repeat (first | (with_reducible first | exact HB.out | apply below_alloc | apply pw_below_drewN | apply below_drew1 | refine below_set ?_ GE601.out | refine below_set ?_ GE624.out) | exact HB.out)); (case side2 => exact Kd.R_tight rfl HO_6.out); rintro e w54 ⟨rfl, hy0, hb, hkp⟩; refine ⟨_, rfl, ?_⟩; have n0_ := Aside0.mk (Kd.R_mono (ok' := fun k_ => some k_ ≠ (.slice Ao32 t625.length co32 : Value).ownBlock) (Kd.R_keptB (HO_4.out) hkp (fun k_ hk_ hs_ => (hk_) hs_)) (fun k_ hk_ => Imp.imp hk_)); have n1_ := Aside0.mk (Kd.R_reok rfl hy0 (fun k_ e_ => HO_6.out.1 k_ e_)); have n2_ := Aside0.mk (Kd.R_mono (ok' := fun k_ => True) (Kd.R_keptB ((Kd.R_apart' HO_625006.out (Kd.R_typed HO_6.out) (by decide))) hkp (fun k_ hk_ hs_ => absurd hs_ (Imp.imp hk_))) (fun k_ hk_ => trivial)); have n3_ := Aside0.mk (blk_kept (by (with_reducible repeat (first | refine blk_drewN ?_ _ | refine blk_drew ?_ | refine blk_alloc ?_ _)); exact BK601.out) hkp (fun hs_ => (fun e_ => (Kd.R_ne HO_6.out BK601.out (by decide)) e_) hs_)); have n4_ := Aside0.mk (blk_kept (by (with_reducible repeat (first | refine blk_drewN ?_ _ | refine blk_drew ?_ | refine blk_alloc ?_ _)); exact BK624.out) hkp (fun hs_ => (fun e_ => (Kd.R_ne HO_6.out BK624.out (by decide)) e_) hs_)); have n5_ := Aside0.mk (hb); clear HO_4; clear HO_6; clear HO_625006; clear BK601; clear BK624; clear HB; have HO_4 := n0_; have HO_6 := n1_; have HO_625006 := n2_; have BK601 := n3_; have BK624 := n4_; have HB := n5_; clear n0_ n1_ n2_ n3_ n4_ n5_; (try clear hb); (try clear hkp); (try clear hy0)) | ((with_reducible refine gate_callee (f := 25) rfl ?_); refine goesL_ (some 48) rfl rfl Try.func25 (by kernel_rfl) rfl #[.slice Ao32 t643.length co32, .int .i64 1] rfl (by (try simp only [List.map_toArray, List.map_cons, List.map_nil]); first | done | (rw [show t643.length = t625.length from (Kd.R_reads' HO_6.out).1.symm] <;> rfl) | rfl | (simp only [List.length_drop, List.length_take]; rfl)) ?_; (with_reducible refine (laws_heldByteS.calls kj16 _ _ t643 1 t644 _ ?side1 ?side2 A44.out).mono ?_); (case side1 => repeat (first | exact (Kd.R_reads' HO_6.out).2.2 | (with_reducible refine Kd.C_alloc ?_ _) | (with_reducible refine Kd.C_drewN ?_ _) | (with_reducible refine Kd.C_drew ?_))); (case side2 => rw [show t643.length = t625.length from (Kd.R_reads' HO_6.out).1.symm]; exact (Kd.R_reads' HO_6.out).2.1); rintro e w' ⟨rfl, ⟨nd, rfl⟩⟩; refine ⟨_, rfl, ?_⟩; have hnb55 := NB601_624.out; have hnc55 := NB624_601.out; have hcz56_0 : w54.cell? ⟨gb601, 0, none⟩ = some (.int .i64 a0_0) := (blk_cell BK601.out 0).trans rfl; have hcz56_1 : w54.cell? ⟨gb601, 1, none⟩ = some (.int .i64 a0_1) := (blk_cell BK601.out 1).trans rfl; have hcz56_2 : w54.cell? ⟨gb601, 2, none⟩ = some (.int .i64 a0_2) := (blk_cell BK601.out 2).trans rfl; have hcz56_3 : w54.cell? ⟨gb601, 3, none⟩ = some (.int .i64 a0_3) := (blk_cell BK601.out 3).trans rfl; have hcz56_4 : w54.cell? ⟨gb601, 4, none⟩ = some (.string a0_4) := (blk_cell BK601.out 4).trans rfl; have hcz56_5 : w54.cell? ⟨gb601, 5, none⟩ = some (.int .i64 a0_5) := (blk_cell BK601.out 5).trans rfl; have hcz56_6 : w54.cell? ⟨gb601, 6, none⟩ = some (.slice A0_6 l0_6.length c0_6) := (blk_cell BK601.out 6).trans rfl; have hfz56_0 := blk_frozen BK601.out 0; have hfz56_1 := blk_frozen BK601.out 1; have hfz56_2 := blk_frozen BK601.out 2; have hfz56_3 := blk_frozen BK601.out 3; have hfz56_4 := blk_frozen BK601.out 4; have hfz56_5 := blk_frozen BK601.out 5; have hfz56_6 := blk_frozen BK601.out 6) | ((with_reducible refine gate_callee (f := 19) rfl ?_); refine goesL_ (some 55) rfl rfl Try.func19 (by kernel_rfl) rfl #[.agg #[.int .i64 a0_0, .int .i64 a0_1, .int .i64 a0_2, .int .i64 a0_3, .string a0_4, .int .i64 a0_5, .slice A0_6 l0_6.length c0_6]] rfl (by (try simp only [List.map_toArray, List.map_cons, List.map_nil]); first | done | rfl | (simp only [List.length_drop, List.length_take]; rfl)) ?_; (with_reducible refine (laws_toMsg.calls kj16 a0_0 a0_1 a0_2 a0_3 a0_4 a0_5 _ _ l0_6 t645 t646 t647 t648 t649 t650 t651 _ ?side1 ?side2 A47.out).mono ?_); (case side1 => repeat (first | exact (Kd.C_below HR0_6.out (by repeat (first | (with_reducible first | exact HB.out | apply below_alloc | apply pw_below_drewN | apply below_drew1 | refine below_set ?_ GE601.out | refine below_set ?_ GE624.out) | exact HB.out))) | (with_reducible refine Kd.C_alloc ?_ _) | (with_reducible refine Kd.C_drewN ?_ _) | (with_reducible refine Kd.C_drew ?_))); (case side2 => exact HC0_6.out); rintro e w57 ⟨v652, rfl, ho0, hb⟩; refine ⟨_, rfl, ?_⟩; have n0_ := Aside0.mk (Kd.R_below (by (with_reducible repeat (first | apply Kd.R_alloc | apply Kd.R_drewN | apply Kd.R_drew)); exact HO_4.out) hb); have n1_ := Aside0.mk (Kd.R_below (by (with_reducible repeat (first | apply Kd.R_alloc | apply Kd.R_drewN | apply Kd.R_drew)); exact HO_6.out) hb); have n2_ := Aside0.mk (Kd.R_elder' (by (with_reducible repeat (first | apply Kd.R_alloc | apply Kd.R_drewN | apply Kd.R_drew)); exact HO_625006.out) (Kd.R_base ho0) hb); have n3_ := Aside0.mk (Kd.R_lower (Kd.R_new' ho0 (Kd.R_lt (by (with_reducible repeat (first | apply Kd.R_alloc | apply Kd.R_drewN | apply Kd.R_drew)); exact HO_625006.out))) (below_size (by repeat (first | (with_reducible first | exact HB.out | apply below_alloc | apply pw_below_drewN | apply below_drew1 | refine below_set ?_ GE601.out | refine below_set ?_ GE624.out) | exact HB.out)))); have n4_ := Aside0.mk (blk_below (g := gb601) (o := .cells #[.int .i64 a0_0, .int .i64 a0_1, .int .i64 a0_2, .int .i64 a0_3, .string a0_4, .int .i64 a0_5, .slice A0_6 l0_6.length c0_6] 27 (0, 0)) (by (with_reducible repeat (first | refine blk_drewN ?_ _ | refine blk_drew ?_ | refine blk_alloc ?_ _)); exact BK601.out) hb); have n5_ := Aside0.mk (blk_below (g := gb624) (o := .cells #[.int .i64 t615, .int .i64 t616, .int .i64 t617, .int .i64 t618, .string t619, .int .i64 t620, .slice Ao30 t640.length co30] 33 (0, 0)) (by (with_reducible repeat (first | refine blk_drewN ?_ _ | refine blk_drew ?_ | refine blk_alloc ?_ _)); exact BK624.out) hb); have n6_ := Aside0.mk (below_step (by repeat (first | (with_reducible first | exact HB.out | apply below_alloc | apply pw_below_drewN | apply below_drew1 | refine below_set ?_ GE601.out | refine below_set ?_ GE624.out) | exact HB.out)) hb); clear HO_4; clear HO_6; clear HO_625006; clear BK601; clear BK624; clear HB; have HO_4 := n0_; have HO_6 := n1_; have HO_625006 := n2_; have HO653 := n3_; have BK601 := n4_; have BK624 := n5_; have HB := n6_; clear n0_ n1_ n2_ n3_ n4_ n5_ n6_; (try clear hb); (try clear hb2); (try clear hk); (try clear hi); (try clear ho0); obtain ⟨Ao58, co58, eo58⟩ := Kd.R_slice HO653.out; subst eo58) | ((with_reducible refine gate_callee (f := 20) rfl ?_); refine goesL_ (some 56) rfl rfl Try.func20 (by kernel_rfl) rfl #[.agg #[.int .i64 t645, .int .i64 t646, .int .i64 t647, .int .i64 t648, .string t649, .int .i64 t650, .slice Ao58 t651.length co58]] rfl (by (try simp only [List.map_toArray, List.map_cons, List.map_nil]); first | done | rfl | (simp only [List.length_drop, List.length_take]; rfl)) ?_; (with_reducible refine (impl_PutMsg.calls kj16 t645 t646 t647 t648 t649 t650 _ _ t651 t654 _ ?side1 ?side2 A48.out).mono ?_); (case side1 => repeat (first | exact (Kd.R_reads' HO653.out).2.2 | (with_reducible refine Kd.C_alloc ?_ _) | (with_reducible refine Kd.C_drewN ?_ _) | (with_reducible refine Kd.C_drew ?_))); (case side2 => exact (Kd.R_reads' HO653.out).2.1); rintro e w59 ⟨v655, rfl, ho0, hb⟩; refine ⟨_, rfl, ?_⟩; have n0_ := Aside0.mk (Kd.R_elder' (by (with_reducible repeat (first | apply Kd.R_alloc | apply Kd.R_drewN | apply Kd.R_drew)); exact HO_4.out) (Kd.R_base ho0) hb); have n1_ := Aside0.mk (Kd.R_elder' (by (with_reducible repeat (first | apply Kd.R_alloc | apply Kd.R_drewN | apply Kd.R_drew)); exact HO_6.out) (Kd.R_base ho0) hb); have n2_ := Aside0.mk (Kd.R_below (by (with_reducible repeat (first | apply Kd.R_alloc | apply Kd.R_drewN | apply Kd.R_drew)); exact HO_625006.out) hb); have n3_ := Aside0.mk (Kd.R_below (by (with_reducible repeat (first | apply Kd.R_alloc | apply Kd.R_drewN | apply Kd.R_drew)); exact HO653.out) hb); have n4_ := Aside0.mk (Kd.R_lower (Kd.R_new' (Kd.R_new' ho0 (Kd.R_lt (by (with_reducible repeat (first | apply Kd.R_alloc | apply Kd.R_drewN | apply Kd.R_drew)); exact HO_4.out))) (Kd.R_lt (by (with_reducible repeat (first | apply Kd.R_alloc | apply Kd.R_drewN | apply Kd.R_drew)); exact HO_6.out))) (below_size (by repeat (first | (with_reducible first | exact HB.out | apply below_alloc | apply pw_below_drewN | apply below_drew1 | refine below_set ?_ GE601.out | refine below_set ?_ GE624.out) | exact HB.out)))); have n5_ := Aside0.mk (blk_below (g := gb601) (o := .cells #[.int .i64 a0_0, .int .i64 a0_1, .int .i64 a0_2, .int .i64 a0_3, .string a0_4, .int .i64 a0_5, .slice A0_6 l0_6.length c0_6] 27 (0, 0)) (by (with_reducible repeat (first | refine blk_drewN ?_ _ | refine blk_drew ?_ | refine blk_alloc ?_ _)); exact BK601.out) hb); have n6_ := Aside0.mk (blk_below (g := gb624) (o := .cells #[.int .i64 t615, .int .i64 t616, .int .i64 t617, .int .i64 t618, .string t619, .int .i64 t620, .slice Ao30 t640.length co30] 33 (0, 0)) (by (with_reducible repeat (first | refine blk_drewN ?_ _ | refine blk_drew ?_ | refine blk_alloc ?_ _)); exact BK624.out) hb); have n7_ := Aside0.mk (below_step (by repeat (first | (with_reducible first | exact HB.out | apply below_alloc | apply pw_below_drewN | apply below_drew1 | refine below_set ?_ GE601.out | refine below_set ?_ GE624.out) | exact HB.out)) hb); clear HO_4; clear HO_6; clear HO_625006; clear HO653; clear BK601; clear BK624; clear HB; have HO_4 := n0_; have HO_6 := n1_; have HO_625006 := n2_; have HO653 := n3_; have HO656 := n4_; have BK601 := n5_; have BK624 := n6_; have HB := n7_; clear n0_ n1_ n2_ n3_ n4_ n5_ n6_ n7_; (try clear hb); (try clear hb2); (try clear hk); (try clear hi); (try clear ho0); obtain ⟨Ao60, co60, eo60⟩ := Kd.R_slice HO656.out; subst eo60) | ((with_reducible refine gate_callee (f := 21) rfl ?_); refine goesL_ (some 59) rfl rfl Try.func21 (by kernel_rfl) rfl #[.slice Ao60 t654.length co60, .slice Ao33 t612.length co33] rfl (by (try simp only [List.map_toArray, List.map_cons, List.map_nil]); first | done | rfl | (simp only [List.length_drop, List.length_take]; rfl)) ?_; (with_reducible refine (laws_eqByteS.calls kj16 _ _ t654 _ _ t612 true _ ?side1 ?side2 ?side3 ?side4 A49.out).mono ?_); (case side1 => repeat (first | exact (Kd.R_reads' HO656.out).2.2 | (with_reducible refine Kd.C_alloc ?_ _) | (with_reducible refine Kd.C_drewN ?_ _) | (with_reducible refine Kd.C_drew ?_))); (case side2 => exact (Kd.R_reads' HO656.out).2.1); (case side3 => repeat (first | exact (Kd.R_reads' HO_4.out).2.2 | (with_reducible refine Kd.C_alloc ?_ _) | (with_reducible refine Kd.C_drewN ?_ _) | (with_reducible refine Kd.C_drew ?_))); (case side4 => exact (Kd.R_reads' HO_4.out).2.1); rintro e w' ⟨rfl, ⟨nd, rfl⟩⟩; refine ⟨_, rfl, ?_⟩) | ((with_reducible refine gate_callee (f := 25) rfl ?_); refine goesL_ (some 63) rfl rfl Try.func25 (by kernel_rfl) rfl #[.slice Ao32 t643.length co32, .int .i64 1] rfl (by (try simp only [List.map_toArray, List.map_cons, List.map_nil]); first | done | (rw [show t643.length = t625.length from (Kd.R_reads' HO_6.out).1.symm] <;> rfl) | rfl | (simp only [List.length_drop, List.length_take]; rfl)) ?_; (with_reducible refine (laws_heldByteS.calls kj16 _ _ t643 1 t658 _ ?side1 ?side2 A51.out).mono ?_); (case side1 => repeat (first | exact (Kd.R_reads' HO_6.out).2.2 | (with_reducible refine Kd.C_alloc ?_ _) | (with_reducible refine Kd.C_drewN ?_ _) | (with_reducible refine Kd.C_drew ?_))); (case side2 => rw [show t643.length = t625.length from (Kd.R_reads' HO_6.out).1.symm]; exact (Kd.R_reads' HO_6.out).2.1); rintro e w' ⟨rfl, ⟨nd, rfl⟩⟩; refine ⟨_, rfl, ?_⟩))
            go_ret
            exact ⟨by first | rfl | (simp [errW_none, errW_some] <;> rfl) | (simp [*, errW_none, errW_some] <;> rfl), by repeat (first | (with_reducible first | exact HB.out | apply below_alloc | apply pw_below_drewN | apply below_drew1 | refine below_set ?_ GE601.out | refine below_set ?_ GE624.out) | exact HB.out)⟩
           ·rw [if_neg c53] at H
            exact absurd H (by simp)
         ·replace c50 := Bool.eq_false_iff.mpr c50
          subst c50
          have H1 : (none) = some r := by rw [if_neg (show ¬ (false = true) by decide)] at H; exact H
          clear H
          have H := H1
          clear H1
          exact absurd H (by simp)
        ·rw [if_neg c46] at H
         exact absurd H (by simp)
   ·replace c15 := Bool.eq_false_iff.mpr c15
    subst c15
    have H1 : (none) = some r := by rw [if_neg (show ¬ (false = true) by decide)] at H; exact H
    clear H
    have H := H1
    clear H1
    exact absurd H (by simp)
  ·replace c12 := Bool.eq_false_iff.mpr c12
   subst c12
   have H1 : (none) = some r := by rw [if_neg (show ¬ (false = true) by decide)] at H; exact H
   clear H
   have H := H1
   clear H1
   exact absurd H (by simp)

end Go.Proofs.Ytcogimnpffnanaa.Q
end

section
/- The row of the law FnExactPutMsg out of its pure statement and the printed walk. -/
namespace Go.Proofs.Ytcogimnpffnanaa.Q
open Go.RowKit Go.Proofs.Ytcogimnpffnanaa.XO Go.Proofs.YtcogimnpffnanaaW.PrintWords Go.ChangeShapes Go.WideShapes Go.ChangeAt
set_option linter.unusedVariables false
set_option linter.unusedSimpArgs false
def laws_FnExactPutMsg.Pure : Prop := ∀ (x0 : S27), G27 x0 → ∃ k, laws_FnExactPutMsg.f k x0.f0 x0.f1 x0.f2 x0.f3.f0 x0.f3.f1 x0.f4 x0.f5 = some true
namespace RFnExactPutMsg
theorem own : ownKnob Try.prog.godebug = none := by kernel_rfl
theorem laidOut : laidOutB Try.prog = true := by kernel_rfl
set_option maxRecDepth 100000 in
theorem lifted (PU : laws_FnExactPutMsg.Pure) (os : Os) (started : os.Started) (H : Type) (enc : TypeId × Value → H) :
  ReturnsInHanded {} Try.checked os 4 .any (Rows.fnExactPutMsgSpec.pre6 enc Try.prog Try.f4 Rows.fnExactPutMsgRow.domain false) (Rows.fnExactPutMsgSpec.post enc Try.prog Try.f4 false true false false) := by
 refine returnsInHanded_of_change_sized (C := Try.checked) own started (by kernel_rfl) Try.func4
  (ChangeSpec.witness6 (enc := enc) (C := Try.checked) false ⟨#[], #[.agg #[.int .i64 0, .int .i64 0, .int .i64 0, .int .i64 0, .string ByteArray.empty, .int .i64 0, .slice none 0 0]], []⟩ 8 (by kernel_rfl) (by kernel_rfl) (by kernel_rfl) (by kernel_rfl)) ?_
 intro W base args ds gs before hval0 hW hcnd hsz0 _
 have hval : ∀ (j : Nat) t v, Try.f4.params[j]? = some t → args[j]? = some v → Value.okWide Try.prog W .any base t v := hval0
 have hW' := hW
 obtain ⟨p, q, hA0, hV, rfl, hfz, hnd⟩ := hW
 have hA : DataW.TrodAll enc Try.prog W 0 (fun _ => true) true Try.f4.params.toList args.toList ds p := hA0
 rw [Try.params4] at hA hval
 obtain ⟨v0, vs0, d0, ds0, p0, q0, hargs, rfl, rfl, h0, r0⟩ := trodAll_cons hA
 obtain ⟨rfl, rfl, rfl⟩ := trodAll_nil r0
 obtain rfl : args = #[v0] := by cases args; simp_all
 obtain ⟨rfl, rfl⟩ := trodVars_none hV
 have kk0 := h0
 have lt0 : ∀ x ∈ p0, x.block < W.heap.size := by obtain ⟨m, hm⟩ := kk0; exact DataW.trod_lt m _ _ _ hm
 obtain ⟨cs0, rfl, _⟩ := okWide_struct Try.underlying27 (hval 0 27 v0 rfl rfl)
 obtain ⟨fu0, hf0⟩ := h0
 obtain ⟨x0, hK0, g0⟩ := opens27 hf0
 obtain ⟨A0_6, c0_6, he0, hc0_6, hr0_6⟩ := k27_open hK0
 obtain rfl : cs0 = #[.int .i64 x0.f0, .int .i64 x0.f1, .int .i64 x0.f2, .int .i64 x0.f3.f0, .string x0.f3.f1, .int .i64 x0.f4, .slice A0_6 x0.f5.length c0_6] := by cases cs0; simpa [Value.cells] using he0
 clear hA0 hval0 hsz0
 obtain ⟨k, hp⟩ := PU x0 g0
 refine (laws_FnExactPutMsg.calls k x0.f0 x0.f1 x0.f2 x0.f3.f0 x0.f3.f1 x0.f4 _ _ x0.f5 true W hr0_6 hc0_6 hp).mono fun e W' ⟨he, bel0⟩ => ?_
 have bel : Below W.heap.size W W' := bel0
 subst he
 exact ⟨_, rfl, _, _, _, [], _, [], hW', trodAll_mk1 (shut_bool Try.underlying4 _), (trodAll_cons_mk (Below.trod laidOut (by kernel_rfl) (of_decide_eq_true (by kernel_rfl)) kk0 bel lt0) trodAll_mk0), rfl, bel.frame _, fun h => by cases h⟩
theorem over (PU : laws_FnExactPutMsg.Pure) : Rows.fnExactPutMsgRow.holds Try.pinned (OpenSpec.ofChange Rows.fnExactPutMsgSpec) :=
 OpenClaim.holds_of_wide 4 Try.f4 rfl rfl rfl rfl rfl rfl rfl ⟨rfl, rfl, rfl, rfl, rfl⟩ rfl rfl rfl rfl rfl (by kernel_rfl) Try.func4 (by kernel_rfl)
  (of_decide_eq_true (by kernel_rfl)) (by unfold Func.isWrapper; first | (rw [if_pos (by decide +kernel)]; kernel_rfl) | (rw [if_neg (by decide +kernel)]; exact ⟨rfl, rfl⟩))
  (fun os started H enc _ => lifted PU os started H enc)
end RFnExactPutMsg
theorem FnExactPutMsg_row (PU : laws_FnExactPutMsg.Pure) : Rows.FnExactPutMsgSaid := RFnExactPutMsg.over PU
end Go.Proofs.Ytcogimnpffnanaa.Q
end

section
/- The program's PutMsg and the reference's return the same for all messages; no condition. -/
namespace Go.Proofs.Ytcogimnpffnanaa.Q
open Go.RowKit Go.Proofs.Ytcogimnpffnanaa.B Go.Proofs.YtcogimnpffnanaaW.PrintWords
set_option linter.unusedVariables false

theorem putMsg_both (k f t d : Int) (s : ByteArray) (n : Int) (l : List ByteArray) (ht : total l ≤ 1000000000) (hx : ∀ x ∈ l, x.size ≤ 1000000000) : ∃ r, Ev (fun q => spec_PutMsg.f q k f t d s n l) r ∧ Ev (fun q => impl_PutMsg.f q k f t d s n l) r ∧ r.length ≤ 100000000000 := by
 by_cases hk : msgOk k f t d s n l = true
 ·obtain ⟨c1, c2, c3, c4, c5, c6, c7⟩ := msgOk_parts hk
  obtain ⟨k, rfl⟩ := Int.eq_ofNat_of_zero_le c1.1
  obtain ⟨f, rfl⟩ := Int.eq_ofNat_of_zero_le c2.1
  obtain ⟨t, rfl⟩ := Int.eq_ofNat_of_zero_le c3.1
  obtain ⟨d, rfl⟩ := Int.eq_ofNat_of_zero_le c4.1
  obtain ⟨n, rfl⟩ := Int.eq_ofNat_of_zero_le c6.1
  have ht0 := total_nonneg l
  have h1 := num_five (show k ≤ 1000000000 by omega)
  have h2 := num_five (show f ≤ 1000000000 by omega)
  have h3 := num_five (show t ≤ 1000000000 by omega)
  have h4 := num_five (show d ≤ 1000000000 by omega)
  have h5 := num_five (show n ≤ 1000000000 by omega)
  have h6 := num_five (show s.size ≤ 1000000000 by omega)
  have h7 := num_five (show l.length ≤ 1000000000 by omega)
  have hm := manyB_length l hx
  refine ⟨msgB k f t d s n l, specPut_val k f t d s n l hk ht hx, implPut_val k f t d s n l hk ht hx, ?_⟩
  unfold msgB textB textsB
  simp only [List.length_append, bytesOf_length]
  omega
 ·refine ⟨[], ?_, ?_, by simp⟩
  ·unfold spec_PutMsg.f
   exact Ev.bind (spec_MsgOk_ev _ _ _ _ _ _ _) (Ev.neg hk (Ev.now _))
  ·unfold impl_PutMsg.f
   exact Ev.bind (impl_MsgOk_ev _ _ _ _ _ _ _) (Ev.neg hk (Ev.now _))
theorem pure_FnExactPutMsg : laws_FnExactPutMsg.Pure := by
 intro x g
 refine Ev.rounds (g := fun q => laws_FnExactPutMsg.f q x.f0 x.f1 x.f2 x.f3.f0 x.f3.f1 x.f4 x.f5) ?_
 obtain ⟨_, _, _, ⟨_, g4⟩, _, g5⟩ := g
 generalize x.f0 = k at *
 generalize x.f1 = f at *
 generalize x.f2 = t at *
 generalize x.f3.f0 = d at *
 generalize x.f3.f1 = s at *
 generalize x.f4 = n at *
 generalize x.f5 = l at *
 unfold laws_FnExactPutMsg.f
 have sz : ∃ r, Ev (fun q => laws_szMsg.f q k f t d s n l 1048576) r ∧ (r < 0 ∨ (s.size ≤ 1048576 ∧ l.length ≤ 1048576 ∧ total l ≤ 1048576 ∧ 0 ≤ r)) := by
  unfold laws_szMsg.f
  obtain ⟨r, hr, hc⟩ := szHead_eq d s 1048576 (by omega) (by omega) g4
  rcases hc with hc | ⟨hc, hc1⟩
  ·exact ⟨-1, Ev.bind (Ev.const hr) (Ev.pos hc (Ev.now _)), .inl (by omega)⟩
  ·obtain ⟨r2, hr2, hc2⟩ := szStringS_ev l r hc (by omega) g5.1 g5.2
   have ht := total_nonneg l
   rcases hc2 with hc2 | ⟨hc2, hc3⟩
   ·exact ⟨-1, Ev.bind (Ev.const hr) (Ev.neg (by omega) (Ev.bind hr2 (Ev.pos hc2 (Ev.now _)))), .inl (by omega)⟩
   ·exact ⟨r2, Ev.bind (Ev.const hr) (Ev.neg (by omega) (Ev.bind hr2 (Ev.neg (by omega) (Ev.now _)))), .inr ⟨by omega, by omega, by omega, hc2⟩⟩
 obtain ⟨r, hr, hc⟩ := sz
 refine Ev.bind hr ?_
 rcases hc with hc | ⟨c1, c2, c3, c4⟩
 ·exact Ev.pos hc (Ev.now _)
 ·have hx : ∀ y ∈ l, y.size ≤ 1000000000 := fun y hy => by
   have := total_mem hy
   omega
  obtain ⟨q, e1, e2, hq⟩ := putMsg_both k f t d s n l (by omega) hx
  have hT : Ev (fun z => laws_toMsg.f z k f t d s n l) (k, f, t, d, s, n, l) := by
   unfold laws_toMsg.f
   exact Ev.bind (Ev.const (toHead_eq d s)) (Ev.bind (toStringS_ev l (by omega)) (Ev.now _))
  have hE := eqByteS_ev q (by omega)
  have hM2 := eqMsg_ev k f t d s n l (by omega)
  obtain ⟨M, m1, m2, m3⟩ := markStringS_ev l 1 (by omega) (by omega)
  have hMM : Ev (fun z => laws_markMsg.f z k f t d s n l 1) (1 + (l.length : Int), M) := by
   unfold laws_markMsg.f
   exact Ev.bind m1 (Ev.now _)
  have hm := markByteS_ev q 1 (by omega) (by omega)
  have hh := heldByteS_ev q.length 1 (by omega) (by omega)
  refine Ev.neg (by omega) (Ev.bind hT (Ev.bind e1 (Ev.bind hT (Ev.bind e2 (Ev.bind hE (Ev.pos rfl (Ev.bind hT (Ev.bind hM2 (Ev.pos rfl (Ev.bind hMM (Ev.neg (by simp only; omega) (Ev.bind hE ?_))))))))))))
  refine Ev.step (fun z => by simp only [laws_FnExactPutMsg.j0]; rfl) ?_
  exact Ev.neg (by simp) (Ev.bind hm (Ev.bind hh (Ev.neg (by omega) (Ev.pos rfl (Ev.bind hT (Ev.bind e2 (Ev.bind hE (Ev.pos rfl (Ev.bind hh (Ev.neg (by omega) (Ev.pos rfl (Ev.now _))))))))))))
end Go.Proofs.Ytcogimnpffnanaa.Q
namespace Go.Proofs.Ytcogimnpffnanaa
theorem fnExactPutMsg_holds : Rows.FnExactPutMsgSaid := Q.FnExactPutMsg_row Q.pure_FnExactPutMsg
end Go.Proofs.Ytcogimnpffnanaa
end
