-- Joined and shortened by a program of this session (wip/tools/shakecopy.py): the words of the print, texts of pp.sh and of mine.
import Derived.Test.YtcogimnpffnanaaKFnExactGetCommit6
import Derived.Deep.Slices
import Derived.ChangeArms
section
namespace Go.Proofs.Ytcogimnpffnanaa.Q
open Go.RowKit Go.Proofs.YtcogimnpffnanaaW.PrintWords Go.Proofs.YtcogimnpffnanaaW.PrintLast Go.Proofs.YtcogimnpffnanaaW.PrintMore
attribute [local go_sem] max2_int min2_int max_two min_two max_three min_three max_four min_four   -- for this text's walks alone
set_option linter.unusedVariables false
set_option linter.unusedSimpArgs false
def spec_GetCommit.j0 : Nat → List Int → Int → Int → Int → Bool → Option (Int × ByteArray × List ByteArray × Int × Bool)
 | 0, _, _, _, _, _ => none
 | k + 1, x0, x1, x8, x9, x39 => if x39 = true then (some (0, (⟨#[]⟩ : ByteArray), (([] : List ByteArray)), x1, false)) else (if 0 ≤ x9 then (if x9 ≤ (wrap64 (x9 + x8)) then (if (wrap64 (x9 + x8)) ≤ (x0.length : Int) then ((spec_GetNum.f k ((x0.take ((wrap64 (x9 + x8)) : Int).toNat).drop (x9 : Int).toNat) 0).bind fun bt609 => ((spec_GetText.f k ((x0.take ((wrap64 (x9 + x8)) : Int).toNat).drop (x9 : Int).toNat) bt609.2.1).bind fun bt612 => ((spec_GetTexts.f k ((x0.take ((wrap64 (x9 + x8)) : Int).toNat).drop (x9 : Int).toNat) bt612.2.1).bind fun bt615 => (if bt609.2.2 = true then (if bt612.2.2 = true then (if bt615.2.2 = true then (if bt615.2.1 = (((x0.take ((wrap64 (x9 + x8)) : Int).toNat).drop (x9 : Int).toNat).length : Int) then ((spec_HeadOk.f bt609.1 bt612.1).bind fun t621 => (if t621 = true then (if (bt615.1.length : Int) = 0 then (some (0, (⟨#[]⟩ : ByteArray), (([] : List ByteArray)), x1, false)) else (if 0 ≤ (wrap64 (x9 + x8)) then (if (wrap64 (x9 + x8)) ≤ (wrap64 ((wrap64 (x9 + x8)) + 4)) then (if (wrap64 ((wrap64 (x9 + x8)) + 4)) ≤ (x0.length : Int) then ((spec_Digest.f k ((x0.take ((wrap64 (x9 + x8)) : Int).toNat).drop (x9 : Int).toNat)).bind fun t626 => (if 0 ≤ 4 then (if 4 ≤ (t626.size : Int) then (if (strOfNums ((x0.take ((wrap64 ((wrap64 (x9 + x8)) + 4)) : Int).toNat).drop ((wrap64 (x9 + x8)) : Int).toNat)).toList = (t626.extract 0 4).toList then (some (bt609.1, bt612.1, bt615.1, wrap64 ((wrap64 (x9 + x8)) + 4), true)) else (some (0, (⟨#[]⟩ : ByteArray), (([] : List ByteArray)), x1, false))) else (none)) else (none))) else (none)) else (none)) else (none))) else (some (0, (⟨#[]⟩ : ByteArray), (([] : List ByteArray)), x1, false)))) else (some (0, (⟨#[]⟩ : ByteArray), (([] : List ByteArray)), x1, false))) else (some (0, (⟨#[]⟩ : ByteArray), (([] : List ByteArray)), x1, false))) else (some (0, (⟨#[]⟩ : ByteArray), (([] : List ByteArray)), x1, false))) else (some (0, (⟨#[]⟩ : ByteArray), (([] : List ByteArray)), x1, false)))))) else (none)) else (none)) else (none))
def spec_GetCommit.f (k : Nat) (l0 : List Int) (a1 : Int) : Option (Int × ByteArray × List ByteArray × Int × Bool) := (spec_GetNum.f k l0 a1).bind fun bt602 => (if bt602.2.2 = true then (spec_GetCommit.j0 k l0 a1 bt602.1 bt602.2.1 (decide (bt602.1 > (wrap64 ((wrap64 ((l0.length : Int) - bt602.2.1)) - 4))))) else (spec_GetCommit.j0 k l0 a1 bt602.1 bt602.2.1 true))
theorem spec_GetCommit.mono_l : ∀ k, (∀ y0 y1 y2 y3 y4, LeO (spec_GetCommit.j0 k y0 y1 y2 y3 y4) (spec_GetCommit.j0 (k + 1) y0 y1 y2 y3 y4))
 | 0 => fun _ _ _ _ _ r h => by simp [spec_GetCommit.j0] at h
 | k + 1 => by
  have ih0 := spec_GetCommit.mono_l k
  ·intro y0 y1 y2 y3 y4
   unfold spec_GetCommit.j0
   repeat' first
   | (with_reducible exact ih0 _ _ _ _ _)
   | (with_reducible exact spec_Digest.mono _ _)
   | (with_reducible exact spec_GetNum.mono _ _ _)
   | (with_reducible exact spec_GetText.mono _ _ _)
   | (with_reducible exact spec_GetTexts.mono _ _ _)
   | (with_reducible exact LeO.refl _)
   | (with_reducible exact LeO.none _)
   | (with_reducible refine LeO.ite ?_ ?_)
   | (with_reducible refine LeO.bind ?_ (fun _ => ?_))
   | exact ih0 _ _ _ _ _
   | exact spec_Digest.mono _ _
   | exact spec_GetNum.mono _ _ _
   | exact spec_GetText.mono _ _ _
   | exact spec_GetTexts.mono _ _ _
   | exact LeO.none _
   | refine LeO.ite ?_ ?_
   | refine LeO.bind ?_ (fun _ => ?_)
theorem spec_GetCommit.mono : ∀ a0 a1 k, LeO (spec_GetCommit.f k a0 a1) (spec_GetCommit.f (k + 1) a0 a1) := by
 intro a0 a1 k
 have ih0 := spec_GetCommit.mono_l k
 unfold spec_GetCommit.f
 repeat' first
   | (with_reducible exact ih0 _ _ _ _ _)
   | (with_reducible exact spec_Digest.mono _ _)
   | (with_reducible exact spec_GetNum.mono _ _ _)
   | (with_reducible exact spec_GetText.mono _ _ _)
   | (with_reducible exact spec_GetTexts.mono _ _ _)
   | (with_reducible exact LeO.refl _)
   | (with_reducible exact LeO.none _)
   | (with_reducible refine LeO.ite ?_ ?_)
   | (with_reducible refine LeO.bind ?_ (fun _ => ?_))
   | exact ih0 _ _ _ _ _
   | exact spec_Digest.mono _ _
   | exact spec_GetNum.mono _ _ _
   | exact spec_GetText.mono _ _ _
   | exact spec_GetTexts.mono _ _ _
   | exact LeO.none _
   | refine LeO.ite ?_ ?_
   | refine LeO.bind ?_ (fun _ => ?_)
def spec_GetCommit.T9 : Bool × List (List Nat × List Nat) := (true, [([], []), ([0], [0]), ([1], [1]), ([2], [2]), ([3, 2], [2, 3]), ([2, 4], [2, 4]), ([5, 2], [5]), ([6], [6]), ([7, 6], [6, 7]), ([6, 8], [6, 8]), ([9, 6], [9]), ([10], [10]), ([10], [10]), ([12, 10], [10, 12]), ([11, 13, 10], [10, 11, 13]), ([10, 14], [10, 14]), ([15, 10], [15]), ([16], [16]), ([17, 16, 16], [16, 17]), ([18, 16], [16, 18]), ([16, 19], [16, 19]), ([20, 18], [20]), ([21], [21]), ([22, 21], [21, 22]), ([23, 21], [21, 23]), ([21, 24], [21, 24]), ([25, 21], [25]), ([26], [26]), ([26], [26]), ([26], [26]), ([28, 29, 26], [26, 28, 29]), ([26], [26]), ([26], [26]), ([31, 32, 26], [26, 31, 32]), ([33, 26], [26, 33]), ([27, 30, 34, 26], [26, 27, 30, 34]), ([35, 26], [26, 35]), ([26], [26]), ([37, 26, 26], [26, 37]), ([38, 26], [26, 38]), ([36, 39, 26], [26, 36, 39]), ([26, 40], [26, 40])])
def spec_GetCommit.B9 : List Nat := [0, 1, 3, 7, 15, 31, 63, 127, 255, 511, 1023, 2047, 2047, 6143, 16383, 32767, 65535, 131071, 262143, 524287, 1048575, 2097151, 4194303, 8388607, 16777215, 33554431, 67108863, 134217727, 134217727, 134217727, 939524095, 134217727, 134217727, 6576668671, 15166603263, 34359738367, 68719476735, 134217727, 137573171199, 412451078143, 1099511627775, 2199023255551]
theorem spec_GetCommit.tab9 : rtab .any (opsOf Try.f52 9) = spec_GetCommit.T9 := by kernel_rfl
theorem spec_GetCommit.bits9 : waitsOk spec_GetCommit.T9.2 spec_GetCommit.B9 = true := by kernel_rfl
def lb (m : Nat) : Array Bool := ((List.range 42).map fun i => Nat.testBit m i).toArray
theorem sT {α : Type} {l : List α} {i : Nat} {a : α} : l.toArray.setIfInBounds i a = (l.set i a).toArray := by simp
theorem sZ {α : Type} {x : α} {l : List α} {a : α} : (x :: l).set 0 a = a :: l := rfl
theorem sS {α : Type} {x : α} {l : List α} {i : Nat} {a : α} : (x :: l).set (i + 1) a = x :: l.set i a := rfl
set_option maxHeartbeats 8000000 in
set_option maxRecDepth 100000 in
theorem spec_GetCommit.calls (k : Nat) (A0 : Option Addr) (c0 : Nat) (l0 : List Int) (a1 : Int) (r1 : Int) (r2 : ByteArray) (r3 : List ByteArray) (r4 : Int) (r5 : Bool) (w : World) (hr0 : Kd.C (Kd.int .u8) w A0 l0.length l0) (hc0 : l0.length ≤ c0) (h : spec_GetCommit.f k l0 a1 = some (r1, r2, r3, r4, r5)) :
  Calls Try.prog 52 #[.slice A0 l0.length c0, .int .i64 a1] w fun e w' => ∃ v2_ : Value, e = .returned (.tuple #[.agg #[.int .i64 r1, .string r2], v2_, .int .i64 r4, .bool r5]) ∧ Kd.R Kd.string 9 w' w.heap.size (fun _ => True) v2_ r3 ∧ Below w.heap.size w w' := by
 have hu31 := Try.underlying31
 have HR0 := Aside0.mk hr0
 have HC0 := Aside0.mk hc0
 clear hr0 hc0
 have HB := Aside0.mk (Below.refl w.heap.size w)
 have H : ((spec_GetNum.f k l0 a1).bind fun bt602 => (if bt602.2.2 = true then (spec_GetCommit.j0 k l0 a1 bt602.1 bt602.2.1 (decide (bt602.1 > (wrap64 ((wrap64 ((l0.length : Int) - bt602.2.1)) - 4))))) else (spec_GetCommit.j0 k l0 a1 bt602.1 bt602.2.1 true))) = some (r1, r2, r3, r4, r5) := h
 clear h
 replace H := Option.bind_eq_some_iff.mp H
 obtain ⟨⟨t602, t603, t604⟩, A30, H⟩ := H
 replace H : (if t604 = true then (spec_GetCommit.j0 k l0 a1 t602 t603 (decide (t602 > (wrap64 ((wrap64 ((l0.length : Int) - t603)) - 4))))) else (spec_GetCommit.j0 k l0 a1 t602 t603 true)) = some (r1, r2, r3, r4, r5) := H
 have A3 := Aside0.mk A30
 clear A30
 have HC4 := Aside0.mk H
 clear H
 go_enter Try.func52, Try.ntmps52
 go_upto_region 2 with (first | ((with_reducible refine gate_dst (N := 4) rfl ?_); (try (refine gate_guard (by rfl) ?_; dsimp only)); refine box_event ?hg (N := 4) ?hd (cs := #[.int .i64 0, .string (⟨#[]⟩ : ByteArray)]) (t := 31) ?hr ?_; (case hd => rfl); (case hg => rfl); (case hr => first | (go_simp; done) | (go_simp; rfl)); intro gb601 hg w5 hbox hb; have n0_ := Aside0.mk (below_step (by repeat (first | (with_reducible first | exact HB.out | apply below_alloc | apply pw_below_drewN | apply below_drew1) | exact HB.out)) hb); have n1_ := Aside0.mk (hbox); have n2_ := Aside0.mk ((by rw [hg]; exact (below_size (by repeat (first | (with_reducible first | exact HB.out | apply below_alloc | apply pw_below_drewN | apply below_drew1) | exact HB.out))) : w.heap.size ≤ gb601)); have n3_ := Aside0.mk ((by rw [hg]; exact (below_size (by repeat (first | (with_reducible first | exact HB.out | apply below_alloc | apply pw_below_drewN | apply below_drew1) | exact HB.out))) : w.heap.size ≤ gb601)); clear HB; have HB := n0_; have BK601 := n1_; have GW601 := n2_; have GE601 := n3_; clear n0_ n1_ n2_ n3_; clear hb hbox hg) | ((with_reducible refine gate_callee (f := 101) rfl ?_); refine goesL_ (some 25) rfl rfl Try.func101 (by kernel_rfl) rfl #[.slice A0 l0.length c0, .int .i64 a1] rfl (by (try simp only [List.map_toArray, List.map_cons, List.map_nil]); first | done | rfl | (simp only [List.length_drop, List.length_take]; rfl)) ?_; (with_reducible refine (spec_GetNum.calls k _ _ l0 a1 t602 t603 t604 _ ?side1 ?side2 A3.out).mono ?_); (case side1 => repeat (first | exact (Kd.C_below HR0.out HB.out) | (with_reducible refine Kd.C_alloc ?_ _) | (with_reducible refine Kd.C_drewN ?_ _) | (with_reducible refine Kd.C_drew ?_))); (case side2 => exact HC0.out); rintro e w' ⟨rfl, ⟨nd, rfl⟩⟩; refine ⟨_, rfl, ?_⟩))
 (try simp only [Act.put, List.setIfInBounds_toArray, List.set_cons_zero, List.set_cons_succ])
 go_cut [39] (fun v39 wc => ∃ (kq : Nat) (x39_3 : Bool), v39 = .bool x39_3 ∧ Aside0 (spec_GetCommit.j0 kq l0 a1 t602 t603 x39_3 = some (r1, r2, r3, r4, r5)) ∧ Aside0 (kq ≤ k) ∧ Aside0 (wc.heap[gb601]? = some (.cells #[.int .i64 0, .string (⟨#[]⟩ : ByteArray)] 31 (0, 0))) ∧ Aside0 (Below w.heap.size w wc))
 case first =>
  have H := HC4.out
  clear HC4
  by_cases c6 : t604 = true
  ·subst c6
   have H1 : (spec_GetCommit.j0 k l0 a1 t602 t603 (decide (t602 > (wrap64 ((wrap64 ((l0.length : Int) - t603)) - 4))))) = some (r1, r2, r3, r4, r5) := by rw [if_pos rfl] at H; exact H
   clear H
   have H := H1
   clear H1
   have H' := Aside0.mk H
   clear H
   go_wp2
   go_meet
   case rel => exact ⟨_, (decide (t602 > (wrap64 ((wrap64 ((l0.length : Int) - t603)) - 4)))), (by first | rfl | (simp; done) | (simp [*]; done)), H', ⟨by first | omega | exact Nat.le_refl _⟩, ⟨by (with_reducible repeat (first | refine blk_drewN ?_ _ | refine blk_drew ?_ | refine blk_alloc ?_ _)); exact BK601.out⟩, ⟨by repeat (first | (with_reducible first | exact HB.out | apply below_alloc | apply pw_below_drewN | apply below_drew1 | refine below_set ?_ GE601.out) | exact HB.out)⟩⟩
  ·replace c6 := Bool.eq_false_iff.mpr c6
   subst c6
   have H1 : (spec_GetCommit.j0 k l0 a1 t602 t603 true) = some (r1, r2, r3, r4, r5) := by rw [if_neg (show ¬ (false = true) by decide)] at H; exact H
   clear H
   have H := H1
   clear H1
   have H' := Aside0.mk H
   clear H
   go_wp2
   go_meet
   case rel => exact ⟨_, (true), (by first | rfl | (simp; done) | (simp [*]; done)), H', ⟨by first | omega | exact Nat.le_refl _⟩, ⟨by (with_reducible repeat (first | refine blk_drewN ?_ _ | refine blk_drew ?_ | refine blk_alloc ?_ _)); exact BK601.out⟩, ⟨by repeat (first | (with_reducible first | exact HB.out | apply below_alloc | apply pw_below_drewN | apply below_drew1 | refine below_set ?_ GE601.out) | exact HB.out)⟩⟩
 case rest =>
  clear HC4
  try clear c1
  try clear p2
  try clear c5
  try clear c6
  try clear p6
  obtain ⟨kq, x39_3, rfl, HA, HJ3, BK601, HB⟩ := hcut
  cases kq with
  | zero => exact absurd HA.out (by simp [spec_GetCommit.j0])
  | succ kj3 =>
   have H := HA.out
   clear HA
   simp only [spec_GetCommit.j0] at H
   by_cases c7 : x39_3 = true
   ·subst c7
    have H1 : (some (0, (⟨#[]⟩ : ByteArray), (([] : List ByteArray)), a1, false)) = some (r1, r2, r3, r4, r5) := by rw [if_pos rfl] at H; exact H
    clear H
    have H := H1
    clear H1
    obtain ⟨y605, hy605⟩ : ∃ y_ : List ByteArray, y_ = (([] : List ByteArray)) := ⟨_, rfl⟩
    replace H : (some (0, (⟨#[]⟩ : ByteArray), y605, a1, false)) = some (r1, r2, r3, r4, r5) := by first | (rw [hy605]; with_reducible exact H) | (have H2_ := (Option.bind_some _ _).symm.trans H; rw [hy605]; with_reducible exact H2_) | (have H2_ := (Option.bind_some _ _).symm.trans H; with_reducible exact H2_) | with_reducible exact H | (rw [hy605]; exact H) | exact H
    have Ny605 := Aside0.mk hy605
    clear hy605
    simp only [Option.some.injEq, Prod.mk.injEq] at H
    obtain ⟨rfl, rfl, rfl, rfl, rfl⟩ := H
    go_wp2_with (first | ((with_reducible refine gate_dst (N := 41) rfl ?_); (try (refine gate_guard (by rfl) ?_; dsimp only)); refine Kd.R_lit Kd.string _ 9 ?hg (N := 41) ?hd (xs := ([] : List ByteArray)) (inner := []) (ok := fun _ => True) (okp := fun _ => True) ?hr ?hp (fun _ hk => hk) trivial (Below.refl _ _) (Nat.le_refl _) (by simp) ?_; (case hd => rfl); (case hg => rfl); (case hr => first | (go_simp; done) | (go_simp; rfl)); (case hp => exact (Reps.none _ _)); intro v606 w8 ho9 hb hg_ hnew_; clear hg_ hnew_; (first | rw [← Ny605.out] at ho9 | (simp only [Int.reduceToNat] at ho9; rw [← Ny605.out] at ho9)); have n0_ := Aside0.mk (Kd.R_lower ho9 (below_size (by repeat (first | (with_reducible first | exact HB.out | apply below_alloc | apply pw_below_drewN | apply below_drew1 | refine below_set ?_ GE601.out) | exact HB.out)))); have n1_ := Aside0.mk (blk_below (g := gb601) (o := .cells #[.int .i64 0, .string (⟨#[]⟩ : ByteArray)] 31 (0, 0)) (by (with_reducible repeat (first | refine blk_drewN ?_ _ | refine blk_drew ?_ | refine blk_alloc ?_ _)); exact BK601.out) hb); have n2_ := Aside0.mk (below_step (by repeat (first | (with_reducible first | exact HB.out | apply below_alloc | apply pw_below_drewN | apply below_drew1 | refine below_set ?_ GE601.out) | exact HB.out)) hb); clear BK601; clear HB; have HO607 := n0_; have BK601 := n1_; have HB := n2_; clear n0_ n1_ n2_; clear hb ho9; have hcz10_0 : w8.cell? ⟨gb601, 0, none⟩ = some (.int .i64 0) := (blk_cell BK601.out 0).trans rfl; have hcz10_1 : w8.cell? ⟨gb601, 1, none⟩ = some (.string (⟨#[]⟩ : ByteArray)) := (blk_cell BK601.out 1).trans rfl; have hfz10_0 := blk_frozen BK601.out 0; have hfz10_1 := blk_frozen BK601.out 1))
    refine bodyPost_ret (results_list (rs := [.cell 4 31, .tmp 5, .tmp 6, .tmp 7]) rfl (by simp) (.cell gb601 31 #[.int .i64 0, .string (⟨#[]⟩ : ByteArray)] (0, 0) _ rfl (by (with_reducible repeat (first | refine blk_drewN ?_ _ | refine blk_drew ?_ | refine blk_alloc ?_ _)); refine blk_put (cs := #[.int .i64 0, .string (⟨#[]⟩ : ByteArray)]) ?_ 1 _ rfl; (with_reducible repeat (first | refine blk_drewN ?_ _ | refine blk_drew ?_ | refine blk_alloc ?_ _)); refine blk_put (cs := #[.int .i64 0, .string (⟨#[]⟩ : ByteArray)]) ?_ 0 _ rfl; (with_reducible repeat (first | refine blk_drewN ?_ _ | refine blk_drew ?_ | refine blk_alloc ?_ _)); exact BK601.out) Try.underlying31 rfl (by kernel_rfl) (.tmp (.tmp (.tmp .nil))))) rfl ?_
    exact ⟨_, by first | rfl | (simp [errW_none, errW_some] <;> rfl) | (simp [*, errW_none, errW_some] <;> rfl), by (with_reducible repeat (first | apply Kd.R_alloc | apply Kd.R_drewN | apply Kd.R_drew)); exact Kd.R_mono (Kd.R_far (p := ⟨gb601, 1, none⟩) (Kd.R_far (p := ⟨gb601, 0, none⟩) (Kd.R_types HO607.out BK601.out (by decide)) (fun _ hk => hk.2) (.int .i64 0)) (fun _ hk => hk.2) (.string (⟨#[]⟩ : ByteArray))) (fun _ hk => trivial), by repeat (first | (with_reducible first | exact HB.out | apply below_alloc | apply pw_below_drewN | apply below_drew1 | refine below_set ?_ GE601.out) | exact HB.out)⟩
   ·replace c7 := Bool.eq_false_iff.mpr c7
    subst c7
    have H1 : (if 0 ≤ t603 then (if t603 ≤ (wrap64 (t603 + t602)) then (if (wrap64 (t603 + t602)) ≤ (l0.length : Int) then ((spec_GetNum.f kj3 ((l0.take ((wrap64 (t603 + t602)) : Int).toNat).drop (t603 : Int).toNat) 0).bind fun bt609 => ((spec_GetText.f kj3 ((l0.take ((wrap64 (t603 + t602)) : Int).toNat).drop (t603 : Int).toNat) bt609.2.1).bind fun bt612 => ((spec_GetTexts.f kj3 ((l0.take ((wrap64 (t603 + t602)) : Int).toNat).drop (t603 : Int).toNat) bt612.2.1).bind fun bt615 => (if bt609.2.2 = true then (if bt612.2.2 = true then (if bt615.2.2 = true then (if bt615.2.1 = (((l0.take ((wrap64 (t603 + t602)) : Int).toNat).drop (t603 : Int).toNat).length : Int) then ((spec_HeadOk.f bt609.1 bt612.1).bind fun t621 => (if t621 = true then (if (bt615.1.length : Int) = 0 then (some (0, (⟨#[]⟩ : ByteArray), (([] : List ByteArray)), a1, false)) else (if 0 ≤ (wrap64 (t603 + t602)) then (if (wrap64 (t603 + t602)) ≤ (wrap64 ((wrap64 (t603 + t602)) + 4)) then (if (wrap64 ((wrap64 (t603 + t602)) + 4)) ≤ (l0.length : Int) then ((spec_Digest.f kj3 ((l0.take ((wrap64 (t603 + t602)) : Int).toNat).drop (t603 : Int).toNat)).bind fun t626 => (if 0 ≤ 4 then (if 4 ≤ (t626.size : Int) then (if (strOfNums ((l0.take ((wrap64 ((wrap64 (t603 + t602)) + 4)) : Int).toNat).drop ((wrap64 (t603 + t602)) : Int).toNat)).toList = (t626.extract 0 4).toList then (some (bt609.1, bt612.1, bt615.1, wrap64 ((wrap64 (t603 + t602)) + 4), true)) else (some (0, (⟨#[]⟩ : ByteArray), (([] : List ByteArray)), a1, false))) else (none)) else (none))) else (none)) else (none)) else (none))) else (some (0, (⟨#[]⟩ : ByteArray), (([] : List ByteArray)), a1, false)))) else (some (0, (⟨#[]⟩ : ByteArray), (([] : List ByteArray)), a1, false))) else (some (0, (⟨#[]⟩ : ByteArray), (([] : List ByteArray)), a1, false))) else (some (0, (⟨#[]⟩ : ByteArray), (([] : List ByteArray)), a1, false))) else (some (0, (⟨#[]⟩ : ByteArray), (([] : List ByteArray)), a1, false)))))) else (none)) else (none)) else (none)) = some (r1, r2, r3, r4, r5) := by rw [if_neg (show ¬ (false = true) by decide)] at H; exact H
    clear H
    have H := H1
    clear H1
    by_cases c11 : 0 ≤ t603
    ·rw [if_pos c11] at H
     have c11b0 := eq_true c11
     have c11b1 : decide (0 ≤ t603) = true := decide_eq_true c11
     clear c11
     by_cases c12 : t603 ≤ (wrap64 (t603 + t602))
     ·rw [if_pos c12] at H
      have c12b0 := eq_true c12
      have c12b1 : decide (t603 ≤ (wrap64 (t603 + t602))) = true := decide_eq_true c12
      by_cases c13 : (wrap64 (t603 + t602)) ≤ (l0.length : Int)
      ·rw [if_pos c13] at H
       have c13b0 := eq_true c13
       have c13b1 : decide ((wrap64 (t603 + t602)) ≤ (l0.length : Int)) = true := decide_eq_true c13
       replace H := Option.bind_eq_some_iff.mp H
       obtain ⟨⟨t609, t610, t611⟩, A140, H⟩ := H
       replace H : ((spec_GetText.f kj3 ((l0.take ((wrap64 (t603 + t602)) : Int).toNat).drop (t603 : Int).toNat) t610).bind fun bt612 => ((spec_GetTexts.f kj3 ((l0.take ((wrap64 (t603 + t602)) : Int).toNat).drop (t603 : Int).toNat) bt612.2.1).bind fun bt615 => (if t611 = true then (if bt612.2.2 = true then (if bt615.2.2 = true then (if bt615.2.1 = (((l0.take ((wrap64 (t603 + t602)) : Int).toNat).drop (t603 : Int).toNat).length : Int) then ((spec_HeadOk.f t609 bt612.1).bind fun t621 => (if t621 = true then (if (bt615.1.length : Int) = 0 then (some (0, (⟨#[]⟩ : ByteArray), (([] : List ByteArray)), a1, false)) else (if 0 ≤ (wrap64 (t603 + t602)) then (if (wrap64 (t603 + t602)) ≤ (wrap64 ((wrap64 (t603 + t602)) + 4)) then (if (wrap64 ((wrap64 (t603 + t602)) + 4)) ≤ (l0.length : Int) then ((spec_Digest.f kj3 ((l0.take ((wrap64 (t603 + t602)) : Int).toNat).drop (t603 : Int).toNat)).bind fun t626 => (if 0 ≤ 4 then (if 4 ≤ (t626.size : Int) then (if (strOfNums ((l0.take ((wrap64 ((wrap64 (t603 + t602)) + 4)) : Int).toNat).drop ((wrap64 (t603 + t602)) : Int).toNat)).toList = (t626.extract 0 4).toList then (some (t609, bt612.1, bt615.1, wrap64 ((wrap64 (t603 + t602)) + 4), true)) else (some (0, (⟨#[]⟩ : ByteArray), (([] : List ByteArray)), a1, false))) else (none)) else (none))) else (none)) else (none)) else (none))) else (some (0, (⟨#[]⟩ : ByteArray), (([] : List ByteArray)), a1, false)))) else (some (0, (⟨#[]⟩ : ByteArray), (([] : List ByteArray)), a1, false))) else (some (0, (⟨#[]⟩ : ByteArray), (([] : List ByteArray)), a1, false))) else (some (0, (⟨#[]⟩ : ByteArray), (([] : List ByteArray)), a1, false))) else (some (0, (⟨#[]⟩ : ByteArray), (([] : List ByteArray)), a1, false))))) = some (r1, r2, r3, r4, r5) := H
       have A14 := Aside0.mk A140
       clear A140
       replace H := Option.bind_eq_some_iff.mp H
       obtain ⟨⟨t612, t613, t614⟩, A150, H⟩ := H
       replace H : ((spec_GetTexts.f kj3 ((l0.take ((wrap64 (t603 + t602)) : Int).toNat).drop (t603 : Int).toNat) t613).bind fun bt615 => (if t611 = true then (if t614 = true then (if bt615.2.2 = true then (if bt615.2.1 = (((l0.take ((wrap64 (t603 + t602)) : Int).toNat).drop (t603 : Int).toNat).length : Int) then ((spec_HeadOk.f t609 t612).bind fun t621 => (if t621 = true then (if (bt615.1.length : Int) = 0 then (some (0, (⟨#[]⟩ : ByteArray), (([] : List ByteArray)), a1, false)) else (if 0 ≤ (wrap64 (t603 + t602)) then (if (wrap64 (t603 + t602)) ≤ (wrap64 ((wrap64 (t603 + t602)) + 4)) then (if (wrap64 ((wrap64 (t603 + t602)) + 4)) ≤ (l0.length : Int) then ((spec_Digest.f kj3 ((l0.take ((wrap64 (t603 + t602)) : Int).toNat).drop (t603 : Int).toNat)).bind fun t626 => (if 0 ≤ 4 then (if 4 ≤ (t626.size : Int) then (if (strOfNums ((l0.take ((wrap64 ((wrap64 (t603 + t602)) + 4)) : Int).toNat).drop ((wrap64 (t603 + t602)) : Int).toNat)).toList = (t626.extract 0 4).toList then (some (t609, t612, bt615.1, wrap64 ((wrap64 (t603 + t602)) + 4), true)) else (some (0, (⟨#[]⟩ : ByteArray), (([] : List ByteArray)), a1, false))) else (none)) else (none))) else (none)) else (none)) else (none))) else (some (0, (⟨#[]⟩ : ByteArray), (([] : List ByteArray)), a1, false)))) else (some (0, (⟨#[]⟩ : ByteArray), (([] : List ByteArray)), a1, false))) else (some (0, (⟨#[]⟩ : ByteArray), (([] : List ByteArray)), a1, false))) else (some (0, (⟨#[]⟩ : ByteArray), (([] : List ByteArray)), a1, false))) else (some (0, (⟨#[]⟩ : ByteArray), (([] : List ByteArray)), a1, false)))) = some (r1, r2, r3, r4, r5) := H
       have A15 := Aside0.mk A150
       clear A150
       replace H := Option.bind_eq_some_iff.mp H
       obtain ⟨⟨t615, t616, t617⟩, A160, H⟩ := H
       replace H : (if t611 = true then (if t614 = true then (if t617 = true then (if t616 = (((l0.take ((wrap64 (t603 + t602)) : Int).toNat).drop (t603 : Int).toNat).length : Int) then ((spec_HeadOk.f t609 t612).bind fun t621 => (if t621 = true then (if (t615.length : Int) = 0 then (some (0, (⟨#[]⟩ : ByteArray), (([] : List ByteArray)), a1, false)) else (if 0 ≤ (wrap64 (t603 + t602)) then (if (wrap64 (t603 + t602)) ≤ (wrap64 ((wrap64 (t603 + t602)) + 4)) then (if (wrap64 ((wrap64 (t603 + t602)) + 4)) ≤ (l0.length : Int) then ((spec_Digest.f kj3 ((l0.take ((wrap64 (t603 + t602)) : Int).toNat).drop (t603 : Int).toNat)).bind fun t626 => (if 0 ≤ 4 then (if 4 ≤ (t626.size : Int) then (if (strOfNums ((l0.take ((wrap64 ((wrap64 (t603 + t602)) + 4)) : Int).toNat).drop ((wrap64 (t603 + t602)) : Int).toNat)).toList = (t626.extract 0 4).toList then (some (t609, t612, t615, wrap64 ((wrap64 (t603 + t602)) + 4), true)) else (some (0, (⟨#[]⟩ : ByteArray), (([] : List ByteArray)), a1, false))) else (none)) else (none))) else (none)) else (none)) else (none))) else (some (0, (⟨#[]⟩ : ByteArray), (([] : List ByteArray)), a1, false)))) else (some (0, (⟨#[]⟩ : ByteArray), (([] : List ByteArray)), a1, false))) else (some (0, (⟨#[]⟩ : ByteArray), (([] : List ByteArray)), a1, false))) else (some (0, (⟨#[]⟩ : ByteArray), (([] : List ByteArray)), a1, false))) else (some (0, (⟨#[]⟩ : ByteArray), (([] : List ByteArray)), a1, false))) = some (r1, r2, r3, r4, r5) := H
       have A16 := Aside0.mk A160
       clear A160
       obtain ⟨i0116, hi0116, _, hsz116, _⟩ := info_parts info5
       obtain ⟨A116, hcut116, hA116, hC116⟩ := print_mid_of (P := Try.prog) (Value.int .u8) 0 29 5 .i64 .i64 Try.underlying29 hi0116 hsz116 A0 c0 l0 t603 (wrap64 (t603 + t602)) (of_decide_eq_true (by first | (with_reducible assumption) | assumption)) (by first | omega | exact of_decide_eq_true (by first | (with_reducible assumption) | assumption)) (of_decide_eq_true (by first | (with_reducible assumption) | assumption)) HC0.out
       have HR608 := Aside0.mk (Kd.C_of_reads (h1 := fun _ => rfl) (hA116 _ (Kd.reads_of_C HR0.out)))
       have HC608 := Aside0.mk hC116
       clear hA116 hC116 hi0116 hsz116
       try go_wp2_with (first | ((with_reducible refine gate_callee (f := 101) rfl ?_); refine goesL_ (some 51) rfl rfl Try.func101 (by kernel_rfl) rfl #[.slice A116 ((l0.take ((wrap64 (t603 + t602)) : Int).toNat).drop (t603 : Int).toNat).length (c0 - t603.toNat), .int .i64 0] rfl (by (try simp only [List.map_toArray, List.map_cons, List.map_nil]); first | done | (rw [show ((l0.take ((wrap64 (t603 + t602)) : Int).toNat).drop (t603 : Int).toNat).length = ((wrap64 (t603 + t602)).toNat - t603.toNat) from (by rw [List.length_drop, List.length_take]; have h_ : ((wrap64 (t603 + t602)) : Int) ≤ (l0.length : Int) := of_decide_eq_true (by first | (with_reducible assumption) | assumption); omega)] <;> rfl) | rfl | (simp only [List.length_drop, List.length_take]; rfl)) ?_; (with_reducible refine (spec_GetNum.calls kj3 _ _ ((l0.take ((wrap64 (t603 + t602)) : Int).toNat).drop (t603 : Int).toNat) 0 t609 t610 t611 _ ?side1 ?side2 A14.out).mono ?_); (case side1 => repeat (first | exact (Kd.C_below HR608.out HB.out) | (with_reducible refine Kd.C_alloc ?_ _) | (with_reducible refine Kd.C_drewN ?_ _) | (with_reducible refine Kd.C_drew ?_))); (case side2 => exact HC608.out); rintro e w' ⟨rfl, ⟨nd, rfl⟩⟩; refine ⟨_, rfl, ?_⟩; (try (rw [drewN_self wc]; generalize hq_ : World.drewN wc _ = wc; have n0_ : Aside0 (wc.heap[gb601]? = some (.cells #[.int .i64 0, .string (⟨#[]⟩ : ByteArray)] 31 (0, 0))) := ⟨by rw [← hq_]; exact (by (with_reducible repeat (first | refine blk_drewN ?_ _ | refine blk_drew ?_ | refine blk_alloc ?_ _)); exact BK601.out)⟩; have n1_ : Aside0 (Below w.heap.size w wc) := ⟨by rw [← hq_]; exact (by repeat (first | (with_reducible first | exact HB.out | apply below_alloc | apply pw_below_drewN | apply below_drew1 | refine below_set ?_ GE601.out) | exact HB.out))⟩; clear BK601 HB hq_; have BK601 := n0_; have HB := n1_; clear n0_ n1_))) | ((with_reducible refine gate_callee (f := 102) rfl ?_); refine goesL_ (some 58) rfl rfl Try.func102 (by kernel_rfl) rfl #[.slice A116 ((l0.take ((wrap64 (t603 + t602)) : Int).toNat).drop (t603 : Int).toNat).length (c0 - t603.toNat), .int .i64 t610] rfl (by (try simp only [List.map_toArray, List.map_cons, List.map_nil]); first | done | (rw [show ((l0.take ((wrap64 (t603 + t602)) : Int).toNat).drop (t603 : Int).toNat).length = ((wrap64 (t603 + t602)).toNat - t603.toNat) from (by rw [List.length_drop, List.length_take]; have h_ : ((wrap64 (t603 + t602)) : Int) ≤ (l0.length : Int) := of_decide_eq_true (by first | (with_reducible assumption) | assumption); omega)] <;> rfl) | rfl | (simp only [List.length_drop, List.length_take]; rfl)) ?_; (with_reducible refine (spec_GetText.calls kj3 _ _ ((l0.take ((wrap64 (t603 + t602)) : Int).toNat).drop (t603 : Int).toNat) t610 t612 t613 t614 _ ?side1 ?side2 A15.out).mono ?_); (case side1 => repeat (first | exact (Kd.C_below HR608.out HB.out) | (with_reducible refine Kd.C_alloc ?_ _) | (with_reducible refine Kd.C_drewN ?_ _) | (with_reducible refine Kd.C_drew ?_))); (case side2 => exact HC608.out); rintro e w' ⟨rfl, ⟨nd, rfl⟩⟩; refine ⟨_, rfl, ?_⟩; (try (rw [drewN_self wc]; generalize hq_ : World.drewN wc _ = wc; have n0_ : Aside0 (wc.heap[gb601]? = some (.cells #[.int .i64 0, .string (⟨#[]⟩ : ByteArray)] 31 (0, 0))) := ⟨by rw [← hq_]; exact (by (with_reducible repeat (first | refine blk_drewN ?_ _ | refine blk_drew ?_ | refine blk_alloc ?_ _)); exact BK601.out)⟩; have n1_ : Aside0 (Below w.heap.size w wc) := ⟨by rw [← hq_]; exact (by repeat (first | (with_reducible first | exact HB.out | apply below_alloc | apply pw_below_drewN | apply below_drew1 | refine below_set ?_ GE601.out) | exact HB.out))⟩; clear BK601 HB hq_; have BK601 := n0_; have HB := n1_; clear n0_ n1_))) | ((with_reducible refine gate_callee (f := 103) rfl ?_); refine goesL_ (some 65) rfl rfl Try.func103 (by kernel_rfl) rfl #[.slice A116 ((l0.take ((wrap64 (t603 + t602)) : Int).toNat).drop (t603 : Int).toNat).length (c0 - t603.toNat), .int .i64 t613] rfl (by (try simp only [List.map_toArray, List.map_cons, List.map_nil]); first | done | (rw [show ((l0.take ((wrap64 (t603 + t602)) : Int).toNat).drop (t603 : Int).toNat).length = ((wrap64 (t603 + t602)).toNat - t603.toNat) from (by rw [List.length_drop, List.length_take]; have h_ : ((wrap64 (t603 + t602)) : Int) ≤ (l0.length : Int) := of_decide_eq_true (by first | (with_reducible assumption) | assumption); omega)] <;> rfl) | rfl | (simp only [List.length_drop, List.length_take]; rfl)) ?_; (with_reducible refine (spec_GetTexts.calls kj3 _ _ ((l0.take ((wrap64 (t603 + t602)) : Int).toNat).drop (t603 : Int).toNat) t613 t615 t616 t617 _ ?side1 ?side2 A16.out).mono ?_); (case side1 => repeat (first | exact (Kd.C_below HR608.out HB.out) | (with_reducible refine Kd.C_alloc ?_ _) | (with_reducible refine Kd.C_drewN ?_ _) | (with_reducible refine Kd.C_drew ?_))); (case side2 => exact HC608.out); rintro e w117 ⟨v618, rfl, ho0, hb⟩; refine ⟨_, rfl, ?_⟩; have n0_ := Aside0.mk (Kd.R_lower ho0 (below_size (by repeat (first | (with_reducible first | exact HB.out | apply below_alloc | apply pw_below_drewN | apply below_drew1 | refine below_set ?_ GE601.out) | exact HB.out)))); have n1_ := Aside0.mk (blk_below (g := gb601) (o := .cells #[.int .i64 0, .string (⟨#[]⟩ : ByteArray)] 31 (0, 0)) (by (with_reducible repeat (first | refine blk_drewN ?_ _ | refine blk_drew ?_ | refine blk_alloc ?_ _)); exact BK601.out) hb); have n2_ := Aside0.mk (below_step (by repeat (first | (with_reducible first | exact HB.out | apply below_alloc | apply pw_below_drewN | apply below_drew1 | refine below_set ?_ GE601.out) | exact HB.out)) hb); clear BK601; clear HB; have HO619 := n0_; have BK601 := n1_; have HB := n2_; clear n0_ n1_ n2_; (try clear hb); (try clear hb2); (try clear hk); (try clear hi); (try clear ho0)) | ((with_reducible refine gate_dst (N := 21) rfl ?_); (try (refine gate_guard (by rfl) ?_; dsimp only)); refine box_event ?hg (N := 21) ?hd (cs := #[.int .i64 0, .string (⟨#[]⟩ : ByteArray)]) (t := 31) ?hr ?_; (case hd => rfl); (case hg => rfl); (case hr => first | (go_simp; done) | (go_simp; rfl)); intro gb620 hg w118 hbox hb; have n0_ := Aside0.mk (Kd.R_below (by (with_reducible repeat (first | apply Kd.R_alloc | apply Kd.R_drewN | apply Kd.R_drew)); exact HO619.out) hb); have n1_ := Aside0.mk (blk_below (g := gb601) (o := .cells #[.int .i64 0, .string (⟨#[]⟩ : ByteArray)] 31 (0, 0)) (by (with_reducible repeat (first | refine blk_drewN ?_ _ | refine blk_drew ?_ | refine blk_alloc ?_ _)); exact BK601.out) hb); have n2_ := Aside0.mk (below_step (by repeat (first | (with_reducible first | exact HB.out | apply below_alloc | apply pw_below_drewN | apply below_drew1 | refine below_set ?_ GE601.out) | exact HB.out)) hb); have n3_ := Aside0.mk (hbox); have n4_ := Aside0.mk ((by rw [hg]; exact (below_size (by repeat (first | (with_reducible first | exact HB.out | apply below_alloc | apply pw_below_drewN | apply below_drew1 | refine below_set ?_ GE601.out) | exact HB.out))) : w.heap.size ≤ gb620)); have n5_ := Aside0.mk ((by rw [hg]; exact (below_size (by repeat (first | (with_reducible first | exact HB.out | apply below_alloc | apply pw_below_drewN | apply below_drew1 | refine below_set ?_ GE601.out) | exact HB.out))) : w.heap.size ≤ gb620)); have n6_ := Aside0.mk ((by rw [hg]; exact Nat.ne_of_lt (blk_lt (g := gb601) (o := .cells #[.int .i64 0, .string (⟨#[]⟩ : ByteArray)] 31 (0, 0)) (by (with_reducible repeat (first | refine blk_drewN ?_ _ | refine blk_drew ?_ | refine blk_alloc ?_ _)); exact BK601.out)) : gb601 ≠ gb620)); have n7_ := Aside0.mk ((by rw [hg]; exact Nat.ne_of_gt (blk_lt (g := gb601) (o := .cells #[.int .i64 0, .string (⟨#[]⟩ : ByteArray)] 31 (0, 0)) (by (with_reducible repeat (first | refine blk_drewN ?_ _ | refine blk_drew ?_ | refine blk_alloc ?_ _)); exact BK601.out)) : gb620 ≠ gb601)); clear HO619; clear BK601; clear HB; have HO619 := n0_; have BK601 := n1_; have HB := n2_; have BK620 := n3_; have GW620 := n4_; have GE620 := n5_; have NB601_620 := n6_; have NB620_601 := n7_; clear n0_ n1_ n2_ n3_ n4_ n5_ n6_ n7_; clear hb hbox hg; have hnb119 := NB620_601.out; have hnc119 := NB601_620.out; have hcz120_0 : w118.cell? ⟨gb620, 0, none⟩ = some (.int .i64 0) := (blk_cell BK620.out 0).trans rfl; have hcz120_1 : w118.cell? ⟨gb620, 1, none⟩ = some (.string (⟨#[]⟩ : ByteArray)) := (blk_cell BK620.out 1).trans rfl; have hfz120_0 := blk_frozen BK620.out 0; have hfz120_1 := blk_frozen BK620.out 1))
       have n0_ : Aside0 (Kd.R Kd.string 9 ((w118.setCell ⟨gb620, 0, none⟩ (.int .i64 t609)).setCell ⟨gb620, 1, none⟩ (.string t612)) w.heap.size (fun _ => True) v618 t615) := ⟨by (with_reducible repeat (first | apply Kd.R_alloc | apply Kd.R_drewN | apply Kd.R_drew)); exact Kd.R_mono (Kd.R_far (p := ⟨gb620, 1, none⟩) (Kd.R_far (p := ⟨gb620, 0, none⟩) (Kd.R_types HO619.out BK620.out (by decide)) (fun _ hk => hk.2) (.int .i64 t609)) (fun _ hk => hk.2) (.string t612)) (fun _ hk => trivial)⟩
       have n1_ : Aside0 (((w118.setCell ⟨gb620, 0, none⟩ (.int .i64 t609)).setCell ⟨gb620, 1, none⟩ (.string t612)).heap[gb601]? = some (.cells #[.int .i64 0, .string (⟨#[]⟩ : ByteArray)] 31 (0, 0))) := ⟨by (with_reducible repeat (first | refine blk_drewN ?_ _ | refine blk_drew ?_ | refine blk_alloc ?_ _)); refine blk_far ?_ NB601_620.out _; (with_reducible repeat (first | refine blk_drewN ?_ _ | refine blk_drew ?_ | refine blk_alloc ?_ _)); refine blk_far ?_ NB601_620.out _; (with_reducible repeat (first | refine blk_drewN ?_ _ | refine blk_drew ?_ | refine blk_alloc ?_ _)); exact BK601.out⟩
       have n2_ : Aside0 (((w118.setCell ⟨gb620, 0, none⟩ (.int .i64 t609)).setCell ⟨gb620, 1, none⟩ (.string t612)).heap[gb620]? = some (.cells #[.int .i64 t609, .string t612] 31 (0, 0))) := ⟨by (with_reducible repeat (first | refine blk_drewN ?_ _ | refine blk_drew ?_ | refine blk_alloc ?_ _)); refine blk_put (cs := #[.int .i64 t609, .string (⟨#[]⟩ : ByteArray)]) ?_ 1 _ rfl; (with_reducible repeat (first | refine blk_drewN ?_ _ | refine blk_drew ?_ | refine blk_alloc ?_ _)); refine blk_put (cs := #[.int .i64 0, .string (⟨#[]⟩ : ByteArray)]) ?_ 0 _ rfl; (with_reducible repeat (first | refine blk_drewN ?_ _ | refine blk_drew ?_ | refine blk_alloc ?_ _)); exact BK620.out⟩
       have n3_ : Aside0 (Below w.heap.size w ((w118.setCell ⟨gb620, 0, none⟩ (.int .i64 t609)).setCell ⟨gb620, 1, none⟩ (.string t612))) := ⟨by repeat (first | (with_reducible first | exact HB.out | apply below_alloc | apply pw_below_drewN | apply below_drew1 | refine below_set ?_ GE601.out | refine below_set ?_ GE620.out) | exact HB.out)⟩
       (try clear HO619)
       (try clear BK601)
       (try clear BK620)
       (try clear HB)
       generalize ((w118.setCell ⟨gb620, 0, none⟩ (.int .i64 t609)).setCell ⟨gb620, 1, none⟩ (.string t612)) = w121 at n0_ n1_ n2_ n3_ ⊢
       have HO619 := n0_
       have BK601 := n1_
       have BK620 := n2_
       have HB := n3_
       clear n0_ n1_ n2_ n3_
       have n0_ := Aside0.mk (Kd.R_drew HO619.out)
       have n1_ := Aside0.mk (blk_drew BK601.out)
       have n2_ := Aside0.mk (blk_drew BK620.out)
       have n3_ := Aside0.mk (below_drew1 HB.out)
       clear HO619
       clear BK601
       clear BK620
       clear HB
       have HO619 := n0_
       have BK601 := n1_
       have BK620 := n2_
       have HB := n3_
       clear n0_ n1_ n2_ n3_
       obtain ⟨Ao52, co52, eo52⟩ := Kd.R_slice HO619.out
       subst eo52
       have hlenq : ((l0.take ((wrap64 (t603 + t602)) : Int).toNat).drop (t603 : Int).toNat).length = ((wrap64 (t603 + t602)).toNat - t603.toNat) := (by rw [List.length_drop, List.length_take]; have h_ : ((wrap64 (t603 + t602)) : Int) ≤ (l0.length : Int) := of_decide_eq_true (by first | (with_reducible assumption) | assumption); omega)
       refine start_ (n := 42) (S := fun w' => w'.cell? ⟨gb620, 0, none⟩ = some (.int .i64 t609) ∧ w'.cell? ⟨gb620, 1, none⟩ = some (.string t612) ∧ Kd.C (Kd.int .u8) w' A0 l0.length l0) (ds := []) (lb 0) (by kernel_rfl) rfl rfl ⟨(blk_cell BK620.out 0).trans rfl, (blk_cell BK620.out 1).trans rfl, Kd.C_below HR0.out HB.out⟩ (fun hHeld => ?_); refine with_tabW spec_GetCommit.tab9 spec_GetCommit.bits9 (fun HT_ HW_ => ?_)
       generalize w121.drew = w122 at HO619 BK601 BK620 HB hHeld ⊢
       refine join_ (σ := List Value) 0 (lb 4398046511103) (fun s => [(72, s.getD 0 undef), (73, s.getD 1 undef), (74, s.getD 2 undef), (75, s.getD 3 undef), (76, s.getD 4 undef), (77, s.getD 5 undef), (78, s.getD 6 undef), (79, s.getD 7 undef), (80, s.getD 8 undef), (81, s.getD 9 undef), (82, s.getD 10 undef), (83, s.getD 11 undef), (84, s.getD 12 undef), (85, s.getD 13 undef), (86, s.getD 14 undef), (87, s.getD 15 undef), (88, s.getD 16 undef), (89, s.getD 17 undef), (90, s.getD 18 undef), (91, s.getD 19 undef), (92, s.getD 20 undef), (93, s.getD 21 undef), (94, s.getD 22 undef), (95, s.getD 23 undef), (96, s.getD 24 undef), (97, s.getD 25 undef), (98, s.getD 26 undef), (99, s.getD 27 undef), (100, s.getD 28 undef), (101, s.getD 29 undef), (102, s.getD 30 undef), (103, s.getD 31 undef), (104, s.getD 32 undef), (105, s.getD 33 undef), (106, s.getD 34 undef), (107, s.getD 35 undef), (108, s.getD 36 undef), (109, s.getD 37 undef), (110, s.getD 38 undef), (111, s.getD 39 undef), (112, s.getD 40 undef), (113, .bool true)]) (fun (s : List Value) (w' : World) => some ((0 : Int), (⟨#[]⟩ : ByteArray), ([] : List ByteArray), a1, false) = some (r1, r2, r3, r4, r5) ∧ Kd.R Kd.string 9 w' w.heap.size (fun _ => True) (.slice Ao52 t615.length co52) t615 ∧ w'.heap[gb601]? = some (.cells #[.int .i64 0, .string (⟨#[]⟩ : ByteArray)] 31 (0, 0)) ∧ w'.heap[gb620]? = some (.cells #[.int .i64 t609, .string t612] 31 (0, 0)) ∧ Below w.heap.size w w') ?_ ?_
       rotate_left
       ·intro hJ41
        refine join_ (σ := List Value) 16 (lb 67108863) (fun s => [(72, s.getD 0 undef), (73, s.getD 1 undef), (74, s.getD 2 undef), (75, s.getD 3 undef), (76, s.getD 4 undef), (77, s.getD 5 undef), (78, s.getD 6 undef), (79, s.getD 7 undef), (80, s.getD 8 undef), (81, s.getD 9 undef), (82, s.getD 10 undef), (83, s.getD 11 undef), (84, s.getD 12 undef), (85, s.getD 13 undef), (86, s.getD 14 undef), (87, s.getD 15 undef), (88, s.getD 16 undef), (89, s.getD 17 undef), (90, s.getD 18 undef), (91, s.getD 19 undef), (92, s.getD 20 undef), (93, s.getD 21 undef), (94, s.getD 22 undef), (95, s.getD 23 undef), (96, s.getD 24 undef), (97, .bool true)]) (fun (s : List Value) (w' : World) => some ((0 : Int), (⟨#[]⟩ : ByteArray), ([] : List ByteArray), a1, false) = some (r1, r2, r3, r4, r5) ∧ Kd.R Kd.string 9 w' w.heap.size (fun _ => True) (.slice Ao52 t615.length co52) t615 ∧ w'.heap[gb601]? = some (.cells #[.int .i64 0, .string (⟨#[]⟩ : ByteArray)] 31 (0, 0)) ∧ w'.heap[gb620]? = some (.cells #[.int .i64 t609, .string t612] 31 (0, 0)) ∧ Below w.heap.size w w') ?_ ?_
        rotate_left
        ·intro hJ25
         refine join_ (σ := List Value) 21 (lb 2097151) (fun s => [(72, s.getD 0 undef), (73, s.getD 1 undef), (74, s.getD 2 undef), (75, s.getD 3 undef), (76, s.getD 4 undef), (77, s.getD 5 undef), (78, s.getD 6 undef), (79, s.getD 7 undef), (80, s.getD 8 undef), (81, s.getD 9 undef), (82, s.getD 10 undef), (83, s.getD 11 undef), (84, s.getD 12 undef), (85, s.getD 13 undef), (86, s.getD 14 undef), (87, s.getD 15 undef), (88, s.getD 16 undef), (89, s.getD 17 undef), (90, s.getD 18 undef), (91, s.getD 19 undef), (92, .bool true)]) (fun (s : List Value) (w' : World) => some ((0 : Int), (⟨#[]⟩ : ByteArray), ([] : List ByteArray), a1, false) = some (r1, r2, r3, r4, r5) ∧ Kd.R Kd.string 9 w' w.heap.size (fun _ => True) (.slice Ao52 t615.length co52) t615 ∧ w'.heap[gb601]? = some (.cells #[.int .i64 0, .string (⟨#[]⟩ : ByteArray)] 31 (0, 0)) ∧ w'.heap[gb620]? = some (.cells #[.int .i64 t609, .string t612] 31 (0, 0)) ∧ Below w.heap.size w w') ?_ ?_
         rotate_left
         ·intro hJ20
          refine join_ (σ := List Value) 26 (lb 65535) (fun s => [(72, s.getD 0 undef), (73, s.getD 1 undef), (74, s.getD 2 undef), (75, s.getD 3 undef), (76, s.getD 4 undef), (77, s.getD 5 undef), (78, s.getD 6 undef), (79, s.getD 7 undef), (80, s.getD 8 undef), (81, s.getD 9 undef), (82, s.getD 10 undef), (83, s.getD 11 undef), (84, s.getD 12 undef), (85, s.getD 13 undef), (86, s.getD 14 undef), (87, .bool true)]) (fun (s : List Value) (w' : World) => some ((0 : Int), (⟨#[]⟩ : ByteArray), ([] : List ByteArray), a1, false) = some (r1, r2, r3, r4, r5) ∧ Kd.R Kd.string 9 w' w.heap.size (fun _ => True) (.slice Ao52 t615.length co52) t615 ∧ w'.heap[gb601]? = some (.cells #[.int .i64 0, .string (⟨#[]⟩ : ByteArray)] 31 (0, 0)) ∧ w'.heap[gb620]? = some (.cells #[.int .i64 t609, .string t612] 31 (0, 0)) ∧ Below w.heap.size w w') ?_ ?_
          rotate_left
          ·intro hJ15
           refine join_ (σ := List Value) 32 (lb 1023) (fun s => [(72, s.getD 0 undef), (73, s.getD 1 undef), (74, s.getD 2 undef), (75, s.getD 3 undef), (76, s.getD 4 undef), (77, s.getD 5 undef), (78, s.getD 6 undef), (79, s.getD 7 undef), (80, s.getD 8 undef), (81, .bool true)]) (fun (s : List Value) (w' : World) => some ((0 : Int), (⟨#[]⟩ : ByteArray), ([] : List ByteArray), a1, false) = some (r1, r2, r3, r4, r5) ∧ Kd.R Kd.string 9 w' w.heap.size (fun _ => True) (.slice Ao52 t615.length co52) t615 ∧ w'.heap[gb601]? = some (.cells #[.int .i64 0, .string (⟨#[]⟩ : ByteArray)] 31 (0, 0)) ∧ w'.heap[gb620]? = some (.cells #[.int .i64 t609, .string t612] 31 (0, 0)) ∧ Below w.heap.size w w') ?_ ?_
           rotate_left
           ·intro hJ9
            refine join_ (σ := List Value) 36 (lb 63) (fun s => [(72, s.getD 0 undef), (73, s.getD 1 undef), (74, s.getD 2 undef), (75, s.getD 3 undef), (76, s.getD 4 undef), (77, .bool true)]) (fun (s : List Value) (w' : World) => some ((0 : Int), (⟨#[]⟩ : ByteArray), ([] : List ByteArray), a1, false) = some (r1, r2, r3, r4, r5) ∧ Kd.R Kd.string 9 w' w.heap.size (fun _ => True) (.slice Ao52 t615.length co52) t615 ∧ w'.heap[gb601]? = some (.cells #[.int .i64 0, .string (⟨#[]⟩ : ByteArray)] 31 (0, 0)) ∧ w'.heap[gb620]? = some (.cells #[.int .i64 t609, .string t612] 31 (0, 0)) ∧ Below w.heap.size w w') ?_ ?_
            rotate_left
            ·intro hJ5
             cases t611 with
             | false =>
              rw [if_neg (by decide)] at H
              refine pure_ (i := 0) (N := some 72) (v := ?_) (a' := ?_) (lb 1) rfl rfl (any_of HT_.out (by kernel_rfl)) (fun _ _ _ h => h) (Or.inl ⟨by rfl, ?_⟩) ?_ ?_
              rotate_left
              ·intro w'
               go_simp
               with_reducible rfl
              rotate_left
              ·simp only [Act.put, sT, sZ, sS, i64_w, i32_w]
               rfl
              refine pure_ (i := 1) (N := some 73) (v := ?_) (a' := ?_) (lb 3) rfl rfl (any_of HT_.out (by kernel_rfl)) (fun _ _ _ h => h) (Or.inl ⟨by rfl, ?_⟩) ?_ ?_
              rotate_left
              ·intro w'
               go_simp
               with_reducible rfl
              rotate_left
              ·simp only [Act.put, sT, sZ, sS, i64_w, i32_w]
               rfl
              refine pure_ (i := 2) (N := some 74) (v := ?_) (a' := ?_) (lb 7) rfl rfl (any_of HT_.out (by kernel_rfl)) (fun _ _ _ h => h) (Or.inl ⟨by rfl, ?_⟩) ?_ ?_
              rotate_left
              ·intro w'
               go_simp
               with_reducible rfl
              rotate_left
              ·simp only [Act.put, sT, sZ, sS, i64_w, i32_w]
               rfl
              refine pure_ (i := 3) (N := some 75) (v := undef) (a' := ?_) (lb 15) rfl rfl (any_of HT_.out (by kernel_rfl)) (fun _ _ _ h => h) (Or.inr ⟨by rfl, rfl⟩) ?_ ?_
              rotate_left
              ·simp only [Act.put, sT, sZ, sS, i64_w, i32_w]
               rfl
              refine pure_ (i := 4) (N := some 76) (v := undef) (a' := ?_) (lb 31) rfl rfl (any_of HT_.out (by kernel_rfl)) (fun _ _ _ h => h) (Or.inr ⟨by rfl, rfl⟩) ?_ ?_
              rotate_left
              ·simp only [Act.put, sT, sZ, sS, i64_w, i32_w]
               rfl
              refine pure_ (i := 5) (N := some 77) (v := ?_) (a' := ?_) (lb 63) rfl rfl (any_of HT_.out (by kernel_rfl)) (fun _ _ _ h => h) (Or.inl ⟨by rfl, ?_⟩) ?_ ?_
              rotate_left
              ·intro w'
               go_simp
               with_reducible rfl
              rotate_left
              ·simp only [Act.put, sT, sZ, sS, i64_w, i32_w]
               rfl
              exact norm_ (by first | (simp only [putAll, Act.put, sT, sZ, sS, List.getD_cons_zero, List.getD_cons_succ]; done) | (simp only [putAll, Act.put, sT, sZ, sS, List.getD_cons_zero, List.getD_cons_succ]; rfl)) (hJ5 [_, _, _, _, _] _ ⟨H, (by (with_reducible repeat (first | apply Kd.R_alloc | apply Kd.R_drewN | apply Kd.R_drew)); exact HO619.out), (by (with_reducible repeat (first | refine blk_drewN ?_ _ | refine blk_drew ?_ | refine blk_alloc ?_ _)); exact BK601.out), (by (with_reducible repeat (first | refine blk_drewN ?_ _ | refine blk_drew ?_ | refine blk_alloc ?_ _)); exact BK620.out), (by repeat (first | (with_reducible first | exact HB.out | apply below_alloc | apply pw_below_drewN | apply below_drew1) | exact HB.out))⟩)
             | true =>
              rw [if_pos rfl] at H
              refine pure_ (i := 0) (N := some 72) (v := ?_) (a' := ?_) (lb 1) rfl rfl (any_of HT_.out (by kernel_rfl)) (fun _ _ _ h => h) (Or.inl ⟨by rfl, ?_⟩) ?_ ?_
              rotate_left
              ·intro w'
               go_simp
               with_reducible rfl
              rotate_left
              ·simp only [Act.put, sT, sZ, sS, i64_w, i32_w]
               rfl
              refine pure_ (i := 1) (N := some 73) (v := ?_) (a' := ?_) (lb 3) rfl rfl (any_of HT_.out (by kernel_rfl)) (fun _ _ _ h => h) (Or.inl ⟨by rfl, ?_⟩) ?_ ?_
              rotate_left
              ·intro w'
               go_simp
               with_reducible rfl
              rotate_left
              ·simp only [Act.put, sT, sZ, sS, i64_w, i32_w]
               rfl
              refine pure_ (i := 2) (N := some 74) (v := ?_) (a' := ?_) (lb 7) rfl rfl (any_of HT_.out (by kernel_rfl)) (fun _ _ _ h => h) (Or.inl ⟨by rfl, ?_⟩) ?_ ?_
              rotate_left
              ·intro w'
               go_simp
               with_reducible rfl
              rotate_left
              ·simp only [Act.put, sT, sZ, sS, i64_w, i32_w]
               rfl
              cases t614 with
              | false =>
               rw [if_neg (by decide)] at H
               refine pure_ (i := 3) (N := some 75) (v := ?_) (a' := ?_) (lb 15) rfl rfl (any_of HT_.out (by kernel_rfl)) (fun _ _ _ h => h) (Or.inl ⟨by rfl, ?_⟩) ?_ ?_
               rotate_left
               ·intro w'
                go_simp
                with_reducible rfl
               rotate_left
               ·simp only [Act.put, sT, sZ, sS, i64_w, i32_w]
                rfl
               refine pure_ (i := 4) (N := some 76) (v := ?_) (a' := ?_) (lb 31) rfl rfl (any_of HT_.out (by kernel_rfl)) (fun _ _ _ h => h) (Or.inl ⟨by rfl, ?_⟩) ?_ ?_
               rotate_left
               ·intro w'
                go_simp
                with_reducible rfl
               rotate_left
               ·simp only [Act.put, sT, sZ, sS, i64_w, i32_w]
                rfl
               refine pure_ (i := 5) (N := some 77) (v := ?_) (a' := ?_) (lb 63) rfl rfl (any_of HT_.out (by kernel_rfl)) (fun _ _ _ h => h) (Or.inl ⟨by rfl, ?_⟩) ?_ ?_
               rotate_left
               ·intro w'
                go_simp
                with_reducible rfl
               rotate_left
               ·simp only [Act.put, sT, sZ, sS, i64_w, i32_w]
                rfl
               exact norm_ (by first | (simp only [putAll, Act.put, sT, sZ, sS, List.getD_cons_zero, List.getD_cons_succ]; done) | (simp only [putAll, Act.put, sT, sZ, sS, List.getD_cons_zero, List.getD_cons_succ]; rfl)) (hJ5 [_, _, _, _, _] _ ⟨H, (by (with_reducible repeat (first | apply Kd.R_alloc | apply Kd.R_drewN | apply Kd.R_drew)); exact HO619.out), (by (with_reducible repeat (first | refine blk_drewN ?_ _ | refine blk_drew ?_ | refine blk_alloc ?_ _)); exact BK601.out), (by (with_reducible repeat (first | refine blk_drewN ?_ _ | refine blk_drew ?_ | refine blk_alloc ?_ _)); exact BK620.out), (by repeat (first | (with_reducible first | exact HB.out | apply below_alloc | apply pw_below_drewN | apply below_drew1) | exact HB.out))⟩)
              | true =>
               rw [if_pos rfl] at H
               refine pure_ (i := 3) (N := some 75) (v := ?_) (a' := ?_) (lb 15) rfl rfl (any_of HT_.out (by kernel_rfl)) (fun _ _ _ h => h) (Or.inl ⟨by rfl, ?_⟩) ?_ ?_
               rotate_left
               ·intro w'
                go_simp
                with_reducible rfl
               rotate_left
               ·simp only [Act.put, sT, sZ, sS, i64_w, i32_w]
                rfl
               refine pure_ (i := 4) (N := some 76) (v := ?_) (a' := ?_) (lb 31) rfl rfl (any_of HT_.out (by kernel_rfl)) (fun _ _ _ h => h) (Or.inl ⟨by rfl, ?_⟩) ?_ ?_
               rotate_left
               ·intro w'
                go_simp
                with_reducible rfl
               rotate_left
               ·simp only [Act.put, sT, sZ, sS, i64_w, i32_w]
                rfl
               refine pure_ (i := 5) (N := some 77) (v := ?_) (a' := ?_) (lb 63) rfl rfl (any_of HT_.out (by kernel_rfl)) (fun _ _ _ h => h) (Or.inl ⟨by rfl, ?_⟩) ?_ ?_
               rotate_left
               ·intro w'
                go_simp
                with_reducible rfl
               rotate_left
               ·simp only [Act.put, sT, sZ, sS, i64_w, i32_w]
                rfl
               cases t617 with
               | false =>
                rw [if_neg (by decide)] at H
                refine pure_ (i := 6) (N := some 78) (v := ?_) (a' := ?_) (lb 127) rfl rfl (any_of HT_.out (by kernel_rfl)) (fun _ _ _ h => h) (Or.inl ⟨by rfl, ?_⟩) ?_ ?_
                rotate_left
                ·intro w'
                 go_simp
                 with_reducible rfl
                rotate_left
                ·simp only [Act.put, sT, sZ, sS, i64_w, i32_w]
                 rfl
                refine pure_ (i := 7) (N := some 79) (v := ?_) (a' := ?_) (lb 255) rfl rfl (any_of HT_.out (by kernel_rfl)) (fun _ _ _ h => h) (Or.inl ⟨by rfl, ?_⟩) ?_ ?_
                rotate_left
                ·intro w'
                 go_simp
                 with_reducible rfl
                rotate_left
                ·simp only [Act.put, sT, sZ, sS, i64_w, i32_w]
                 rfl
                refine pure_ (i := 8) (N := some 80) (v := ?_) (a' := ?_) (lb 511) rfl rfl (any_of HT_.out (by kernel_rfl)) (fun _ _ _ h => h) (Or.inl ⟨by rfl, ?_⟩) ?_ ?_
                rotate_left
                ·intro w'
                 go_simp
                 with_reducible rfl
                rotate_left
                ·simp only [Act.put, sT, sZ, sS, i64_w, i32_w]
                 rfl
                refine pure_ (i := 9) (N := some 81) (v := ?_) (a' := ?_) (lb 1023) rfl rfl (any_of HT_.out (by kernel_rfl)) (fun _ _ _ h => h) (Or.inl ⟨by rfl, ?_⟩) ?_ ?_
                rotate_left
                ·intro w'
                 go_simp
                 with_reducible rfl
                rotate_left
                ·simp only [Act.put, sT, sZ, sS, i64_w, i32_w]
                 rfl
                exact norm_ (by first | (simp only [putAll, Act.put, sT, sZ, sS, List.getD_cons_zero, List.getD_cons_succ]; done) | (simp only [putAll, Act.put, sT, sZ, sS, List.getD_cons_zero, List.getD_cons_succ]; rfl)) (hJ9 [_, _, _, _, _, _, _, _, _] _ ⟨H, (by (with_reducible repeat (first | apply Kd.R_alloc | apply Kd.R_drewN | apply Kd.R_drew)); exact HO619.out), (by (with_reducible repeat (first | refine blk_drewN ?_ _ | refine blk_drew ?_ | refine blk_alloc ?_ _)); exact BK601.out), (by (with_reducible repeat (first | refine blk_drewN ?_ _ | refine blk_drew ?_ | refine blk_alloc ?_ _)); exact BK620.out), (by repeat (first | (with_reducible first | exact HB.out | apply below_alloc | apply pw_below_drewN | apply below_drew1) | exact HB.out))⟩)
               | true =>
                rw [if_pos rfl] at H
                refine pure_ (i := 6) (N := some 78) (v := ?_) (a' := ?_) (lb 127) rfl rfl (any_of HT_.out (by kernel_rfl)) (fun _ _ _ h => h) (Or.inl ⟨by rfl, ?_⟩) ?_ ?_
                rotate_left
                ·intro w'
                 go_simp
                 with_reducible rfl
                rotate_left
                ·simp only [Act.put, sT, sZ, sS, i64_w, i32_w]
                 rfl
                refine pure_ (i := 7) (N := some 79) (v := ?_) (a' := ?_) (lb 255) rfl rfl (any_of HT_.out (by kernel_rfl)) (fun _ _ _ h => h) (Or.inl ⟨by rfl, ?_⟩) ?_ ?_
                rotate_left
                ·intro w'
                 go_simp
                 with_reducible rfl
                rotate_left
                ·simp only [Act.put, sT, sZ, sS, i64_w, i32_w]
                 rfl
                refine pure_ (i := 8) (N := some 80) (v := ?_) (a' := ?_) (lb 511) rfl rfl (any_of HT_.out (by kernel_rfl)) (fun _ _ _ h => h) (Or.inl ⟨by rfl, ?_⟩) ?_ ?_
                rotate_left
                ·intro w'
                 go_simp
                 with_reducible rfl
                rotate_left
                ·simp only [Act.put, sT, sZ, sS, i64_w, i32_w]
                 rfl
                refine pure_ (i := 9) (N := some 81) (v := ?_) (a' := ?_) (lb 1023) rfl rfl (any_of HT_.out (by kernel_rfl)) (fun _ _ _ h => h) (Or.inl ⟨by rfl, ?_⟩) ?_ ?_
                rotate_left
                ·intro w'
                 go_simp
                 with_reducible rfl
                rotate_left
                ·simp only [Act.put, sT, sZ, sS, i64_w, i32_w]
                 rfl
                refine pure_ (i := 10) (N := some 82) (v := ?_) (a' := ?_) (lb 2047) rfl rfl (any_of HT_.out (by kernel_rfl)) (fun _ _ _ h => h) (Or.inl ⟨by rfl, ?_⟩) ?_ ?_
                rotate_left
                ·intro w'
                 go_simp
                 with_reducible rfl
                rotate_left
                ·simp only [Act.put, sT, sZ, sS, i64_w, i32_w]
                 rfl
                by_cases c20 : t616 = (((l0.take ((wrap64 (t603 + t602)) : Int).toNat).drop (t603 : Int).toNat).length : Int)
                ·rw [if_pos c20] at H
                 have c20b0 : (t616 == (((l0.take ((wrap64 (t603 + t602)) : Int).toNat).drop (t603 : Int).toNat).length : Int)) = true := beq_iff_eq.mpr c20
                 have c20b1 : (t616 != (((l0.take ((wrap64 (t603 + t602)) : Int).toNat).drop (t603 : Int).toNat).length : Int)) = false := bne_eq_false_iff_eq.mpr c20
                 have c20n0 := c20b0
                 rw [hlenq] at c20n0
                 have c20n1 := c20b1
                 rw [hlenq] at c20n1
                 refine pure_ (i := 11) (N := some 83) (v := ?_) (a' := ?_) (lb 4095) rfl rfl (any_of HT_.out (by kernel_rfl)) (fun _ _ _ h => h) (Or.inl ⟨by rfl, ?_⟩) ?_ ?_
                 rotate_left
                 ·intro w'
                  go_simp
                  with_reducible rfl
                 rotate_left
                 ·simp only [Act.put, sT, sZ, sS, i64_w, i32_w]
                  rfl
                 refine pure_ (i := 12) (N := some 84) (v := ?_) (a' := ?_) (lb 8191) rfl rfl (any_of HT_.out (by kernel_rfl)) (fun _ _ _ h => h) (Or.inl ⟨by rfl, ?_⟩) ?_ ?_
                 rotate_left
                 ·intro w'
                  go_simp
                  with_reducible rfl
                 rotate_left
                 ·simp only [Act.put, sT, sZ, sS, i64_w, i32_w]
                  rfl
                 refine pure_ (i := 13) (N := some 85) (v := ?_) (a' := ?_) (lb 16383) rfl rfl (any_of HT_.out (by kernel_rfl)) (fun _ _ _ h => h) (Or.inl ⟨by rfl, ?_⟩) ?_ ?_
                 rotate_left
                 ·intro w'
                  go_simp
                  with_reducible rfl
                 rotate_left
                 ·simp only [Act.put, sT, sZ, sS, i64_w, i32_w]
                  rfl
                 refine pure_ (i := 14) (N := some 86) (v := ?_) (a' := ?_) (lb 32767) rfl rfl (any_of HT_.out (by kernel_rfl)) (fun _ _ _ h => h) (Or.inl ⟨by rfl, ?_⟩) ?_ ?_
                 rotate_left
                 ·intro w'
                  go_simp
                  with_reducible rfl
                 rotate_left
                 ·simp only [Act.put, sT, sZ, sS, i64_w, i32_w]
                  rfl
                 refine pure_ (i := 15) (N := some 87) (v := ?_) (a' := ?_) (lb 65535) rfl rfl (any_of HT_.out (by kernel_rfl)) (fun _ _ _ h => h) (Or.inl ⟨by rfl, ?_⟩) ?_ ?_
                 rotate_left
                 ·intro w'
                  go_simp
                  with_reducible rfl
                 rotate_left
                 ·simp only [Act.put, sT, sZ, sS, i64_w, i32_w]
                  rfl
                 refine pure_ (i := 16) (N := some 88) (v := ?_) (a' := ?_) (lb 131071) rfl rfl (any_of HT_.out (by kernel_rfl)) (fun _ _ _ h => h) (Or.inl ⟨by rfl, ?_⟩) ?_ ?_
                 rotate_left
                 ·intro w'
                  go_simp
                  with_reducible rfl
                 rotate_left
                 ·simp only [Act.put, sT, sZ, sS, i64_w, i32_w]
                  rfl
                 replace H := Option.bind_eq_some_iff.mp H
                 obtain ⟨t621, A210, H⟩ := H
                 replace H : (if t621 = true then (if (t615.length : Int) = 0 then (some (0, (⟨#[]⟩ : ByteArray), (([] : List ByteArray)), a1, false)) else (if 0 ≤ (wrap64 (t603 + t602)) then (if (wrap64 (t603 + t602)) ≤ (wrap64 ((wrap64 (t603 + t602)) + 4)) then (if (wrap64 ((wrap64 (t603 + t602)) + 4)) ≤ (l0.length : Int) then ((spec_Digest.f kj3 ((l0.take ((wrap64 (t603 + t602)) : Int).toNat).drop (t603 : Int).toNat)).bind fun t626 => (if 0 ≤ 4 then (if 4 ≤ (t626.size : Int) then (if (strOfNums ((l0.take ((wrap64 ((wrap64 (t603 + t602)) + 4)) : Int).toNat).drop ((wrap64 (t603 + t602)) : Int).toNat)).toList = (t626.extract 0 4).toList then (some (t609, t612, t615, wrap64 ((wrap64 (t603 + t602)) + 4), true)) else (some (0, (⟨#[]⟩ : ByteArray), (([] : List ByteArray)), a1, false))) else (none)) else (none))) else (none)) else (none)) else (none))) else (some (0, (⟨#[]⟩ : ByteArray), (([] : List ByteArray)), a1, false))) = some (r1, r2, r3, r4, r5) := H
                 have A21 := Aside0.mk A210
                 clear A210
                 refine take_ (i := 17) (N := some 89) (v := ?_) (a' := ?_) (lb 262143) rfl rfl (take_ofW HT_.out HW_.out (by kernel_rfl)) (fun _ _ _ h => h) (Or.inl ⟨by rfl, ?_⟩) hHeld ?_ ?_
                 rotate_left
                 ·rintro w' ⟨s0, s1, s2⟩
                  go_simp
                  with_reducible rfl
                 rotate_left
                 ·simp only [Act.put, sT, sZ, sS, i64_w, i32_w]
                  rfl
                 refine one_ (i := 18) (N := some 90) (lb 524287) rfl rfl (one_of HT_.out (by kernel_rfl)) (by decide) (fun K hK => ?_)
                 refine goes_ Try.func38 (by kernel_rfl) rfl #[.agg #[.int .i64 t609, .string t612]] (by rfl) rfl rfl (by (try simp only [List.map_toArray, List.map_cons, List.map_nil]); first | done | (rw [hlenq] <;> rfl) | rfl) ?_
                 with_reducible refine (spec_HeadOk.calls t609 t612 t621 _ A21.out).mono ?_
                 rintro e w51 ⟨rfl, hb⟩
                 refine ⟨_, rfl, ?_⟩
                 have n0_ := Aside0.mk (Kd.R_below (by (with_reducible repeat (first | apply Kd.R_alloc | apply Kd.R_drewN | apply Kd.R_drew)); exact HO619.out) hb)
                 have n1_ := Aside0.mk (blk_below BK601.out hb)
                 have n2_ := Aside0.mk (blk_below BK620.out hb)
                 have n3_ := Aside0.mk (below_step HB.out hb)
                 clear HO619 BK601 BK620 HB
                 have HO619 := n0_
                 have BK601 := n1_
                 have BK620 := n2_
                 have HB := n3_
                 clear n0_ n1_ n2_ n3_
                 (try clear hb)
                 refine hK.out _ _ ⟨(blk_cell BK620.out 0).trans rfl, (blk_cell BK620.out 1).trans rfl, Kd.C_below HR0.out HB.out⟩ (fun hHeld => ?_)
                 clear hK K
                 refine norm_ (a' := ?_) ?_ ?_
                 rotate_left
                 ·show Act.put _ (some 90) _ = _
                  simp only [Act.put, sT, sZ, sS, i64_w, i32_w]
                  rfl
                 cases t621 with
                 | false =>
                  rw [if_neg (by decide)] at H
                  refine pure_ (i := 19) (N := some 91) (v := ?_) (a' := ?_) (lb 1048575) rfl rfl (any_of HT_.out (by kernel_rfl)) (fun _ _ _ h => h) (Or.inl ⟨by rfl, ?_⟩) ?_ ?_
                  rotate_left
                  ·intro w'
                   go_simp
                   with_reducible rfl
                  rotate_left
                  ·simp only [Act.put, sT, sZ, sS, i64_w, i32_w]
                   rfl
                  refine pure_ (i := 20) (N := some 92) (v := ?_) (a' := ?_) (lb 2097151) rfl rfl (any_of HT_.out (by kernel_rfl)) (fun _ _ _ h => h) (Or.inl ⟨by rfl, ?_⟩) ?_ ?_
                  rotate_left
                  ·intro w'
                   go_simp
                   with_reducible rfl
                  rotate_left
                  ·simp only [Act.put, sT, sZ, sS, i64_w, i32_w]
                   rfl
                  exact norm_ (by first | (simp only [putAll, Act.put, sT, sZ, sS, List.getD_cons_zero, List.getD_cons_succ]; done) | (simp only [putAll, Act.put, sT, sZ, sS, List.getD_cons_zero, List.getD_cons_succ]; rfl)) (hJ20 [_, _, _, _, _, _, _, _, _, _, _, _, _, _, _, _, _, _, _, _] _ ⟨H, (by (with_reducible repeat (first | apply Kd.R_alloc | apply Kd.R_drewN | apply Kd.R_drew)); exact HO619.out), (by (with_reducible repeat (first | refine blk_drewN ?_ _ | refine blk_drew ?_ | refine blk_alloc ?_ _)); exact BK601.out), (by (with_reducible repeat (first | refine blk_drewN ?_ _ | refine blk_drew ?_ | refine blk_alloc ?_ _)); exact BK620.out), (by repeat (first | (with_reducible first | exact HB.out | apply below_alloc | apply pw_below_drewN | apply below_drew1) | exact HB.out))⟩)
                 | true =>
                  rw [if_pos rfl] at H
                  refine pure_ (i := 19) (N := some 91) (v := ?_) (a' := ?_) (lb 1048575) rfl rfl (any_of HT_.out (by kernel_rfl)) (fun _ _ _ h => h) (Or.inl ⟨by rfl, ?_⟩) ?_ ?_
                  rotate_left
                  ·intro w'
                   go_simp
                   with_reducible rfl
                  rotate_left
                  ·simp only [Act.put, sT, sZ, sS, i64_w, i32_w]
                   rfl
                  refine pure_ (i := 20) (N := some 92) (v := ?_) (a' := ?_) (lb 2097151) rfl rfl (any_of HT_.out (by kernel_rfl)) (fun _ _ _ h => h) (Or.inl ⟨by rfl, ?_⟩) ?_ ?_
                  rotate_left
                  ·intro w'
                   go_simp
                   with_reducible rfl
                  rotate_left
                  ·simp only [Act.put, sT, sZ, sS, i64_w, i32_w]
                   rfl
                  refine pure_ (i := 21) (N := some 93) (v := ?_) (a' := ?_) (lb 4194303) rfl rfl (any_of HT_.out (by kernel_rfl)) (fun _ _ _ h => h) (Or.inl ⟨by rfl, ?_⟩) ?_ ?_
                  rotate_left
                  ·intro w'
                   go_simp
                   with_reducible rfl
                  rotate_left
                  ·simp only [Act.put, sT, sZ, sS, i64_w, i32_w]
                   rfl
                  by_cases c23 : (t615.length : Int) = 0
                  ·rw [if_pos c23] at H
                   have c23b0 : ((t615.length : Int) == 0) = true := beq_iff_eq.mpr c23
                   have c23b1 : ((t615.length : Int) != 0) = false := bne_eq_false_iff_eq.mpr c23
                   have c23b2 : t615 = [] := List.eq_nil_of_length_eq_zero (by omega)
                   refine pure_ (i := 22) (N := some 94) (v := ?_) (a' := ?_) (lb 8388607) rfl rfl (any_of HT_.out (by kernel_rfl)) (fun _ _ _ h => h) (Or.inl ⟨by rfl, ?_⟩) ?_ ?_
                   rotate_left
                   ·intro w'
                    go_simp
                    with_reducible rfl
                   rotate_left
                   ·simp only [Act.put, sT, sZ, sS, i64_w, i32_w]
                    rfl
                   refine pure_ (i := 23) (N := some 95) (v := ?_) (a' := ?_) (lb 16777215) rfl rfl (any_of HT_.out (by kernel_rfl)) (fun _ _ _ h => h) (Or.inl ⟨by rfl, ?_⟩) ?_ ?_
                   rotate_left
                   ·intro w'
                    go_simp
                    with_reducible rfl
                   rotate_left
                   ·simp only [Act.put, sT, sZ, sS, i64_w, i32_w]
                    rfl
                   refine pure_ (i := 24) (N := some 96) (v := ?_) (a' := ?_) (lb 33554431) rfl rfl (any_of HT_.out (by kernel_rfl)) (fun _ _ _ h => h) (Or.inl ⟨by rfl, ?_⟩) ?_ ?_
                   rotate_left
                   ·intro w'
                    go_simp
                    with_reducible rfl
                   rotate_left
                   ·simp only [Act.put, sT, sZ, sS, i64_w, i32_w]
                    rfl
                   refine pure_ (i := 25) (N := some 97) (v := ?_) (a' := ?_) (lb 67108863) rfl rfl (any_of HT_.out (by kernel_rfl)) (fun _ _ _ h => h) (Or.inl ⟨by rfl, ?_⟩) ?_ ?_
                   rotate_left
                   ·intro w'
                    go_simp
                    with_reducible rfl
                   rotate_left
                   ·simp only [Act.put, sT, sZ, sS, i64_w, i32_w]
                    rfl
                   exact norm_ (by first | (simp only [putAll, Act.put, sT, sZ, sS, List.getD_cons_zero, List.getD_cons_succ]; done) | (simp only [putAll, Act.put, sT, sZ, sS, List.getD_cons_zero, List.getD_cons_succ]; rfl)) (hJ25 [_, _, _, _, _, _, _, _, _, _, _, _, _, _, _, _, _, _, _, _, _, _, _, _, _] _ ⟨H, (by (with_reducible repeat (first | apply Kd.R_alloc | apply Kd.R_drewN | apply Kd.R_drew)); exact HO619.out), (by (with_reducible repeat (first | refine blk_drewN ?_ _ | refine blk_drew ?_ | refine blk_alloc ?_ _)); exact BK601.out), (by (with_reducible repeat (first | refine blk_drewN ?_ _ | refine blk_drew ?_ | refine blk_alloc ?_ _)); exact BK620.out), (by repeat (first | (with_reducible first | exact HB.out | apply below_alloc | apply pw_below_drewN | apply below_drew1) | exact HB.out))⟩)
                  ·rw [if_neg c23] at H
                   have c23b0 : ((t615.length : Int) == 0) = false := beq_eq_false_iff_ne.mpr c23
                   have c23b1 : ((t615.length : Int) != 0) = true := bne_iff_ne.mpr c23
                   have c23b2 : ¬ (t615 = []) := fun h_ => c23 (by rw [h_]; rfl)
                   refine pure_ (i := 22) (N := some 94) (v := ?_) (a' := ?_) (lb 8388607) rfl rfl (any_of HT_.out (by kernel_rfl)) (fun _ _ _ h => h) (Or.inl ⟨by rfl, ?_⟩) ?_ ?_
                   rotate_left
                   ·intro w'
                    go_simp
                    with_reducible rfl
                   rotate_left
                   ·simp only [Act.put, sT, sZ, sS, i64_w, i32_w]
                    rfl
                   refine pure_ (i := 23) (N := some 95) (v := ?_) (a' := ?_) (lb 16777215) rfl rfl (any_of HT_.out (by kernel_rfl)) (fun _ _ _ h => h) (Or.inl ⟨by rfl, ?_⟩) ?_ ?_
                   rotate_left
                   ·intro w'
                    go_simp
                    with_reducible rfl
                   rotate_left
                   ·simp only [Act.put, sT, sZ, sS, i64_w, i32_w]
                    rfl
                   refine pure_ (i := 24) (N := some 96) (v := ?_) (a' := ?_) (lb 33554431) rfl rfl (any_of HT_.out (by kernel_rfl)) (fun _ _ _ h => h) (Or.inl ⟨by rfl, ?_⟩) ?_ ?_
                   rotate_left
                   ·intro w'
                    go_simp
                    with_reducible rfl
                   rotate_left
                   ·simp only [Act.put, sT, sZ, sS, i64_w, i32_w]
                    rfl
                   refine pure_ (i := 25) (N := some 97) (v := ?_) (a' := ?_) (lb 67108863) rfl rfl (any_of HT_.out (by kernel_rfl)) (fun _ _ _ h => h) (Or.inl ⟨by rfl, ?_⟩) ?_ ?_
                   rotate_left
                   ·intro w'
                    go_simp
                    with_reducible rfl
                   rotate_left
                   ·simp only [Act.put, sT, sZ, sS, i64_w, i32_w]
                    rfl
                   refine pure_ (i := 26) (N := some 98) (v := ?_) (a' := ?_) (lb 134217727) rfl rfl (any_of HT_.out (by kernel_rfl)) (fun _ _ _ h => h) (Or.inl ⟨by rfl, ?_⟩) ?_ ?_
                   rotate_left
                   ·intro w'
                    go_simp
                    with_reducible rfl
                   rotate_left
                   ·simp only [Act.put, sT, sZ, sS, i64_w, i32_w]
                    rfl
                   by_cases c37 : 0 ≤ (wrap64 (t603 + t602))
                   ·rw [if_pos c37] at H
                    have c37b0 := eq_true c37
                    have c37b1 : decide (0 ≤ (wrap64 (t603 + t602))) = true := decide_eq_true c37
                    by_cases c38 : (wrap64 (t603 + t602)) ≤ (wrap64 ((wrap64 (t603 + t602)) + 4))
                    ·rw [if_pos c38] at H
                     have c38b0 := eq_true c38
                     have c38b1 : decide ((wrap64 (t603 + t602)) ≤ (wrap64 ((wrap64 (t603 + t602)) + 4))) = true := decide_eq_true c38
                     by_cases c39 : (wrap64 ((wrap64 (t603 + t602)) + 4)) ≤ (l0.length : Int)
                     ·rw [if_pos c39] at H
                      have c39b0 := eq_true c39
                      have c39b1 : decide ((wrap64 ((wrap64 (t603 + t602)) + 4)) ≤ (l0.length : Int)) = true := decide_eq_true c39
                      obtain ⟨t626, A400, H⟩ := Option.bind_eq_some_iff.mp H
                      have A40 := Aside0.mk A400
                      clear A400
                      rw [if_pos (by decide)] at H
                      by_cases c42 : 4 ≤ (t626.size : Int)
                      ·rw [if_pos c42] at H
                       have c41b0 := eq_true (show (0 : Int) ≤ 4 by decide)
                       have c41b1 : decide ((0 : Int) ≤ 4) = true := by decide
                       have c42b0 := eq_true c42
                       have c42b1 : decide (4 ≤ (t626.size : Int)) = true := decide_eq_true c42
                       obtain ⟨i053, hi053, _, hsz53, _⟩ := info_parts info5
                       obtain ⟨A53, hcut53, hA53, hC53⟩ := print_mid_of (P := Try.prog) (Value.int .u8) 0 29 5 .i64 .i64 Try.underlying29 hi053 hsz53 A0 c0 l0 (wrap64 (t603 + t602)) (wrap64 ((wrap64 (t603 + t602)) + 4)) c37 c38 c39 HC0.out
                       have hleno : ((l0.take ((wrap64 ((wrap64 (t603 + t602)) + 4)) : Int).toNat).drop ((wrap64 (t603 + t602)) : Int).toNat).length = ((wrap64 ((wrap64 (t603 + t602)) + 4)).toNat - (wrap64 (t603 + t602)).toNat) := by rw [List.length_drop, List.length_take]; omega
                       have hcut54 := hcut53
                       simp only [hleno] at hcut54
                       clear hi053 hsz53 hC53
                       refine pure_ (i := 27) (N := some 99) (v := ?_) (a' := ?_) (lb 268435455) rfl rfl (any_of HT_.out (by kernel_rfl)) (fun _ _ _ h => h) (Or.inl ⟨by rfl, ?_⟩) ?_ ?_
                       rotate_left
                       ·intro w'
                        go_simp
                        with_reducible rfl
                       rotate_left
                       ·simp only [Act.put, sT, sZ, sS, i64_w, i32_w]
                        rfl
                       refine pure_ (i := 28) (N := some 100) (v := ?_) (a' := ?_) (lb 536870911) rfl rfl (any_of HT_.out (by kernel_rfl)) (fun _ _ _ h => h) (Or.inl ⟨by rfl, ?_⟩) ?_ ?_
                       rotate_left
                       ·intro w'
                        go_simp
                        with_reducible rfl
                       rotate_left
                       ·simp only [Act.put, sT, sZ, sS, i64_w, i32_w]
                        rfl
                       refine pure_ (i := 29) (N := some 101) (v := ?_) (a' := ?_) (lb 1073741823) rfl rfl (any_of HT_.out (by kernel_rfl)) (fun _ _ _ h => h) (Or.inl ⟨by rfl, ?_⟩) ?_ ?_
                       rotate_left
                       ·intro w'
                        go_simp
                        with_reducible rfl
                       rotate_left
                       ·simp only [Act.put, sT, sZ, sS, i64_w, i32_w]
                        rfl
                       refine pure_ (i := 30) (N := some 102) (v := ?_) (a' := ?_) (lb 2147483647) rfl rfl (any_of HT_.out (by kernel_rfl)) (fun _ _ _ h => h) (Or.inl ⟨by rfl, ?_⟩) ?_ ?_
                       rotate_left
                       ·intro w'
                        go_simp
                        with_reducible rfl
                       rotate_left
                       ·simp only [Act.put, sT, sZ, sS, i64_w, i32_w]
                        rfl
                       refine pure_ (i := 31) (N := some 103) (v := ?_) (a' := ?_) (lb 4294967295) rfl rfl (any_of HT_.out (by kernel_rfl)) (fun _ _ _ h => h) (Or.inl ⟨by rfl, ?_⟩) ?_ ?_
                       rotate_left
                       ·intro w'
                        go_simp
                        with_reducible rfl
                       rotate_left
                       ·simp only [Act.put, sT, sZ, sS, i64_w, i32_w]
                        rfl
                       refine pure_ (i := 32) (N := some 104) (v := ?_) (a' := ?_) (lb 8589934591) rfl rfl (any_of HT_.out (by kernel_rfl)) (fun _ _ _ h => h) (Or.inl ⟨by rfl, ?_⟩) ?_ ?_
                       rotate_left
                       ·intro w'
                        go_simp
                        with_reducible rfl
                       rotate_left
                       ·simp only [Act.put, sT, sZ, sS, i64_w, i32_w]
                        rfl
                       refine pure_ (i := 33) (N := some 105) (v := ?_) (a' := ?_) (lb 17179869183) rfl rfl (any_of HT_.out (by kernel_rfl)) (fun _ _ _ h => h) (Or.inl ⟨by rfl, ?_⟩) ?_ ?_
                       rotate_left
                       ·intro w'
                        go_simp
                        with_reducible rfl
                       rotate_left
                       ·simp only [Act.put, sT, sZ, sS, i64_w, i32_w]
                        rfl
                       refine pure_ (i := 34) (N := some 106) (v := ?_) (a' := ?_) (lb 34359738367) rfl rfl (any_of HT_.out (by kernel_rfl)) (fun _ _ _ h => h) (Or.inl ⟨by rfl, ?_⟩) ?_ ?_
                       rotate_left
                       ·intro w'
                        go_simp
                        with_reducible rfl
                       rotate_left
                       ·simp only [Act.put, sT, sZ, sS, i64_w, i32_w]
                        rfl
                       refine pure_ (i := 35) (N := some 107) (v := ?_) (a' := ?_) (lb 68719476735) rfl rfl (any_of HT_.out (by kernel_rfl)) (fun _ _ _ h => h) (Or.inl ⟨by rfl, ?_⟩) ?_ ?_
                       rotate_left
                       ·intro w'
                        go_simp
                        with_reducible rfl
                       rotate_left
                       ·simp only [Act.put, sT, sZ, sS, i64_w, i32_w]
                        rfl
                       refine take_ (i := 36) (N := some 108) (v := ?_) (a' := ?_) (lb 137438953471) rfl rfl (take_ofW HT_.out HW_.out (by kernel_rfl)) (fun _ _ _ h => h) (Or.inl ⟨by rfl, ?_⟩) hHeld ?_ ?_
                       rotate_left
                       ·rintro w' ⟨s0, s1, s2⟩
                        have hcv := Kd.C_string (P := Try.prog) (A := A53) (c := (c0 - (wrap64 (t603 + t602)).toNat)) Try.underlying29 Try.underlying5 Try.underlying9 (Kd.C_of_reads (h1 := fun _ => rfl) (hA53 _ (Kd.reads_of_C s2)))
                        have hcw := hcv
                        rw [hleno] at hcw
                        go_simp
                        with_reducible rfl
                       rotate_left
                       ·simp only [Act.put, sT, sZ, sS, i64_w, i32_w]
                        rfl
                       refine pure_ (i := 37) (N := some 109) (v := ?_) (a' := ?_) (lb 274877906943) rfl rfl (any_of HT_.out (by kernel_rfl)) (fun _ _ _ h => h) (Or.inl ⟨by rfl, ?_⟩) ?_ ?_
                       rotate_left
                       ·intro w'
                        go_simp
                        with_reducible rfl
                       rotate_left
                       ·simp only [Act.put, sT, sZ, sS, i64_w, i32_w]
                        rfl
                       refine one_ (i := 38) (N := some 110) (lb 549755813887) rfl rfl (one_of HT_.out (by kernel_rfl)) (by decide) (fun K hK => ?_)
                       refine goes_ Try.func92 (by kernel_rfl) rfl #[.slice A116 ((l0.take ((wrap64 (t603 + t602)) : Int).toNat).drop (t603 : Int).toNat).length (c0 - t603.toNat)] (by rfl) rfl rfl (by (try simp only [List.map_toArray, List.map_cons, List.map_nil]); first | done | (rw [hlenq] <;> rfl) | rfl) ?_
                       with_reducible refine (spec_Digest.calls kj3 _ _ ((l0.take ((wrap64 (t603 + t602)) : Int).toNat).drop (t603 : Int).toNat) t626 _ ?side1 ?side2 A40.out).mono ?_
                       (case side1 => repeat (first | exact (Kd.C_below HR608.out HB.out) | (with_reducible refine Kd.C_alloc ?_ _) | (with_reducible refine Kd.C_drewN ?_ _) | (with_reducible refine Kd.C_drew ?_)))
                       (case side2 => exact HC608.out)
                       rintro e w55 ⟨rfl, hb⟩
                       refine ⟨_, rfl, ?_⟩
                       have n0_ := Aside0.mk (Kd.R_below (by (with_reducible repeat (first | apply Kd.R_alloc | apply Kd.R_drewN | apply Kd.R_drew)); exact HO619.out) hb)
                       have n1_ := Aside0.mk (blk_below BK601.out hb)
                       have n2_ := Aside0.mk (blk_below BK620.out hb)
                       have n3_ := Aside0.mk (below_step HB.out hb)
                       clear HO619 BK601 BK620 HB
                       have HO619 := n0_
                       have BK601 := n1_
                       have BK620 := n2_
                       have HB := n3_
                       clear n0_ n1_ n2_ n3_
                       (try clear hb)
                       refine hK.out _ _ ⟨(blk_cell BK620.out 0).trans rfl, (blk_cell BK620.out 1).trans rfl, Kd.C_below HR0.out HB.out⟩ (fun hHeld => ?_)
                       clear hK K
                       refine norm_ (a' := ?_) ?_ ?_
                       rotate_left
                       ·show Act.put _ (some 110) _ = _
                        simp only [Act.put, sT, sZ, sS, i64_w, i32_w]
                        rfl
                       by_cases c43 : (strOfNums ((l0.take ((wrap64 ((wrap64 (t603 + t602)) + 4)) : Int).toNat).drop ((wrap64 (t603 + t602)) : Int).toNat)).toList = (t626.extract 0 4).toList
                       ·rw [if_pos c43] at H
                        have c43b0 : ((strOfNums ((l0.take ((wrap64 ((wrap64 (t603 + t602)) + 4)) : Int).toNat).drop ((wrap64 (t603 + t602)) : Int).toNat)).toList == (t626.extract 0 4).toList) = true := beq_iff_eq.mpr c43
                        have c43b1 : ((strOfNums ((l0.take ((wrap64 ((wrap64 (t603 + t602)) + 4)) : Int).toNat).drop ((wrap64 (t603 + t602)) : Int).toNat)).toList != (t626.extract 0 4).toList) = false := bne_eq_false_iff_eq.mpr c43
                        clear c43
                        simp only [Option.some.injEq, Prod.mk.injEq] at H
                        obtain ⟨rfl, rfl, rfl, rfl, rfl⟩ := H
                        refine pure_ (i := 39) (N := some 111) (v := ?_) (a' := ?_) (lb 1099511627775) rfl rfl (any_of HT_.out (by kernel_rfl)) (fun _ _ _ h => h) (Or.inl ⟨by rfl, ?_⟩) ?_ ?_
                        rotate_left
                        ·intro w'
                         go_simp
                         with_reducible rfl
                        rotate_left
                        ·simp only [Act.put, sT, sZ, sS, i64_w, i32_w]
                         rfl
                        refine pure_ (i := 40) (N := some 112) (v := ?_) (a' := ?_) (lb 2199023255551) rfl rfl (any_of HT_.out (by kernel_rfl)) (fun _ _ _ h => h) (Or.inl ⟨by rfl, ?_⟩) ?_ ?_
                        rotate_left
                        ·intro w'
                         go_simp
                         with_reducible rfl
                        rotate_left
                        ·simp only [Act.put, sT, sZ, sS, i64_w, i32_w]
                         rfl
                        refine pure_ (i := 41) (N := some 113) (v := ?_) (a' := ?_) (lb 4398046511103) rfl rfl (any_of HT_.out (by kernel_rfl)) (fun _ _ _ h => h) (Or.inl ⟨by rfl, ?_⟩) ?_ ?_
                        rotate_left
                        ·intro w'
                         go_simp
                         with_reducible rfl
                        rotate_left
                        ·simp only [Act.put, sT, sZ, sS, i64_w, i32_w]
                         rfl
                        refine done_ (done_of HT_.out (by kernel_rfl)) ?_
                        have hcz57_0 : w55.cell? ⟨gb620, 0, none⟩ = some (.int .i64 t609) := (blk_cell BK620.out 0).trans rfl
                        have hcz57_1 : w55.cell? ⟨gb620, 1, none⟩ = some (.string t612) := (blk_cell BK620.out 1).trans rfl
                        have hfz57_0 := blk_frozen BK620.out 0
                        have hfz57_1 := blk_frozen BK620.out 1
                        have hcz58_0 : w55.cell? ⟨gb601, 0, none⟩ = some (.int .i64 0) := (blk_cell BK601.out 0).trans rfl
                        have hcz58_1 : w55.cell? ⟨gb601, 1, none⟩ = some (.string (⟨#[]⟩ : ByteArray)) := (blk_cell BK601.out 1).trans rfl
                        have hfz58_0 := blk_frozen BK601.out 0
                        have hfz58_1 := blk_frozen BK601.out 1
                        try go_wp2
                        refine bodyPost_ret (results_list (rs := [.cell 4 31, .tmp 5, .tmp 6, .tmp 7]) rfl (by simp) (.cell gb601 31 #[.int .i64 t609, .string t612] (0, 0) _ rfl (by (with_reducible repeat (first | refine blk_drewN ?_ _ | refine blk_drew ?_ | refine blk_alloc ?_ _)); refine blk_put (cs := #[.int .i64 t609, .string (⟨#[]⟩ : ByteArray)]) ?_ 1 _ rfl; (with_reducible repeat (first | refine blk_drewN ?_ _ | refine blk_drew ?_ | refine blk_alloc ?_ _)); refine blk_put (cs := #[.int .i64 0, .string (⟨#[]⟩ : ByteArray)]) ?_ 0 _ rfl; (with_reducible repeat (first | refine blk_drewN ?_ _ | refine blk_drew ?_ | refine blk_alloc ?_ _)); exact BK601.out) Try.underlying31 rfl (by kernel_rfl) (.tmp (.tmp (.tmp .nil))))) rfl ?_
                        exact ⟨_, by first | rfl | (simp [errW_none, errW_some] <;> rfl) | (first | rfl | (simp [errW_none, errW_some] <;> rfl)) | (simp [*, errW_none, errW_some] <;> rfl), by (with_reducible repeat (first | apply Kd.R_alloc | apply Kd.R_drewN | apply Kd.R_drew)); exact Kd.R_mono (Kd.R_far (p := ⟨gb601, 1, none⟩) (Kd.R_far (p := ⟨gb601, 0, none⟩) (Kd.R_types HO619.out BK601.out (by decide)) (fun _ hk => hk.2) (.int .i64 t609)) (fun _ hk => hk.2) (.string t612)) (fun _ hk => trivial), by repeat (first | (with_reducible first | exact HB.out | apply below_alloc | apply pw_below_drewN | apply below_drew1 | refine below_set ?_ GE601.out | refine below_set ?_ GE620.out) | exact HB.out)⟩
                       ·rw [if_neg c43] at H
                        have c43b0 : ((strOfNums ((l0.take ((wrap64 ((wrap64 (t603 + t602)) + 4)) : Int).toNat).drop ((wrap64 (t603 + t602)) : Int).toNat)).toList == (t626.extract 0 4).toList) = false := beq_eq_false_iff_ne.mpr c43
                        have c43b1 : ((strOfNums ((l0.take ((wrap64 ((wrap64 (t603 + t602)) + 4)) : Int).toNat).drop ((wrap64 (t603 + t602)) : Int).toNat)).toList != (t626.extract 0 4).toList) = true := bne_iff_ne.mpr c43
                        refine pure_ (i := 39) (N := some 111) (v := ?_) (a' := ?_) (lb 1099511627775) rfl rfl (any_of HT_.out (by kernel_rfl)) (fun _ _ _ h => h) (Or.inl ⟨by rfl, ?_⟩) ?_ ?_
                        rotate_left
                        ·intro w'
                         go_simp
                         with_reducible rfl
                        rotate_left
                        ·simp only [Act.put, sT, sZ, sS, i64_w, i32_w]
                         rfl
                        refine pure_ (i := 40) (N := some 112) (v := ?_) (a' := ?_) (lb 2199023255551) rfl rfl (any_of HT_.out (by kernel_rfl)) (fun _ _ _ h => h) (Or.inl ⟨by rfl, ?_⟩) ?_ ?_
                        rotate_left
                        ·intro w'
                         go_simp
                         with_reducible rfl
                        rotate_left
                        ·simp only [Act.put, sT, sZ, sS, i64_w, i32_w]
                         rfl
                        refine pure_ (i := 41) (N := some 113) (v := ?_) (a' := ?_) (lb 4398046511103) rfl rfl (any_of HT_.out (by kernel_rfl)) (fun _ _ _ h => h) (Or.inl ⟨by rfl, ?_⟩) ?_ ?_
                        rotate_left
                        ·intro w'
                         go_simp
                         with_reducible rfl
                        rotate_left
                        ·simp only [Act.put, sT, sZ, sS, i64_w, i32_w]
                         rfl
                        exact norm_ (by first | (simp only [putAll, Act.put, sT, sZ, sS, List.getD_cons_zero, List.getD_cons_succ]; done) | (simp only [putAll, Act.put, sT, sZ, sS, List.getD_cons_zero, List.getD_cons_succ]; rfl)) (hJ41 [_, _, _, _, _, _, _, _, _, _, _, _, _, _, _, _, _, _, _, _, _, _, _, _, _, _, _, _, _, _, _, _, _, _, _, _, _, _, _, _, _] _ ⟨H, (by (with_reducible repeat (first | apply Kd.R_alloc | apply Kd.R_drewN | apply Kd.R_drew)); exact HO619.out), (by (with_reducible repeat (first | refine blk_drewN ?_ _ | refine blk_drew ?_ | refine blk_alloc ?_ _)); exact BK601.out), (by (with_reducible repeat (first | refine blk_drewN ?_ _ | refine blk_drew ?_ | refine blk_alloc ?_ _)); exact BK620.out), (by repeat (first | (with_reducible first | exact HB.out | apply below_alloc | apply pw_below_drewN | apply below_drew1) | exact HB.out))⟩)
                      ·rw [if_neg c42] at H
                       exact absurd H (by simp)
                     ·rw [if_neg c39] at H
                      exact absurd H (by simp)
                    ·rw [if_neg c38] at H
                     exact absurd H (by simp)
                   ·rw [if_neg c37] at H
                    exact absurd H (by simp)
                ·rw [if_neg c20] at H
                 have c20b0 : (t616 == (((l0.take ((wrap64 (t603 + t602)) : Int).toNat).drop (t603 : Int).toNat).length : Int)) = false := beq_eq_false_iff_ne.mpr c20
                 have c20b1 : (t616 != (((l0.take ((wrap64 (t603 + t602)) : Int).toNat).drop (t603 : Int).toNat).length : Int)) = true := bne_iff_ne.mpr c20
                 have c20n0 := c20b0
                 rw [hlenq] at c20n0
                 have c20n1 := c20b1
                 rw [hlenq] at c20n1
                 refine pure_ (i := 11) (N := some 83) (v := ?_) (a' := ?_) (lb 4095) rfl rfl (any_of HT_.out (by kernel_rfl)) (fun _ _ _ h => h) (Or.inl ⟨by rfl, ?_⟩) ?_ ?_
                 rotate_left
                 ·intro w'
                  go_simp
                  with_reducible rfl
                 rotate_left
                 ·simp only [Act.put, sT, sZ, sS, i64_w, i32_w]
                  rfl
                 refine pure_ (i := 12) (N := some 84) (v := ?_) (a' := ?_) (lb 8191) rfl rfl (any_of HT_.out (by kernel_rfl)) (fun _ _ _ h => h) (Or.inl ⟨by rfl, ?_⟩) ?_ ?_
                 rotate_left
                 ·intro w'
                  go_simp
                  with_reducible rfl
                 rotate_left
                 ·simp only [Act.put, sT, sZ, sS, i64_w, i32_w]
                  rfl
                 refine pure_ (i := 13) (N := some 85) (v := ?_) (a' := ?_) (lb 16383) rfl rfl (any_of HT_.out (by kernel_rfl)) (fun _ _ _ h => h) (Or.inl ⟨by rfl, ?_⟩) ?_ ?_
                 rotate_left
                 ·intro w'
                  go_simp
                  with_reducible rfl
                 rotate_left
                 ·simp only [Act.put, sT, sZ, sS, i64_w, i32_w]
                  rfl
                 refine pure_ (i := 14) (N := some 86) (v := ?_) (a' := ?_) (lb 32767) rfl rfl (any_of HT_.out (by kernel_rfl)) (fun _ _ _ h => h) (Or.inl ⟨by rfl, ?_⟩) ?_ ?_
                 rotate_left
                 ·intro w'
                  go_simp
                  with_reducible rfl
                 rotate_left
                 ·simp only [Act.put, sT, sZ, sS, i64_w, i32_w]
                  rfl
                 refine pure_ (i := 15) (N := some 87) (v := ?_) (a' := ?_) (lb 65535) rfl rfl (any_of HT_.out (by kernel_rfl)) (fun _ _ _ h => h) (Or.inl ⟨by rfl, ?_⟩) ?_ ?_
                 rotate_left
                 ·intro w'
                  go_simp
                  with_reducible rfl
                 rotate_left
                 ·simp only [Act.put, sT, sZ, sS, i64_w, i32_w]
                  rfl
                 exact norm_ (by first | (simp only [putAll, Act.put, sT, sZ, sS, List.getD_cons_zero, List.getD_cons_succ]; done) | (simp only [putAll, Act.put, sT, sZ, sS, List.getD_cons_zero, List.getD_cons_succ]; rfl)) (hJ15 [_, _, _, _, _, _, _, _, _, _, _, _, _, _, _] _ ⟨H, (by (with_reducible repeat (first | apply Kd.R_alloc | apply Kd.R_drewN | apply Kd.R_drew)); exact HO619.out), (by (with_reducible repeat (first | refine blk_drewN ?_ _ | refine blk_drew ?_ | refine blk_alloc ?_ _)); exact BK601.out), (by (with_reducible repeat (first | refine blk_drewN ?_ _ | refine blk_drew ?_ | refine blk_alloc ?_ _)); exact BK620.out), (by repeat (first | (with_reducible first | exact HB.out | apply below_alloc | apply pw_below_drewN | apply below_drew1) | exact HB.out))⟩)
            ·rintro s w122 ⟨H, hF0, hF1, hF2, hF3⟩
             have HO619 := Aside0.mk hF0
             have BK601 := Aside0.mk hF1
             have BK620 := Aside0.mk hF2
             have HB := Aside0.mk hF3
             clear hF0 hF1 hF2 hF3
             refine norm_ (a' := ?_) ?_ ?_
             rotate_left
             ·simp only [putAll, Act.put, sT, sZ, sS]
              rfl
             refine pure_ (i := 6) (N := some 78) (v := ?_) (a' := ?_) (lb 127) rfl rfl (any_of HT_.out (by kernel_rfl)) (fun _ _ _ h => h) (Or.inl ⟨by rfl, ?_⟩) ?_ ?_
             rotate_left
             ·intro w'
              go_simp
              with_reducible rfl
             rotate_left
             ·simp only [Act.put, sT, sZ, sS, i64_w, i32_w]
              rfl
             refine pure_ (i := 7) (N := some 79) (v := undef) (a' := ?_) (lb 255) rfl rfl (any_of HT_.out (by kernel_rfl)) (fun _ _ _ h => h) (Or.inr ⟨by rfl, rfl⟩) ?_ ?_
             rotate_left
             ·simp only [Act.put, sT, sZ, sS, i64_w, i32_w]
              rfl
             refine pure_ (i := 8) (N := some 80) (v := undef) (a' := ?_) (lb 511) rfl rfl (any_of HT_.out (by kernel_rfl)) (fun _ _ _ h => h) (Or.inr ⟨by rfl, rfl⟩) ?_ ?_
             rotate_left
             ·simp only [Act.put, sT, sZ, sS, i64_w, i32_w]
              rfl
             refine pure_ (i := 9) (N := some 81) (v := ?_) (a' := ?_) (lb 1023) rfl rfl (any_of HT_.out (by kernel_rfl)) (fun _ _ _ h => h) (Or.inl ⟨by rfl, ?_⟩) ?_ ?_
             rotate_left
             ·intro w'
              go_simp
              with_reducible rfl
             rotate_left
             ·simp only [Act.put, sT, sZ, sS, i64_w, i32_w]
              rfl
             exact norm_ (by first | (simp only [putAll, Act.put, sT, sZ, sS, List.getD_cons_zero, List.getD_cons_succ]; done) | (simp only [putAll, Act.put, sT, sZ, sS, List.getD_cons_zero, List.getD_cons_succ]; rfl)) (hJ9 [_, _, _, _, _, _, _, _, _] _ ⟨H, (by (with_reducible repeat (first | apply Kd.R_alloc | apply Kd.R_drewN | apply Kd.R_drew)); exact HO619.out), (by (with_reducible repeat (first | refine blk_drewN ?_ _ | refine blk_drew ?_ | refine blk_alloc ?_ _)); exact BK601.out), (by (with_reducible repeat (first | refine blk_drewN ?_ _ | refine blk_drew ?_ | refine blk_alloc ?_ _)); exact BK620.out), (by repeat (first | (with_reducible first | exact HB.out | apply below_alloc | apply pw_below_drewN | apply below_drew1) | exact HB.out))⟩)
           ·rintro s w122 ⟨H, hF0, hF1, hF2, hF3⟩
            have HO619 := Aside0.mk hF0
            have BK601 := Aside0.mk hF1
            have BK620 := Aside0.mk hF2
            have HB := Aside0.mk hF3
            clear hF0 hF1 hF2 hF3
            refine norm_ (a' := ?_) ?_ ?_
            rotate_left
            ·simp only [putAll, Act.put, sT, sZ, sS]
             rfl
            refine pure_ (i := 10) (N := some 82) (v := ?_) (a' := ?_) (lb 2047) rfl rfl (any_of HT_.out (by kernel_rfl)) (fun _ _ _ h => h) (Or.inl ⟨by rfl, ?_⟩) ?_ ?_
            rotate_left
            ·intro w'
             go_simp
             with_reducible rfl
            rotate_left
            ·simp only [Act.put, sT, sZ, sS, i64_w, i32_w]
             rfl
            refine pure_ (i := 11) (N := some 83) (v := undef) (a' := ?_) (lb 4095) rfl rfl (any_of HT_.out (by kernel_rfl)) (fun _ _ _ h => h) (Or.inr ⟨by rfl, rfl⟩) ?_ ?_
            rotate_left
            ·simp only [Act.put, sT, sZ, sS, i64_w, i32_w]
             rfl
            refine pure_ (i := 12) (N := some 84) (v := undef) (a' := ?_) (lb 8191) rfl rfl (any_of HT_.out (by kernel_rfl)) (fun _ _ _ h => h) (Or.inr ⟨by rfl, rfl⟩) ?_ ?_
            rotate_left
            ·simp only [Act.put, sT, sZ, sS, i64_w, i32_w]
             rfl
            refine pure_ (i := 13) (N := some 85) (v := undef) (a' := ?_) (lb 16383) rfl rfl (any_of HT_.out (by kernel_rfl)) (fun _ _ _ h => h) (Or.inr ⟨by rfl, rfl⟩) ?_ ?_
            rotate_left
            ·simp only [Act.put, sT, sZ, sS, i64_w, i32_w]
             rfl
            refine pure_ (i := 14) (N := some 86) (v := undef) (a' := ?_) (lb 32767) rfl rfl (any_of HT_.out (by kernel_rfl)) (fun _ _ _ h => h) (Or.inr ⟨by rfl, rfl⟩) ?_ ?_
            rotate_left
            ·simp only [Act.put, sT, sZ, sS, i64_w, i32_w]
             rfl
            refine pure_ (i := 15) (N := some 87) (v := ?_) (a' := ?_) (lb 65535) rfl rfl (any_of HT_.out (by kernel_rfl)) (fun _ _ _ h => h) (Or.inl ⟨by rfl, ?_⟩) ?_ ?_
            rotate_left
            ·intro w'
             go_simp
             with_reducible rfl
            rotate_left
            ·simp only [Act.put, sT, sZ, sS, i64_w, i32_w]
             rfl
            exact norm_ (by first | (simp only [putAll, Act.put, sT, sZ, sS, List.getD_cons_zero, List.getD_cons_succ]; done) | (simp only [putAll, Act.put, sT, sZ, sS, List.getD_cons_zero, List.getD_cons_succ]; rfl)) (hJ15 [_, _, _, _, _, _, _, _, _, _, _, _, _, _, _] _ ⟨H, (by (with_reducible repeat (first | apply Kd.R_alloc | apply Kd.R_drewN | apply Kd.R_drew)); exact HO619.out), (by (with_reducible repeat (first | refine blk_drewN ?_ _ | refine blk_drew ?_ | refine blk_alloc ?_ _)); exact BK601.out), (by (with_reducible repeat (first | refine blk_drewN ?_ _ | refine blk_drew ?_ | refine blk_alloc ?_ _)); exact BK620.out), (by repeat (first | (with_reducible first | exact HB.out | apply below_alloc | apply pw_below_drewN | apply below_drew1) | exact HB.out))⟩)
          ·rintro s w122 ⟨H, hF0, hF1, hF2, hF3⟩
           have HO619 := Aside0.mk hF0
           have BK601 := Aside0.mk hF1
           have BK620 := Aside0.mk hF2
           have HB := Aside0.mk hF3
           clear hF0 hF1 hF2 hF3
           refine norm_ (a' := ?_) ?_ ?_
           rotate_left
           ·simp only [putAll, Act.put, sT, sZ, sS]
            rfl
           refine pure_ (i := 16) (N := some 88) (v := ?_) (a' := ?_) (lb 131071) rfl rfl (any_of HT_.out (by kernel_rfl)) (fun _ _ _ h => h) (Or.inl ⟨by rfl, ?_⟩) ?_ ?_
           rotate_left
           ·intro w'
            go_simp
            with_reducible rfl
           rotate_left
           ·simp only [Act.put, sT, sZ, sS, i64_w, i32_w]
            rfl
           refine pure_ (i := 17) (N := some 89) (v := undef) (a' := ?_) (lb 262143) rfl rfl (any_of HT_.out (by kernel_rfl)) (fun _ _ _ h => h) (Or.inr ⟨by rfl, rfl⟩) ?_ ?_
           rotate_left
           ·simp only [Act.put, sT, sZ, sS, i64_w, i32_w]
            rfl
           refine pure_ (i := 18) (N := some 90) (v := undef) (a' := ?_) (lb 524287) rfl rfl (any_of HT_.out (by kernel_rfl)) (fun _ _ _ h => h) (Or.inr ⟨by rfl, rfl⟩) ?_ ?_
           rotate_left
           ·simp only [Act.put, sT, sZ, sS, i64_w, i32_w]
            rfl
           refine pure_ (i := 19) (N := some 91) (v := undef) (a' := ?_) (lb 1048575) rfl rfl (any_of HT_.out (by kernel_rfl)) (fun _ _ _ h => h) (Or.inr ⟨by rfl, rfl⟩) ?_ ?_
           rotate_left
           ·simp only [Act.put, sT, sZ, sS, i64_w, i32_w]
            rfl
           refine pure_ (i := 20) (N := some 92) (v := ?_) (a' := ?_) (lb 2097151) rfl rfl (any_of HT_.out (by kernel_rfl)) (fun _ _ _ h => h) (Or.inl ⟨by rfl, ?_⟩) ?_ ?_
           rotate_left
           ·intro w'
            go_simp
            with_reducible rfl
           rotate_left
           ·simp only [Act.put, sT, sZ, sS, i64_w, i32_w]
            rfl
           exact norm_ (by first | (simp only [putAll, Act.put, sT, sZ, sS, List.getD_cons_zero, List.getD_cons_succ]; done) | (simp only [putAll, Act.put, sT, sZ, sS, List.getD_cons_zero, List.getD_cons_succ]; rfl)) (hJ20 [_, _, _, _, _, _, _, _, _, _, _, _, _, _, _, _, _, _, _, _] _ ⟨H, (by (with_reducible repeat (first | apply Kd.R_alloc | apply Kd.R_drewN | apply Kd.R_drew)); exact HO619.out), (by (with_reducible repeat (first | refine blk_drewN ?_ _ | refine blk_drew ?_ | refine blk_alloc ?_ _)); exact BK601.out), (by (with_reducible repeat (first | refine blk_drewN ?_ _ | refine blk_drew ?_ | refine blk_alloc ?_ _)); exact BK620.out), (by repeat (first | (with_reducible first | exact HB.out | apply below_alloc | apply pw_below_drewN | apply below_drew1) | exact HB.out))⟩)
         ·rintro s w122 ⟨H, hF0, hF1, hF2, hF3⟩
          have HO619 := Aside0.mk hF0
          have BK601 := Aside0.mk hF1
          have BK620 := Aside0.mk hF2
          have HB := Aside0.mk hF3
          clear hF0 hF1 hF2 hF3
          refine norm_ (a' := ?_) ?_ ?_
          rotate_left
          ·simp only [putAll, Act.put, sT, sZ, sS]
           rfl
          refine pure_ (i := 21) (N := some 93) (v := ?_) (a' := ?_) (lb 4194303) rfl rfl (any_of HT_.out (by kernel_rfl)) (fun _ _ _ h => h) (Or.inl ⟨by rfl, ?_⟩) ?_ ?_
          rotate_left
          ·intro w'
           go_simp
           with_reducible rfl
          rotate_left
          ·simp only [Act.put, sT, sZ, sS, i64_w, i32_w]
           rfl
          refine pure_ (i := 22) (N := some 94) (v := undef) (a' := ?_) (lb 8388607) rfl rfl (any_of HT_.out (by kernel_rfl)) (fun _ _ _ h => h) (Or.inr ⟨by rfl, rfl⟩) ?_ ?_
          rotate_left
          ·simp only [Act.put, sT, sZ, sS, i64_w, i32_w]
           rfl
          refine pure_ (i := 23) (N := some 95) (v := undef) (a' := ?_) (lb 16777215) rfl rfl (any_of HT_.out (by kernel_rfl)) (fun _ _ _ h => h) (Or.inr ⟨by rfl, rfl⟩) ?_ ?_
          rotate_left
          ·simp only [Act.put, sT, sZ, sS, i64_w, i32_w]
           rfl
          refine pure_ (i := 24) (N := some 96) (v := undef) (a' := ?_) (lb 33554431) rfl rfl (any_of HT_.out (by kernel_rfl)) (fun _ _ _ h => h) (Or.inr ⟨by rfl, rfl⟩) ?_ ?_
          rotate_left
          ·simp only [Act.put, sT, sZ, sS, i64_w, i32_w]
           rfl
          refine pure_ (i := 25) (N := some 97) (v := ?_) (a' := ?_) (lb 67108863) rfl rfl (any_of HT_.out (by kernel_rfl)) (fun _ _ _ h => h) (Or.inl ⟨by rfl, ?_⟩) ?_ ?_
          rotate_left
          ·intro w'
           go_simp
           with_reducible rfl
          rotate_left
          ·simp only [Act.put, sT, sZ, sS, i64_w, i32_w]
           rfl
          exact norm_ (by first | (simp only [putAll, Act.put, sT, sZ, sS, List.getD_cons_zero, List.getD_cons_succ]; done) | (simp only [putAll, Act.put, sT, sZ, sS, List.getD_cons_zero, List.getD_cons_succ]; rfl)) (hJ25 [_, _, _, _, _, _, _, _, _, _, _, _, _, _, _, _, _, _, _, _, _, _, _, _, _] _ ⟨H, (by (with_reducible repeat (first | apply Kd.R_alloc | apply Kd.R_drewN | apply Kd.R_drew)); exact HO619.out), (by (with_reducible repeat (first | refine blk_drewN ?_ _ | refine blk_drew ?_ | refine blk_alloc ?_ _)); exact BK601.out), (by (with_reducible repeat (first | refine blk_drewN ?_ _ | refine blk_drew ?_ | refine blk_alloc ?_ _)); exact BK620.out), (by repeat (first | (with_reducible first | exact HB.out | apply below_alloc | apply pw_below_drewN | apply below_drew1) | exact HB.out))⟩)
        ·rintro s w122 ⟨H, hF0, hF1, hF2, hF3⟩
         have HO619 := Aside0.mk hF0
         have BK601 := Aside0.mk hF1
         have BK620 := Aside0.mk hF2
         have HB := Aside0.mk hF3
         clear hF0 hF1 hF2 hF3
         refine norm_ (a' := ?_) ?_ ?_
         rotate_left
         ·simp only [putAll, Act.put, sT, sZ, sS]
          rfl
         refine pure_ (i := 26) (N := some 98) (v := ?_) (a' := ?_) (lb 134217727) rfl rfl (any_of HT_.out (by kernel_rfl)) (fun _ _ _ h => h) (Or.inl ⟨by rfl, ?_⟩) ?_ ?_
         rotate_left
         ·intro w'
          go_simp
          with_reducible rfl
         rotate_left
         ·simp only [Act.put, sT, sZ, sS, i64_w, i32_w]
          rfl
         refine pure_ (i := 27) (N := some 99) (v := undef) (a' := ?_) (lb 268435455) rfl rfl (any_of HT_.out (by kernel_rfl)) (fun _ _ _ h => h) (Or.inr ⟨by rfl, rfl⟩) ?_ ?_
         rotate_left
         ·simp only [Act.put, sT, sZ, sS, i64_w, i32_w]
          rfl
         refine pure_ (i := 28) (N := some 100) (v := undef) (a' := ?_) (lb 536870911) rfl rfl (any_of HT_.out (by kernel_rfl)) (fun _ _ _ h => h) (Or.inr ⟨by rfl, rfl⟩) ?_ ?_
         rotate_left
         ·simp only [Act.put, sT, sZ, sS, i64_w, i32_w]
          rfl
         refine pure_ (i := 29) (N := some 101) (v := undef) (a' := ?_) (lb 1073741823) rfl rfl (any_of HT_.out (by kernel_rfl)) (fun _ _ _ h => h) (Or.inr ⟨by rfl, rfl⟩) ?_ ?_
         rotate_left
         ·simp only [Act.put, sT, sZ, sS, i64_w, i32_w]
          rfl
         refine pure_ (i := 30) (N := some 102) (v := undef) (a' := ?_) (lb 2147483647) rfl rfl (any_of HT_.out (by kernel_rfl)) (fun _ _ _ h => h) (Or.inr ⟨by rfl, rfl⟩) ?_ ?_
         rotate_left
         ·simp only [Act.put, sT, sZ, sS, i64_w, i32_w]
          rfl
         refine pure_ (i := 31) (N := some 103) (v := undef) (a' := ?_) (lb 4294967295) rfl rfl (any_of HT_.out (by kernel_rfl)) (fun _ _ _ h => h) (Or.inr ⟨by rfl, rfl⟩) ?_ ?_
         rotate_left
         ·simp only [Act.put, sT, sZ, sS, i64_w, i32_w]
          rfl
         refine pure_ (i := 32) (N := some 104) (v := undef) (a' := ?_) (lb 8589934591) rfl rfl (any_of HT_.out (by kernel_rfl)) (fun _ _ _ h => h) (Or.inr ⟨by rfl, rfl⟩) ?_ ?_
         rotate_left
         ·simp only [Act.put, sT, sZ, sS, i64_w, i32_w]
          rfl
         refine pure_ (i := 33) (N := some 105) (v := undef) (a' := ?_) (lb 17179869183) rfl rfl (any_of HT_.out (by kernel_rfl)) (fun _ _ _ h => h) (Or.inr ⟨by rfl, rfl⟩) ?_ ?_
         rotate_left
         ·simp only [Act.put, sT, sZ, sS, i64_w, i32_w]
          rfl
         refine pure_ (i := 34) (N := some 106) (v := undef) (a' := ?_) (lb 34359738367) rfl rfl (any_of HT_.out (by kernel_rfl)) (fun _ _ _ h => h) (Or.inr ⟨by rfl, rfl⟩) ?_ ?_
         rotate_left
         ·simp only [Act.put, sT, sZ, sS, i64_w, i32_w]
          rfl
         refine pure_ (i := 35) (N := some 107) (v := undef) (a' := ?_) (lb 68719476735) rfl rfl (any_of HT_.out (by kernel_rfl)) (fun _ _ _ h => h) (Or.inr ⟨by rfl, rfl⟩) ?_ ?_
         rotate_left
         ·simp only [Act.put, sT, sZ, sS, i64_w, i32_w]
          rfl
         refine pure_ (i := 36) (N := some 108) (v := undef) (a' := ?_) (lb 137438953471) rfl rfl (any_of HT_.out (by kernel_rfl)) (fun _ _ _ h => h) (Or.inr ⟨by rfl, rfl⟩) ?_ ?_
         rotate_left
         ·simp only [Act.put, sT, sZ, sS, i64_w, i32_w]
          rfl
         refine pure_ (i := 37) (N := some 109) (v := undef) (a' := ?_) (lb 274877906943) rfl rfl (any_of HT_.out (by kernel_rfl)) (fun _ _ _ h => h) (Or.inr ⟨by rfl, rfl⟩) ?_ ?_
         rotate_left
         ·simp only [Act.put, sT, sZ, sS, i64_w, i32_w]
          rfl
         refine pure_ (i := 38) (N := some 110) (v := undef) (a' := ?_) (lb 549755813887) rfl rfl (any_of HT_.out (by kernel_rfl)) (fun _ _ _ h => h) (Or.inr ⟨by rfl, rfl⟩) ?_ ?_
         rotate_left
         ·simp only [Act.put, sT, sZ, sS, i64_w, i32_w]
          rfl
         refine pure_ (i := 39) (N := some 111) (v := undef) (a' := ?_) (lb 1099511627775) rfl rfl (any_of HT_.out (by kernel_rfl)) (fun _ _ _ h => h) (Or.inr ⟨by rfl, rfl⟩) ?_ ?_
         rotate_left
         ·simp only [Act.put, sT, sZ, sS, i64_w, i32_w]
          rfl
         refine pure_ (i := 40) (N := some 112) (v := undef) (a' := ?_) (lb 2199023255551) rfl rfl (any_of HT_.out (by kernel_rfl)) (fun _ _ _ h => h) (Or.inr ⟨by rfl, rfl⟩) ?_ ?_
         rotate_left
         ·simp only [Act.put, sT, sZ, sS, i64_w, i32_w]
          rfl
         refine pure_ (i := 41) (N := some 113) (v := ?_) (a' := ?_) (lb 4398046511103) rfl rfl (any_of HT_.out (by kernel_rfl)) (fun _ _ _ h => h) (Or.inl ⟨by rfl, ?_⟩) ?_ ?_
         rotate_left
         ·intro w'
          go_simp
          with_reducible rfl
         rotate_left
         ·simp only [Act.put, sT, sZ, sS, i64_w, i32_w]
          rfl
         exact norm_ (by first | (simp only [putAll, Act.put, sT, sZ, sS, List.getD_cons_zero, List.getD_cons_succ]; done) | (simp only [putAll, Act.put, sT, sZ, sS, List.getD_cons_zero, List.getD_cons_succ]; rfl)) (hJ41 [_, _, _, _, _, _, _, _, _, _, _, _, _, _, _, _, _, _, _, _, _, _, _, _, _, _, _, _, _, _, _, _, _, _, _, _, _, _, _, _, _] _ ⟨H, (by (with_reducible repeat (first | apply Kd.R_alloc | apply Kd.R_drewN | apply Kd.R_drew)); exact HO619.out), (by (with_reducible repeat (first | refine blk_drewN ?_ _ | refine blk_drew ?_ | refine blk_alloc ?_ _)); exact BK601.out), (by (with_reducible repeat (first | refine blk_drewN ?_ _ | refine blk_drew ?_ | refine blk_alloc ?_ _)); exact BK620.out), (by repeat (first | (with_reducible first | exact HB.out | apply below_alloc | apply pw_below_drewN | apply below_drew1) | exact HB.out))⟩)
       ·rintro s w122 ⟨H, hF0, hF1, hF2, hF3⟩
        have HO619 := Aside0.mk hF0
        have BK601 := Aside0.mk hF1
        have BK620 := Aside0.mk hF2
        have HB := Aside0.mk hF3
        clear hF0 hF1 hF2 hF3
        refine norm_ (a' := ?_) ?_ ?_
        rotate_left
        ·simp only [putAll, Act.put, sT, sZ, sS]
         rfl
        obtain ⟨y642, hy642⟩ : ∃ y_ : List ByteArray, y_ = ([] : List ByteArray) := ⟨_, rfl⟩
        rw [← hy642] at H
        have Ny642 := Aside0.mk hy642
        clear hy642
        simp only [Option.some.injEq, Prod.mk.injEq] at H
        obtain ⟨rfl, rfl, rfl, rfl, rfl⟩ := H
        refine done_ (done_of HT_.out (by kernel_rfl)) ?_
        try go_wp2_with (first | ((with_reducible refine gate_dst (N := 115) rfl ?_); (try (refine gate_guard (by rfl) ?_; dsimp only)); refine Kd.R_lit Kd.string _ 9 ?hg (N := 115) ?hd (xs := ([] : List ByteArray)) (inner := []) (ok := fun _ => True) (okp := fun _ => True) ?hr ?hp (fun _ hk => hk) trivial (Below.refl _ _) (Nat.le_refl _) (by simp) ?_; (case hd => rfl); (case hg => rfl); (case hr => first | (go_simp; done) | (go_simp; rfl)); (case hp => exact (Reps.none _ _)); intro v643 w123 ho124 hb hg_ hnew_; clear hg_ hnew_; (first | rw [← Ny642.out] at ho124 | (simp only [Int.reduceToNat] at ho124; rw [← Ny642.out] at ho124)); have n0_ := Aside0.mk (Kd.R_elder' (by (with_reducible repeat (first | apply Kd.R_alloc | apply Kd.R_drewN | apply Kd.R_drew)); exact HO619.out) (Kd.R_base ho124) hb); have n1_ := Aside0.mk (Kd.R_lower (Kd.R_new' ho124 (Kd.R_lt (by (with_reducible repeat (first | apply Kd.R_alloc | apply Kd.R_drewN | apply Kd.R_drew)); exact HO619.out))) (below_size (by repeat (first | (with_reducible first | exact HB.out | apply below_alloc | apply pw_below_drewN | apply below_drew1 | refine below_set ?_ GE601.out | refine below_set ?_ GE620.out) | exact HB.out)))); have n2_ := Aside0.mk (blk_below (g := gb601) (o := .cells #[.int .i64 0, .string (⟨#[]⟩ : ByteArray)] 31 (0, 0)) (by (with_reducible repeat (first | refine blk_drewN ?_ _ | refine blk_drew ?_ | refine blk_alloc ?_ _)); exact BK601.out) hb); have n3_ := Aside0.mk (blk_below (g := gb620) (o := .cells #[.int .i64 t609, .string t612] 31 (0, 0)) (by (with_reducible repeat (first | refine blk_drewN ?_ _ | refine blk_drew ?_ | refine blk_alloc ?_ _)); exact BK620.out) hb); have n4_ := Aside0.mk (below_step (by repeat (first | (with_reducible first | exact HB.out | apply below_alloc | apply pw_below_drewN | apply below_drew1 | refine below_set ?_ GE601.out | refine below_set ?_ GE620.out) | exact HB.out)) hb); clear HO619; clear BK601; clear BK620; clear HB; have HO619 := n0_; have HO644 := n1_; have BK601 := n2_; have BK620 := n3_; have HB := n4_; clear n0_ n1_ n2_ n3_ n4_; clear hb ho124; have hcz125_0 : w123.cell? ⟨gb601, 0, none⟩ = some (.int .i64 0) := (blk_cell BK601.out 0).trans rfl; have hcz125_1 : w123.cell? ⟨gb601, 1, none⟩ = some (.string (⟨#[]⟩ : ByteArray)) := (blk_cell BK601.out 1).trans rfl; have hfz125_0 := blk_frozen BK601.out 0; have hfz125_1 := blk_frozen BK601.out 1))
        refine bodyPost_ret (results_list (rs := [.cell 4 31, .tmp 5, .tmp 6, .tmp 7]) rfl (by simp) (.cell gb601 31 #[.int .i64 0, .string (⟨#[]⟩ : ByteArray)] (0, 0) _ rfl (by (with_reducible repeat (first | refine blk_drewN ?_ _ | refine blk_drew ?_ | refine blk_alloc ?_ _)); refine blk_put (cs := #[.int .i64 0, .string (⟨#[]⟩ : ByteArray)]) ?_ 1 _ rfl; (with_reducible repeat (first | refine blk_drewN ?_ _ | refine blk_drew ?_ | refine blk_alloc ?_ _)); refine blk_put (cs := #[.int .i64 0, .string (⟨#[]⟩ : ByteArray)]) ?_ 0 _ rfl; (with_reducible repeat (first | refine blk_drewN ?_ _ | refine blk_drew ?_ | refine blk_alloc ?_ _)); exact BK601.out) Try.underlying31 rfl (by kernel_rfl) (.tmp (.tmp (.tmp .nil))))) rfl ?_
        exact ⟨_, by first | rfl | (simp [errW_none, errW_some] <;> rfl) | (simp [*, errW_none, errW_some] <;> rfl), by (with_reducible repeat (first | apply Kd.R_alloc | apply Kd.R_drewN | apply Kd.R_drew)); exact Kd.R_mono (Kd.R_far (p := ⟨gb601, 1, none⟩) (Kd.R_far (p := ⟨gb601, 0, none⟩) (Kd.R_types HO644.out BK601.out (by decide)) (fun _ hk => hk.2) (.int .i64 0)) (fun _ hk => hk.2) (.string (⟨#[]⟩ : ByteArray))) (fun _ hk => trivial), by repeat (first | (with_reducible first | exact HB.out | apply below_alloc | apply pw_below_drewN | apply below_drew1 | refine below_set ?_ GE601.out | refine below_set ?_ GE620.out) | exact HB.out)⟩
      ·rw [if_neg c13] at H
       exact absurd H (by simp)
     ·rw [if_neg c12] at H
      exact absurd H (by simp)
    ·rw [if_neg c11] at H
     exact absurd H (by simp)
end Go.Proofs.Ytcogimnpffnanaa.Q
end
section
/- The reference's GetCommit reads the same. Plain. -/
namespace Go.Proofs.Ytcogimnpffnanaa.Q
open Go.RowKit Go.Proofs.Ytcogimnpffnanaa.B Go.Proofs.YtcogimnpffnanaaW.PrintWords Go.Proofs.YtcogimnpffnanaaW.PrintMore
set_option linter.unusedVariables false
set_option linter.unusedSimpArgs false
theorem nums_bytes (s : ByteArray) : strOfNums (bytesOf s) = s := bytesOf_inj (bytes_nums _ (inB_text s))
theorem sum_iff {G : List Int} (hG : InB G) (B : List Int) : (strOfNums G).toList = ((sha B).extract 0 4).toList ↔ G = sumB B := by
 unfold sumB
 constructor
 ·intro h
  rw [← bytes_nums G hG, bytes_ext h]
 ·intro h
  rw [h, nums_bytes]
set_option maxHeartbeats 1000000 in
theorem getCommitS (b : List Int) (hb : InB b) (hl : b.length ≤ 10000000) (at_ : Int) (h0 : -9223372036854775808 ≤ at_) (h1 : at_ ≤ 9223372036854775807) :
  ∃ n s t nx ok, Ev (fun q => spec_GetCommit.f q b at_) (n, s, t, nx, ok) ∧ t.length ≤ 200 ∧ CommitOf b at_ n s t nx ok := by
 obtain ⟨m, x, ok, e2, _, hN⟩ := getNum_both b hb (by omega) at_ h0 h1
 have jT : ∀ m x : Int, Ev (fun q => spec_GetCommit.j0 q b at_ m x true) (0, (⟨#[]⟩ : ByteArray), ([] : List ByteArray), at_, false) := fun m x => by
  refine Ev.step (fun q => by simp only [spec_GetCommit.j0]; rfl) ?_
  exact Ev.pos trivial (Ev.now _)
 have bad : ∀ P : Prop, (∀ (a N : Nat) (s' : ByteArray) (t' : List ByteArray) r, at_ = (a : Int) → b.drop a = commitB N s' t' ++ r → headOk (N : Int) s' = true → 1 ≤ t'.length → t'.length ≤ 200 → (∀ x ∈ t', x.size ≤ 1000000000) → False) → CommitOf b at_ 0 ⟨#[]⟩ [] at_ false := fun _ h => ⟨fun q => (by cases q), fun _ => ⟨rfl, rfl, rfl, rfl, h⟩⟩
 unfold spec_GetCommit.f
 cases ok with
 | false =>
  obtain ⟨rfl, rfl, h3⟩ := hN.1 rfl
  refine ⟨0, ⟨#[]⟩, [], at_, false, Ev.bind e2 (Ev.neg (by simp) (jT _ _)), by simp, bad True fun a N s' t' r ha hr _ _ _ _ => ?_⟩
  unfold commitB at hr
  rw [List.append_assoc] at hr
  refine h3 a _ _ ha hr ?_
  have := congrArg List.length hr
  simp only [List.length_append, List.length_drop] at this
  omega
 | true =>
  obtain ⟨a, m, rfl, rfl, hm, hd, rfl, hle⟩ := hN.2 rfl
  have hp1 := num_pos m
  obtain ⟨p, hp⟩ : ∃ p, a + (num m).length = p := ⟨_, rfl⟩
  rw [hp] at e2 hd hle
  clear hN
  have cut : ∀ (N : Nat) (s' : ByteArray) (t' : List ByteArray) r, b.drop a = commitB N s' t' ++ r → m = (bodyB N s' t').length ∧ b.drop p = bodyB N s' t' ++ (sumB (bodyB N s' t') ++ r) := fun N s' t' r hr => by
   unfold commitB at hr
   rw [hd, List.append_assoc, List.append_assoc] at hr
   exact num_inj _ _ _ _ hr
  have w1 : wrap64 ((b.length : Int) - (p : Int)) = (b.length : Int) - (p : Int) := w64 (by omega) (by omega)
  have w2 : wrap64 ((b.length : Int) - (p : Int) - 4) = (b.length : Int) - (p : Int) - 4 := w64 (by omega) (by omega)
  by_cases hg : (m : Int) > (b.length : Int) - (p : Int) - 4
  ·refine ⟨0, ⟨#[]⟩, [], (a : Int), false, ?_, by simp, bad True fun a' N s' t' r ha hr _ _ _ _ => ?_⟩
   ·refine Ev.bind e2 (Ev.pos rfl ?_)
    simp only [w1, w2, decide_eq_true hg]
    exact jT _ _
   ·obtain rfl : a = a' := by omega
    obtain ⟨k1, k2⟩ := cut N s' t' r hr
    have := congrArg List.length k2
    simp only [List.length_append, List.length_drop, sumB_length] at this
    omega
  ·have w3 : wrap64 ((p : Int) + (m : Int)) = ((p + m : Nat) : Int) := by
    rw [w64 (by omega) (by omega)]
    omega
   have w4 : wrap64 (((p + m : Nat) : Int) + 4) = ((p + m + 4 : Nat) : Int) := by
    rw [w64 (by omega) (by omega)]
    omega
   have t1 : ((p + m : Nat) : Int).toNat = p + m := Int.toNat_natCast _
   have t2 : (p : Int).toNat = p := Int.toNat_natCast _
   have t3 : ((p + m + 4 : Nat) : Int).toNat = p + m + 4 := Int.toNat_natCast _
   obtain ⟨B, hB⟩ : ∃ B, (b.take (p + m)).drop p = B := ⟨_, rfl⟩
   have hB2 : B = (b.drop p).take m := by
    rw [← hB, List.drop_take]
    congr 1
    omega
   have hBl : B.length = m := by
    rw [hB2, List.length_take, List.length_drop]
    omega
   have hBb : InB B := by
    rw [hB2]
    exact inB_take (inB_drop hb p) m
   obtain ⟨G, hG⟩ : ∃ G, (b.take (p + m + 4)).drop (p + m) = G := ⟨_, rfl⟩
   have hGb : InB G := by
    rw [← hG]
    exact inB_drop (inB_take hb _) _
   have hBG : b.drop p = B ++ (G ++ b.drop (p + m + 4)) := by
    have i1 : b.drop p = (b.drop p).take m ++ (b.drop p).drop m := (List.take_append_drop _ _).symm
    have i2 : b.drop (p + m) = (b.drop (p + m)).take 4 ++ (b.drop (p + m)).drop 4 := (List.take_append_drop _ _).symm
    have i3 : G = (b.drop (p + m)).take 4 := by
     rw [← hG, List.drop_take]
     congr 1
     omega
    rw [List.drop_drop] at i1 i2
    rw [← i3] at i2
    rw [← hB2, i2] at i1
    exact i1
   have cutB : ∀ (N : Nat) (s' : ByteArray) (t' : List ByteArray) r, b.drop a = commitB N s' t' ++ r → B = bodyB N s' t' ∧ G = sumB (bodyB N s' t') := fun N s' t' r hr => by
    obtain ⟨k1, k2⟩ := cut N s' t' r hr
    rw [hBG] at k2
    obtain ⟨k3, k4⟩ := List.append_inj k2 (by rw [hBl, k1])
    refine ⟨k3, (List.append_inj k4 ?_).1⟩
    rw [sumB_length, ← hG, List.length_drop, List.length_take]
    omega
   have start : ∀ r, Ev (fun q => (spec_GetNum.f q B 0).bind fun bt609 => ((spec_GetText.f q B bt609.2.1).bind fun bt612 => ((spec_GetTexts.f q B bt612.2.1).bind fun bt615 => (if bt609.2.2 = true then (if bt612.2.2 = true then (if bt615.2.2 = true then (if bt615.2.1 = (B.length : Int) then ((spec_HeadOk.f bt609.1 bt612.1).bind fun t621 => (if t621 = true then (if (bt615.1.length : Int) = 0 then (some (0, (⟨#[]⟩ : ByteArray), (([] : List ByteArray)), (a : Int), false)) else ((spec_Digest.f q B).bind fun t626 => (if 4 ≤ (t626.size : Int) then (if (strOfNums G).toList = (t626.extract 0 4).toList then (some (bt609.1, bt612.1, bt615.1, ((p + m + 4 : Nat) : Int), true)) else (some (0, (⟨#[]⟩ : ByteArray), (([] : List ByteArray)), (a : Int), false))) else (none)))) else (some (0, (⟨#[]⟩ : ByteArray), (([] : List ByteArray)), (a : Int), false)))) else (some (0, (⟨#[]⟩ : ByteArray), (([] : List ByteArray)), (a : Int), false))) else (some (0, (⟨#[]⟩ : ByteArray), (([] : List ByteArray)), (a : Int), false))) else (some (0, (⟨#[]⟩ : ByteArray), (([] : List ByteArray)), (a : Int), false))) else (some (0, (⟨#[]⟩ : ByteArray), (([] : List ByteArray)), (a : Int), false)))))) r → Ev (fun q => (spec_GetNum.f q b (a : Int)).bind fun bt602 => (if bt602.2.2 = true then (spec_GetCommit.j0 q b (a : Int) bt602.1 bt602.2.1 (decide (bt602.1 > (wrap64 ((wrap64 ((b.length : Int) - bt602.2.1)) - 4))))) else (spec_GetCommit.j0 q b (a : Int) bt602.1 bt602.2.1 true))) r := fun r hr => by
    refine Ev.bind e2 (Ev.pos rfl ?_)
    simp only [w1, w2, decide_eq_false hg]
    have i1 : (0 : Int) ≤ ((p + m : Nat) : Int) := by omega
    have i2 : ((p + m : Nat) : Int) ≤ ((p + m + 4 : Nat) : Int) := by omega
    have i3 : ((p + m + 4 : Nat) : Int) ≤ (b.length : Int) := by omega
    have i4 : (0 : Nat) ≤ 4 := by decide
    refine Ev.step (fun q => by simp only [spec_GetCommit.j0, w3, w4, t1, t2, t3, hB, hG, if_pos i1, if_pos i2, if_pos i3, if_pos i4]; rfl) ?_
    exact Ev.neg (by simp) (Ev.pos (by omega) (Ev.pos (by omega) (Ev.pos (by omega) hr)))
   rcases num_step B hBb (by omega) 0 (by omega) with ⟨g0, _, z0⟩ | ⟨v0, p1, q0, l0, y0, r0, g0, _⟩
   ·obtain ⟨u1, x1, o1, s1, r1⟩ := text_any B hBb (by omega) 0 (by omega)
    obtain ⟨u2, x2, o2, s2, r2⟩ := texts_any B hBb (by omega) x1 (by omega)
    refine ⟨0, ⟨#[]⟩, [], (a : Int), false, start _ (Ev.bind g0 (Ev.bind s1 (Ev.bind s2 (Ev.neg (by simp) (Ev.now _))))), by simp, bad True fun a' N s' t' r ha hr hk c1 c2 c3 => ?_⟩
    obtain rfl : a = a' := by omega
    have hh := headOk_parts hk
    exact z0 N _ (show B.drop 0 = num N ++ (textB s' ++ textsB t') from (cutB N s' t' r hr).1) (by omega)
   ·rcases text_step B hBb (by omega) p1 (by omega) with ⟨g1, _, z1⟩ | ⟨v1, p2, q1, l1, y1, r1, g1, _⟩
    ·obtain ⟨u2, x2, o2, s2, r2⟩ := texts_any B hBb (by omega) 0 (by omega)
     refine ⟨0, ⟨#[]⟩, [], (a : Int), false, start _ (Ev.bind g0 (Ev.bind g1 (Ev.bind s2 (Ev.pos rfl (Ev.neg (by simp) (Ev.now _)))))), by simp, bad True fun a' N s' t' r ha hr hk c1 c2 c3 => ?_⟩
     obtain rfl : a = a' := by omega
     have hh := headOk_parts hk
     have d0 : B.drop 0 = num N ++ (textB s' ++ textsB t') := (cutB N s' t' r hr).1
     have d1 := (num_inj _ _ _ _ (y0.symm.trans d0)).2
     exact z1 s' _ d1 (by omega)
    ·rcases texts_step B hBb (by omega) p2 (by omega) with ⟨g2, _, z2⟩ | ⟨v2, p3, q2, s2, l2, y2, r2, g2, _⟩
     ·refine ⟨0, ⟨#[]⟩, [], (a : Int), false, start _ (Ev.bind g0 (Ev.bind g1 (Ev.bind g2 (Ev.pos rfl (Ev.pos rfl (Ev.neg (by simp) (Ev.now _))))))), by simp, bad True fun a' N s' t' r ha hr hk c1 c2 c3 => ?_⟩
      obtain rfl : a = a' := by omega
      have d0 : B.drop 0 = num N ++ (textB s' ++ textsB t') := (cutB N s' t' r hr).1
      have d1 := (num_inj _ _ _ _ (y0.symm.trans d0)).2
      have d2 := (textB_inj (y1.symm.trans d1)).2
      exact z2 t' [] (by rw [List.append_nil]; exact d2) c2 c3
     ·have hBB : B = bodyB v0 v1 v2 ++ B.drop p3 := by
       have e : B.drop 0 = num v0 ++ (textB v1 ++ (textsB v2 ++ B.drop p3)) := by rw [y0, y1, y2]
       unfold bodyB
       simp only [List.append_assoc]
       exact e
      have same : ∀ (N : Nat) (s' : ByteArray) (t' : List ByteArray) r, b.drop a = commitB N s' t' ++ r → v0 = N ∧ v1 = s' ∧ v2 = t' ∧ B.drop p3 = [] ∧ G = sumB B := fun N s' t' r hr => by
       obtain ⟨k1, k2⟩ := cutB N s' t' r hr
       obtain ⟨h1, h2, h3, h4⟩ := bodyB_inj (show bodyB v0 v1 v2 ++ B.drop p3 = bodyB N s' t' ++ [] by rw [List.append_nil, ← hBB, k1])
       exact ⟨h1, h2, h3, h4, by rw [k1]; exact k2⟩
      have hD := spec_Digest_ev B (by omega) hBb
      have hsz : (sha B).size = 32 := sha_size _
      by_cases hp3 : (p3 : Int) = (B.length : Int)
      ·have hnil : B.drop p3 = [] := List.drop_eq_nil_of_le (by omega)
       rw [hnil, List.append_nil] at hBB
       by_cases hk : headOk (v0 : Int) v1 = true
       ·by_cases hz : (v2.length : Int) = 0
        ·refine ⟨0, ⟨#[]⟩, [], (a : Int), false, start _ (Ev.bind g0 (Ev.bind g1 (Ev.bind g2 (Ev.pos rfl (Ev.pos rfl (Ev.pos rfl (Ev.pos hp3 (Ev.bind (Ev.const (spec_HeadOk_eq _ _)) (Ev.pos hk (Ev.pos hz (Ev.now _))))))))))), by simp, bad True fun a' N s' t' r ha hr hk2 c1 c2 c3 => ?_⟩
         obtain rfl : a = a' := by omega
         obtain ⟨_, _, rfl, _⟩ := same N s' t' r hr
         omega
        ·by_cases hsum : (strOfNums G).toList = ((sha B).extract 0 4).toList
         ·have hGs := (sum_iff hGb B).1 hsum
          have hlen : (commitB v0 v1 v2).length = (num m).length + m + 4 := by rw [commitB_length, ← hBB, hBl]
          refine ⟨(v0 : Int), v1, v2, ((p + m + 4 : Nat) : Int), true, start _ (Ev.bind g0 (Ev.bind g1 (Ev.bind g2 (Ev.pos rfl (Ev.pos rfl (Ev.pos rfl (Ev.pos hp3 (Ev.bind (Ev.const (spec_HeadOk_eq _ _)) (Ev.pos hk (Ev.neg hz (Ev.bind hD (Ev.pos (by omega) (Ev.pos hsum (Ev.now _)))))))))))))), q2, fun _ => ⟨a, v0, rfl, rfl, hk, by omega, ?_, ?_, ?_⟩, fun h => (by cases h)⟩
          ·rw [hlen, show a + ((num m).length + m + 4) = p + m + 4 by omega, hd, hBG, hGs]
           unfold commitB
           rw [← hBB, hBl]
           simp only [List.append_assoc]
          ·rw [hlen]
           congr 1
           omega
          ·rw [hlen]
           omega
         ·refine ⟨0, ⟨#[]⟩, [], (a : Int), false, start _ (Ev.bind g0 (Ev.bind g1 (Ev.bind g2 (Ev.pos rfl (Ev.pos rfl (Ev.pos rfl (Ev.pos hp3 (Ev.bind (Ev.const (spec_HeadOk_eq _ _)) (Ev.pos hk (Ev.neg hz (Ev.bind hD (Ev.pos (by omega) (Ev.neg hsum (Ev.now _)))))))))))))), by simp, bad True fun a' N s' t' r ha hr hk2 c1 c2 c3 => ?_⟩
          obtain rfl : a = a' := by omega
          obtain ⟨_, _, _, _, h5⟩ := same N s' t' r hr
          exact hsum ((sum_iff hGb B).2 h5)
       ·refine ⟨0, ⟨#[]⟩, [], (a : Int), false, start _ (Ev.bind g0 (Ev.bind g1 (Ev.bind g2 (Ev.pos rfl (Ev.pos rfl (Ev.pos rfl (Ev.pos hp3 (Ev.bind (Ev.const (spec_HeadOk_eq _ _)) (Ev.neg hk (Ev.now _)))))))))), by simp, bad True fun a' N s' t' r ha hr hk2 c1 c2 c3 => ?_⟩
        obtain rfl : a = a' := by omega
        obtain ⟨rfl, rfl, _⟩ := same N s' t' r hr
        exact hk hk2
      ·refine ⟨0, ⟨#[]⟩, [], (a : Int), false, start _ (Ev.bind g0 (Ev.bind g1 (Ev.bind g2 (Ev.pos rfl (Ev.pos rfl (Ev.pos rfl (Ev.neg hp3 (Ev.now _)))))))), by simp, bad True fun a' N s' t' r ha hr hk2 c1 c2 c3 => ?_⟩
       obtain rfl : a = a' := by omega
       obtain ⟨_, _, _, h4, _⟩ := same N s' t' r hr
       have := congrArg List.length h4
       rw [List.length_drop] at this
       simp only [List.length_nil] at this
       omega
theorem commit_small {b : List Int} {a N : Nat} {s : ByteArray} {t : List ByteArray} {r : List Int} (hl : b.length ≤ 10000000) (h : b.drop a = commitB N s t ++ r) : ∀ x ∈ t, x.size ≤ 1000000000 := fun x hx => by
 have h1 := congrArg List.length h
 rw [List.length_drop, List.length_append, commitB_length] at h1
 have h2 := bodyB_ge N s t
 have h3 := total_mem hx
 omega
theorem getCommit_both (b : List Int) (hb : InB b) (hl : b.length ≤ 10000000) (at_ : Int) (h0 : -9223372036854775808 ≤ at_) (h1 : at_ ≤ 9223372036854775807) :
  ∃ n s t nx ok, Ev (fun q => spec_GetCommit.f q b at_) (n, s, t, nx, ok) ∧ Ev (fun q => impl_GetCommit.f q b at_) (n, s, t, nx, ok) ∧ t.length ≤ 200 := by
 obtain ⟨n, s, t, nx, ok, e1, ht, c1, c2⟩ := getCommitI b hb hl at_ h0 h1
 obtain ⟨n', s', t', nx', ok', e2, ht', d1, d2⟩ := getCommitS b hb hl at_ h0 h1
 cases ok with
 | true =>
  obtain ⟨a, N, rfl, rfl, hk, hz, hd, rfl, hle⟩ := c1 rfl
  cases ok' with
  | true =>
   obtain ⟨a', N', ha, rfl, hk', hz', hd', rfl, hle'⟩ := d1 rfl
   obtain rfl : a = a' := by omega
   obtain ⟨rfl, rfl, rfl, _⟩ := commitB_inj (hd.symm.trans hd')
   exact ⟨_, _, _, _, _, e2, e1, ht⟩
  | false => exact absurd ((d2 rfl).2.2.2.2 a N s t _ rfl hd hk hz ht (commit_small hl hd)) id
 | false =>
  obtain ⟨rfl, rfl, rfl, rfl, c3⟩ := c2 rfl
  cases ok' with
  | true =>
   obtain ⟨a', N', rfl, rfl, hk', hz', hd', rfl, hle'⟩ := d1 rfl
   exact absurd (c3 a' N' s' t' _ rfl hd' hk' hz' ht' (commit_small hl hd')) id
  | false =>
   obtain ⟨rfl, rfl, rfl, rfl, _⟩ := d2 rfl
   exact ⟨_, _, _, _, _, e2, e1, ht⟩
end Go.Proofs.Ytcogimnpffnanaa.Q
end
section
/- Arguments that were read as data, opened as Lean values: numbers, bools, strings, slices of whatever kind; structs by their fields. For the rows of this seat's laws. -/
namespace Go.Proofs.Ytcogimnpffnanaa.XO
open Go.RowKit Go.Proofs.YtcogimnpffnanaaW.PrintWords Go.ChangeShapes Go.WideShapes
def Opens {α : Type} (P : Program) (d : Kd α) (t : TypeId) (G : α → Prop) : Prop :=
 ∀ {H : Type} {enc : TypeId × Value → H} {w : World} {base : Nat} {spare : Nat → Bool} {held : Bool} {fuel : Nat} {cs : List Value} {x : DataW H × List MemPlace},
  DataW.trod enc P w base spare held fuel t cs = some x → ∃ a : α, d.K w a cs ∧ G a
variable {P : Program} {t : TypeId}
theorem add_add (a : Addr) (x i : Nat) : (a.add x).add i = a.add (x + i) := by
 unfold Addr.add
 by_cases hx : x = 0
 ·subst hx
  simp
 ·by_cases hi : i = 0
  ·subst hi
   simp
  ·simp [hx, hi, Nat.add_assoc]
theorem cells_read {w : World} {base : Nat} {a : Addr} {x n : Nat} {cs : List Value} (h : w.cells? base (a.add x) n = some cs) (i : Nat) (u : Value) (hu : cs[i]? = some u) : w.cell? (a.add (x + i)) = some u := by
 unfold World.cells? at h
 split at h
 ·have hl : cs.length = n := by simpa using mapM_some_length h
  have hi : i < n := by
   rw [← hl]
   exact (List.getElem?_eq_some_iff.1 hu).1
  have hg := mapM_some_get h i i (by simp [hi])
  rw [hu, add_add] at hg
  exact hg
 ·exact absurd h (by simp)
theorem family {α : Type} {p : Nat → α → Prop} (n : Nat) (h : ∀ i, i < n → ∃ x, p i x) : ∃ xs : List α, xs.length = n ∧ ∀ i x, xs[i]? = some x → p i x := by
 induction n with
 | zero => exact ⟨[], rfl, fun i x hx => by simp at hx⟩
 | succ n ih =>
  obtain ⟨xs, h1, h2⟩ := ih (fun i hi => h i (by omega))
  obtain ⟨y, hy⟩ := h n (by omega)
  refine ⟨xs ++ [y], by simp [h1], fun i x hx => ?_⟩
  by_cases hi : i < xs.length
  ·rw [List.getElem?_append_left hi] at hx
   exact h2 i x hx
  ·rw [List.getElem?_append_right (by omega)] at hx
   have hz : i - xs.length = 0 := by
    rcases Nat.eq_zero_or_pos (i - xs.length) with hz | hz
    ·exact hz
    ·rw [List.getElem?_eq_none (by simp; omega)] at hx
     exact absurd hx (by simp)
   rw [hz] at hx
   have hxy : y = x := by simpa using hx
   have hin : i = n := by omega
   rw [← hxy, hin]
   exact hy
theorem opens_int {k : IntKind} (ht : P.underlying t = some (.int k)) : Opens P (Kd.int k) t (fun n => (Lit.int k n).wf = true) := by
 intro H enc w base spare held fuel cs x h
 obtain ⟨n, rfl, _, hw⟩ := DataW.trod_int ht h
 exact ⟨n, rfl, hw⟩
theorem opens_slice {α : Type} {d : Kd α} {G : α → Prop} {e : TypeId} (ht : P.underlying t = some (.slice e)) (hc : P.cellsOf e = d.sz) (h0 : Opens P d e G) :
  Opens P (Kd.slice e d) t (fun l => l.length ≤ 9223372036854775807 ∧ ∀ x ∈ l, G x) := by
 intro H enc w base spare held fuel cs x h
 rcases Go.Deep.open_slice ht h with ⟨rfl, _⟩ | ⟨a, len, cap, m, n, D, Pl, rfl, _, hl, hm, hmm, _, hel⟩
 ·exact ⟨[], ⟨none, 0, rfl, Nat.le_refl _, rfl, by simp, fun hp => absurd hp (by simp)⟩, by simp, fun x hx => absurd hx (by simp)⟩
 ·have hlm : len ≤ m := by
   rw [hmm]
   split
   ·exact hl
   ·exact Nat.le_refl _
  have hall : ∀ i, i < len → ∃ x : α, (∃ cs', w.cells? base (a.add (i * P.cellsOf e)) (P.cellsOf e) = some cs' ∧ d.K w x cs') ∧ G x := by
   intro i hi
   obtain ⟨cs', h1, h2⟩ := hel i (by omega)
   obtain ⟨x, hk, hg⟩ := h0 h2
   exact ⟨x, ⟨cs', h1, hk⟩, hg⟩
  have hlen : len ≤ 9223372036854775807 := by simp only [maxLen] at hm; omega
  obtain ⟨xs, h1, h2⟩ := family len hall
  refine ⟨xs, ⟨some a, cap, by rw [h1], by omega, rfl, by omega, fun _ => ⟨a, rfl, fun j p hj => ?_⟩⟩, by omega, fun x hx => ?_⟩
  ·obtain ⟨⟨cs', hc1, hk⟩, _⟩ := h2 j p hj
   refine ⟨cs', d.K_len hk, hk, fun i u hu => ?_⟩
   rw [hc] at hc1
   exact cells_read hc1 i u hu
  ·obtain ⟨i, hi⟩ := List.getElem?_of_mem hx
   exact (h2 i x hi).2
end Go.Proofs.Ytcogimnpffnanaa.XO
end
section
/- Which Lean values the laws' arguments are opened to: each struct type by its fields. -/
namespace Go.Proofs.Ytcogimnpffnanaa.Q
open Go.RowKit Go.Proofs.Ytcogimnpffnanaa.XO Go.Proofs.YtcogimnpffnanaaW.PrintWords Go.ChangeShapes Go.WideShapes
set_option linter.unusedVariables false
set_option linter.unusedSimpArgs false
end Go.Proofs.Ytcogimnpffnanaa.Q
end
