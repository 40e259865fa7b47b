-- Joined and shortened by a program of this session (wip/tools/shakecopy.py): the words of the print, texts of pp.sh and of mine.
import Derived.Test.YtcogimnpffnanaaKFnExactStoreOk7
section
namespace Go.Proofs.Ytcogimnpffnanaa.Q
open Go.RowKit Go.Proofs.YtcogimnpffnanaaW.PrintWords Go.Proofs.YtcogimnpffnanaaW.PrintLast Go.Proofs.YtcogimnpffnanaaW.PrintMore
attribute [local go_sem] max2_int min2_int max_two min_two max_three min_three max_four min_four   -- for this text's walks alone
set_option linter.unusedVariables false
set_option linter.unusedSimpArgs false
def spec_GetCommit.j0 : Nat → List Int → Int → Int → Int → Bool → Option (Int × ByteArray × List ByteArray × Int × Bool)
 | 0, _, _, _, _, _ => none
 | k + 1, x0, x1, x8, x9, x39 => if x39 = true then (some (0, (⟨#[]⟩ : ByteArray), (([] : List ByteArray)), x1, false)) else (if 0 ≤ x9 then (if x9 ≤ (wrap64 (x9 + x8)) then (if (wrap64 (x9 + x8)) ≤ (x0.length : Int) then ((spec_GetNum.f k ((x0.take ((wrap64 (x9 + x8)) : Int).toNat).drop (x9 : Int).toNat) 0).bind fun bt609 => ((spec_GetText.f k ((x0.take ((wrap64 (x9 + x8)) : Int).toNat).drop (x9 : Int).toNat) bt609.2.1).bind fun bt612 => ((spec_GetTexts.f k ((x0.take ((wrap64 (x9 + x8)) : Int).toNat).drop (x9 : Int).toNat) bt612.2.1).bind fun bt615 => (if bt609.2.2 = true then (if bt612.2.2 = true then (if bt615.2.2 = true then (if bt615.2.1 = (((x0.take ((wrap64 (x9 + x8)) : Int).toNat).drop (x9 : Int).toNat).length : Int) then ((spec_HeadOk.f bt609.1 bt612.1).bind fun t621 => (if t621 = true then (if (bt615.1.length : Int) = 0 then (some (0, (⟨#[]⟩ : ByteArray), (([] : List ByteArray)), x1, false)) else (if 0 ≤ (wrap64 (x9 + x8)) then (if (wrap64 (x9 + x8)) ≤ (wrap64 ((wrap64 (x9 + x8)) + 4)) then (if (wrap64 ((wrap64 (x9 + x8)) + 4)) ≤ (x0.length : Int) then ((spec_Digest.f k ((x0.take ((wrap64 (x9 + x8)) : Int).toNat).drop (x9 : Int).toNat)).bind fun t626 => (if 0 ≤ 4 then (if 4 ≤ (t626.size : Int) then (if (strOfNums ((x0.take ((wrap64 ((wrap64 (x9 + x8)) + 4)) : Int).toNat).drop ((wrap64 (x9 + x8)) : Int).toNat)).toList = (t626.extract 0 4).toList then (some (bt609.1, bt612.1, bt615.1, wrap64 ((wrap64 (x9 + x8)) + 4), true)) else (some (0, (⟨#[]⟩ : ByteArray), (([] : List ByteArray)), x1, false))) else (none)) else (none))) else (none)) else (none)) else (none))) else (some (0, (⟨#[]⟩ : ByteArray), (([] : List ByteArray)), x1, false)))) else (some (0, (⟨#[]⟩ : ByteArray), (([] : List ByteArray)), x1, false))) else (some (0, (⟨#[]⟩ : ByteArray), (([] : List ByteArray)), x1, false))) else (some (0, (⟨#[]⟩ : ByteArray), (([] : List ByteArray)), x1, false))) else (some (0, (⟨#[]⟩ : ByteArray), (([] : List ByteArray)), x1, false)))))) else (none)) else (none)) else (none))
def spec_GetCommit.f (k : Nat) (l0 : List Int) (a1 : Int) : Option (Int × ByteArray × List ByteArray × Int × Bool) := (spec_GetNum.f k l0 a1).bind fun bt602 => (if bt602.2.2 = true then (spec_GetCommit.j0 k l0 a1 bt602.1 bt602.2.1 (decide (bt602.1 > (wrap64 ((wrap64 ((l0.length : Int) - bt602.2.1)) - 4))))) else (spec_GetCommit.j0 k l0 a1 bt602.1 bt602.2.1 true))
theorem spec_GetCommit.mono_l : ∀ k, (∀ y0 y1 y2 y3 y4, LeO (spec_GetCommit.j0 k y0 y1 y2 y3 y4) (spec_GetCommit.j0 (k + 1) y0 y1 y2 y3 y4))
 | 0 => fun _ _ _ _ _ r h => by simp [spec_GetCommit.j0] at h
 | k + 1 => by
  have ih0 := spec_GetCommit.mono_l k
  ·intro y0 y1 y2 y3 y4
   unfold spec_GetCommit.j0
   repeat' (with_reducible first | exact LeO.refl _ | exact LeO.none _ | apply ih0 | apply spec_Digest.mono | apply spec_GetNum.mono | apply spec_GetText.mono | apply spec_GetTexts.mono | apply LeO.ite | refine LeO.bind ?_ fun _ => ?_)
theorem spec_GetCommit.mono : ∀ a0 a1 k, LeO (spec_GetCommit.f k a0 a1) (spec_GetCommit.f (k + 1) a0 a1) := by
 intro a0 a1 k
 have ih0 := spec_GetCommit.mono_l k
 unfold spec_GetCommit.f
 repeat' (with_reducible first | exact LeO.refl _ | exact LeO.none _ | apply ih0 | apply spec_Digest.mono | apply spec_GetNum.mono | apply spec_GetText.mono | apply spec_GetTexts.mono | apply LeO.ite | refine LeO.bind ?_ fun _ => ?_)
def spec_GetCommit.T9 : Bool × List (List Nat × List Nat) := (true, [([], []), ([0], [0]), ([1], [1]), ([2], [2]), ([3, 2], [2, 3]), ([2, 4], [2, 4]), ([5, 2], [5]), ([6], [6]), ([7, 6], [6, 7]), ([6, 8], [6, 8]), ([9, 6], [9]), ([10], [10]), ([10], [10]), ([12, 10], [10, 12]), ([11, 13, 10], [10, 11, 13]), ([10, 14], [10, 14]), ([15, 10], [15]), ([16], [16]), ([17, 16, 16], [16, 17]), ([18, 16], [16, 18]), ([16, 19], [16, 19]), ([20, 18], [20]), ([21], [21]), ([22, 21], [21, 22]), ([23, 21], [21, 23]), ([21, 24], [21, 24]), ([25, 21], [25]), ([26], [26]), ([26], [26]), ([26], [26]), ([28, 29, 26], [26, 28, 29]), ([26], [26]), ([26], [26]), ([31, 32, 26], [26, 31, 32]), ([33, 26], [26, 33]), ([27, 30, 34, 26], [26, 27, 30, 34]), ([35, 26], [26, 35]), ([26], [26]), ([37, 26, 26], [26, 37]), ([38, 26], [26, 38]), ([36, 39, 26], [26, 36, 39]), ([26, 40], [26, 40])])
def spec_GetCommit.B9 : List Nat := [0, 1, 3, 7, 15, 31, 63, 127, 255, 511, 1023, 2047, 2047, 6143, 16383, 32767, 65535, 131071, 262143, 524287, 1048575, 2097151, 4194303, 8388607, 16777215, 33554431, 67108863, 134217727, 134217727, 134217727, 939524095, 134217727, 134217727, 6576668671, 15166603263, 34359738367, 68719476735, 134217727, 137573171199, 412451078143, 1099511627775, 2199023255551]
theorem spec_GetCommit.tab9 : rtab .any (opsOf Try.f52 9) = spec_GetCommit.T9 := by kernel_rfl
theorem spec_GetCommit.bits9 : waitsOk spec_GetCommit.T9.2 spec_GetCommit.B9 = true := by kernel_rfl
def lb (m : Nat) : Array Bool := ((List.range 42).map fun i => Nat.testBit m i).toArray
theorem sT {α : Type} {l : List α} {i : Nat} {a : α} : l.toArray.setIfInBounds i a = (l.set i a).toArray := by simp
theorem sZ {α : Type} {x : α} {l : List α} {a : α} : (x :: l).set 0 a = a :: l := rfl
theorem sS {α : Type} {x : α} {l : List α} {i : Nat} {a : α} : (x :: l).set (i + 1) a = x :: l.set i a := rfl
set_option maxHeartbeats 8000000 in
set_option maxRecDepth 100000 in
theorem spec_GetCommit.calls (k : Nat) (A0 : Option Addr) (c0 : Nat) (l0 : List Int) (a1 : Int) (r1 : Int) (r2 : ByteArray) (r3 : List ByteArray) (r4 : Int) (r5 : Bool) (w : World) (hr0 : Kd.C (Kd.int .u8) w A0 l0.length l0) (hc0 : l0.length ≤ c0) (h : spec_GetCommit.f k l0 a1 = some (r1, r2, r3, r4, r5)) :
  Calls Try.prog 52 #[.slice A0 l0.length c0, .int .i64 a1] w fun e w' => ∃ v2_ : Value, e = .returned (.tuple #[.agg #[.int .i64 r1, .string r2], v2_, .int .i64 r4, .bool r5]) ∧ Kd.R Kd.string 9 w' w.heap.size (fun _ => True) v2_ r3 ∧ Below w.heap.size w w' := by
 have hu31 := Try.underlying31
 have HR0 := Aside0.mk hr0
 have HC0 := Aside0.mk hc0
 clear hr0 hc0
 have HB := Aside0.mk (Below.refl w.heap.size w)
 have H : ((spec_GetNum.f k l0 a1).bind fun bt602 => (if bt602.2.2 = true then (spec_GetCommit.j0 k l0 a1 bt602.1 bt602.2.1 (decide (bt602.1 > (wrap64 ((wrap64 ((l0.length : Int) - bt602.2.1)) - 4))))) else (spec_GetCommit.j0 k l0 a1 bt602.1 bt602.2.1 true))) = some (r1, r2, r3, r4, r5) := h
 clear h
 replace H := Option.bind_eq_some_iff.mp H
 obtain ⟨⟨t602, t603, t604⟩, A30, H⟩ := H
 dsimp only at H
 have A3 := Aside0.mk A30
 clear A30
 have HC4 := Aside0.mk H
 clear H
 go_enter Try.func52, Try.ntmps52
 go_upto_region 2 with (first | ((with_reducible refine gate_dst (N := 4) rfl ?_); (try (refine gate_guard (by rfl) ?_; dsimp only)); refine box_event ?hg (N := 4) ?hd (cs := #[.int .i64 0, .string (⟨#[]⟩ : ByteArray)]) (t := 31) ?hr ?_; (case hd => rfl); (case hg => rfl); (case hr => first | (go_simp; done) | (go_simp; rfl)); intro gb601 hg w5 hbox hb; have BK601 := Aside0.mk (hbox); have GW601 := Aside0.mk ((by rw [hg]; exact (below_size (bw_ HB)) : w.heap.size ≤ gb601)); have GE601 := Aside0.mk ((by rw [hg]; exact (below_size (bw_ HB)) : w.heap.size ≤ gb601)); replace HB := Aside0.mk (below_step (bw_ HB) hb); clear hb hbox hg) | ((with_reducible refine gk_ 101 ?_); refine gl_ 25 Try.func101 #[.slice A0 l0.length c0, .int .i64 a1] ?_; (with_reducible refine (spec_GetNum.calls k _ _ l0 a1 t602 t603 t604 _ ?side1 ?side2 A3.out).mono ?_); (case side1 => exact cr_ (Kd.C_below HR0.out HB.out)); (case side2 => exact HC0.out); rintro e w' ⟨rfl, ⟨nd, rfl⟩⟩; refine ⟨_, rfl, ?_⟩))
 (try simp only [Act.put, List.setIfInBounds_toArray, List.set_cons_zero, List.set_cons_succ])
 go_cut [39] (fun v39 wc => ∃ (kq : Nat) (x39_3 : Bool), v39 = .bool x39_3 ∧ Aside0 (spec_GetCommit.j0 kq l0 a1 t602 t603 x39_3 = some (r1, r2, r3, r4, r5)) ∧ Aside0 (kq ≤ k) ∧ Aside0 (wc.heap[gb601]? = some (.cells #[.int .i64 0, .string (⟨#[]⟩ : ByteArray)] 31 (0, 0))) ∧ Aside0 (Below w.heap.size w wc))
 case first =>
  have H := HC4.out
  clear HC4
  by_cases c6 : t604 = true
  ·subst c6
   rw [if_pos rfl] at H
   have H' := Aside0.mk H
   clear H
   go_wp2
   go_meet
   case rel => exact ⟨_, (decide (t602 > (wrap64 ((wrap64 ((l0.length : Int) - t603)) - 4)))), e1_, H', ⟨le_⟩, ⟨by (with_reducible repeat (first | refine blk_drewN ?_ _ | refine blk_drew ?_ | refine blk_alloc ?_ _)); exact BK601.out⟩, ⟨by repeat (first | (with_reducible first | exact HB.out | apply below_alloc | apply pw_below_drewN | apply below_drew1 | refine below_set ?_ GE601.out) | exact HB.out)⟩⟩
  ·replace c6 := Bool.eq_false_iff.mpr c6
   subst c6
   rw [if_neg nf_] at H
   have H' := Aside0.mk H
   clear H
   go_wp2
   go_meet
   case rel => exact ⟨_, (true), e1_, H', ⟨le_⟩, ⟨by (with_reducible repeat (first | refine blk_drewN ?_ _ | refine blk_drew ?_ | refine blk_alloc ?_ _)); exact BK601.out⟩, ⟨by repeat (first | (with_reducible first | exact HB.out | apply below_alloc | apply pw_below_drewN | apply below_drew1 | refine below_set ?_ GE601.out) | exact HB.out)⟩⟩
 case rest =>
  clear HC4
  try clear c1
  try clear p2
  try clear c5
  try clear c6
  try clear p6
  obtain ⟨kq, x39_3, rfl, HA, HJ3, BK601, HB⟩ := hcut
  cases kq with
  | zero => exact absurd HA.out (by simp [spec_GetCommit.j0])
  | succ kj3 =>
   have H := HA.out
   clear HA
   simp only [spec_GetCommit.j0] at H
   by_cases c7 : x39_3 = true
   ·subst c7
    rw [if_pos rfl] at H
    obtain ⟨y605, hy605⟩ : ∃ y_ : List ByteArray, y_ = (([] : List ByteArray)) := ⟨_, rfl⟩
    replace H : (some (0, (⟨#[]⟩ : ByteArray), y605, a1, false)) = some (r1, r2, r3, r4, r5) := by first | (rw [hy605]; with_reducible exact H) | (have H2_ := (Option.bind_some _ _).symm.trans H; rw [hy605]; with_reducible exact H2_) | (have H2_ := (Option.bind_some _ _).symm.trans H; with_reducible exact H2_) | with_reducible exact H | (rw [hy605]; exact H) | exact H
    have Ny605 := Aside0.mk hy605
    clear hy605
    simp only [Option.some.injEq, Prod.mk.injEq] at H
    obtain ⟨rfl, rfl, rfl, rfl, rfl⟩ := H
    go_wp2_with (first | ((with_reducible refine gate_dst (N := 41) rfl ?_); (try (refine gate_guard (by rfl) ?_; dsimp only)); refine rl_ Kd.string 9 41 ([] : List ByteArray) [] ?_; intro v606 w8 ho9 hb hg_ hnew_; clear hg_ hnew_; (first | rw [← Ny605.out] at ho9 | (simp only [Int.reduceToNat] at ho9; rw [← Ny605.out] at ho9)); have HO607 := Aside0.mk (Kd.R_lower ho9 (below_size (bs1_ HB GE601.out))); replace BK601 := Aside0.mk (blk_below (g := gb601) (o := .cells #[.int .i64 0, .string (⟨#[]⟩ : ByteArray)] 31 (0, 0)) (kb_ BK601.out) hb); replace HB := Aside0.mk (below_step (bs1_ HB GE601.out) hb); clear hb ho9; have hcz10_0 := bc0_ BK601.out; have hcz10_1 := bc1_ BK601.out; have hfz10_0 := blk_frozen BK601.out 0; have hfz10_1 := blk_frozen BK601.out 1))
    refine bodyPost_ret (results_list (rs := [.cell 4 31, .tmp 5, .tmp 6, .tmp 7]) rfl (by simp) (.cell gb601 31 #[.int .i64 0, .string (⟨#[]⟩ : ByteArray)] (0, 0) _ rfl (by (with_reducible repeat (first | refine blk_drewN ?_ _ | refine blk_drew ?_ | refine blk_alloc ?_ _)); refine blk_put (cs := #[.int .i64 0, .string (⟨#[]⟩ : ByteArray)]) ?_ 1 _ rfl; (with_reducible repeat (first | refine blk_drewN ?_ _ | refine blk_drew ?_ | refine blk_alloc ?_ _)); refine blk_put (cs := #[.int .i64 0, .string (⟨#[]⟩ : ByteArray)]) ?_ 0 _ rfl; (with_reducible repeat (first | refine blk_drewN ?_ _ | refine blk_drew ?_ | refine blk_alloc ?_ _)); exact BK601.out) Try.underlying31 rfl (by kernel_rfl) (.tmp (.tmp (.tmp .nil))))) rfl ?_
    exact ⟨_, e2_, by (with_reducible repeat (first | apply Kd.R_alloc | apply Kd.R_drewN | apply Kd.R_drew)); exact Kd.R_mono (Kd.R_far (p := ⟨gb601, 1, none⟩) (Kd.R_far (p := ⟨gb601, 0, none⟩) (Kd.R_types HO607.out BK601.out (by decide)) (fun _ hk => hk.2) (.int .i64 0)) (fun _ hk => hk.2) (.string (⟨#[]⟩ : ByteArray))) (fun _ hk => trivial), by repeat (first | (with_reducible first | exact HB.out | apply below_alloc | apply pw_below_drewN | apply below_drew1 | refine below_set ?_ GE601.out) | exact HB.out)⟩
   ·replace c7 := Bool.eq_false_iff.mpr c7
    subst c7
    rw [if_neg nf_] at H
    by_cases c11 : 0 ≤ t603
    ·rw [if_pos c11] at H
     have c11b0 := eq_true c11
     have c11b1 := decide_eq_true c11
     clear c11
     by_cases c12 : t603 ≤ (wrap64 (t603 + t602))
     ·rw [if_pos c12] at H
      have c12b0 := eq_true c12
      have c12b1 := decide_eq_true c12
      by_cases c13 : (wrap64 (t603 + t602)) ≤ (l0.length : Int)
      ·rw [if_pos c13] at H
       have c13b0 := eq_true c13
       have c13b1 := decide_eq_true c13
       replace H := Option.bind_eq_some_iff.mp H
       obtain ⟨⟨t609, t610, t611⟩, A140, H⟩ := H
       dsimp only at H
       have A14 := Aside0.mk A140
       clear A140
       replace H := Option.bind_eq_some_iff.mp H
       obtain ⟨⟨t612, t613, t614⟩, A150, H⟩ := H
       dsimp only at H
       have A15 := Aside0.mk A150
       clear A150
       replace H := Option.bind_eq_some_iff.mp H
       obtain ⟨⟨t615, t616, t617⟩, A160, H⟩ := H
       dsimp only at H
       have A16 := Aside0.mk A160
       clear A160
       obtain ⟨i0116, hi0116, _, hsz116, _⟩ := info_parts info5
       obtain ⟨A116, hcut116, hA116, hC116⟩ := print_mid_of (P := Try.prog) (Value.int .u8) 0 29 5 .i64 .i64 Try.underlying29 hi0116 hsz116 A0 c0 l0 t603 (wrap64 (t603 + t602)) (of_decide_eq_true as_) (by first | omega | exact of_decide_eq_true as_) (of_decide_eq_true as_) HC0.out
       have HR608 := Aside0.mk (Kd.C_of_reads (h1 := fun _ => rfl) (hA116 _ (Kd.reads_of_C HR0.out)))
       have HC608 := Aside0.mk hC116
       clear hA116 hC116 hi0116 hsz116
       try go_wp2_with (first | ((with_reducible refine gk_ 101 ?_); refine gl_ 51 Try.func101 #[.slice A116 ((l0.take ((wrap64 (t603 + t602)) : Int).toNat).drop (t603 : Int).toNat).length (c0 - t603.toNat), .int .i64 0] ?_ (hargs := (by (try simp only [List.map_toArray, List.map_cons, List.map_nil]); first | done | (rw [show ((l0.take ((wrap64 (t603 + t602)) : Int).toNat).drop (t603 : Int).toNat).length = ((wrap64 (t603 + t602)).toNat - t603.toNat) from (by rw [List.length_drop, List.length_take]; have h_ : ((wrap64 (t603 + t602)) : Int) ≤ (l0.length : Int) := of_decide_eq_true as_; omega)] <;> rfl) | rfl | (simp only [List.length_drop, List.length_take]; rfl))); (with_reducible refine (spec_GetNum.calls kj3 _ _ ((l0.take ((wrap64 (t603 + t602)) : Int).toNat).drop (t603 : Int).toNat) 0 t609 t610 t611 _ ?side1 ?side2 A14.out).mono ?_); (case side1 => exact cr_ (Kd.C_below HR608.out HB.out)); (case side2 => exact HC608.out); rintro e w' ⟨rfl, ⟨nd, rfl⟩⟩; refine ⟨_, rfl, ?_⟩; (try (rw [drewN_self wc]; generalize hq_ : World.drewN wc _ = wc; have n0_ : Aside0 (wc.heap[gb601]? = some (.cells #[.int .i64 0, .string (⟨#[]⟩ : ByteArray)] 31 (0, 0))) := ⟨by rw [← hq_]; exact (kb_ BK601.out)⟩; have n1_ : Aside0 (Below w.heap.size w wc) := ⟨by rw [← hq_]; exact (bs1_ HB GE601.out)⟩; clear BK601 HB hq_; have BK601 := n0_; have HB := n1_; clear n0_ n1_))) | ((with_reducible refine gk_ 102 ?_); refine gl_ 58 Try.func102 #[.slice A116 ((l0.take ((wrap64 (t603 + t602)) : Int).toNat).drop (t603 : Int).toNat).length (c0 - t603.toNat), .int .i64 t610] ?_ (hargs := (by (try simp only [List.map_toArray, List.map_cons, List.map_nil]); first | done | (rw [show ((l0.take ((wrap64 (t603 + t602)) : Int).toNat).drop (t603 : Int).toNat).length = ((wrap64 (t603 + t602)).toNat - t603.toNat) from (by rw [List.length_drop, List.length_take]; have h_ : ((wrap64 (t603 + t602)) : Int) ≤ (l0.length : Int) := of_decide_eq_true as_; omega)] <;> rfl) | rfl | (simp only [List.length_drop, List.length_take]; rfl))); (with_reducible refine (spec_GetText.calls kj3 _ _ ((l0.take ((wrap64 (t603 + t602)) : Int).toNat).drop (t603 : Int).toNat) t610 t612 t613 t614 _ ?side1 ?side2 A15.out).mono ?_); (case side1 => exact cr_ (Kd.C_below HR608.out HB.out)); (case side2 => exact HC608.out); rintro e w' ⟨rfl, ⟨nd, rfl⟩⟩; refine ⟨_, rfl, ?_⟩; (try (rw [drewN_self wc]; generalize hq_ : World.drewN wc _ = wc; have n0_ : Aside0 (wc.heap[gb601]? = some (.cells #[.int .i64 0, .string (⟨#[]⟩ : ByteArray)] 31 (0, 0))) := ⟨by rw [← hq_]; exact (kb_ BK601.out)⟩; have n1_ : Aside0 (Below w.heap.size w wc) := ⟨by rw [← hq_]; exact (bs1_ HB GE601.out)⟩; clear BK601 HB hq_; have BK601 := n0_; have HB := n1_; clear n0_ n1_))) | ((with_reducible refine gk_ 103 ?_); refine gl_ 65 Try.func103 #[.slice A116 ((l0.take ((wrap64 (t603 + t602)) : Int).toNat).drop (t603 : Int).toNat).length (c0 - t603.toNat), .int .i64 t613] ?_ (hargs := (by (try simp only [List.map_toArray, List.map_cons, List.map_nil]); first | done | (rw [show ((l0.take ((wrap64 (t603 + t602)) : Int).toNat).drop (t603 : Int).toNat).length = ((wrap64 (t603 + t602)).toNat - t603.toNat) from (by rw [List.length_drop, List.length_take]; have h_ : ((wrap64 (t603 + t602)) : Int) ≤ (l0.length : Int) := of_decide_eq_true as_; omega)] <;> rfl) | rfl | (simp only [List.length_drop, List.length_take]; rfl))); (with_reducible refine (spec_GetTexts.calls kj3 _ _ ((l0.take ((wrap64 (t603 + t602)) : Int).toNat).drop (t603 : Int).toNat) t613 t615 t616 t617 _ ?side1 ?side2 A16.out).mono ?_); (case side1 => exact cr_ (Kd.C_below HR608.out HB.out)); (case side2 => exact HC608.out); rintro e w117 ⟨v618, rfl, ho0, hb⟩; refine ⟨_, rfl, ?_⟩; have HO619 := Aside0.mk (Kd.R_lower ho0 (below_size (bs1_ HB GE601.out))); replace BK601 := Aside0.mk (blk_below (g := gb601) (o := .cells #[.int .i64 0, .string (⟨#[]⟩ : ByteArray)] 31 (0, 0)) (kb_ BK601.out) hb); replace HB := Aside0.mk (below_step (bs1_ HB GE601.out) hb); clear hb ho0) | ((with_reducible refine gate_dst (N := 21) rfl ?_); (try (refine gate_guard (by rfl) ?_; dsimp only)); refine box_event ?hg (N := 21) ?hd (cs := #[.int .i64 0, .string (⟨#[]⟩ : ByteArray)]) (t := 31) ?hr ?_; (case hd => rfl); (case hg => rfl); (case hr => first | (go_simp; done) | (go_simp; rfl)); intro gb620 hg w118 hbox hb; replace HO619 := Aside0.mk (Kd.R_below (kr_ HO619.out) hb); have BK620 := Aside0.mk (hbox); have GW620 := Aside0.mk ((by rw [hg]; exact (below_size (bs1_ HB GE601.out)) : w.heap.size ≤ gb620)); have GE620 := Aside0.mk ((by rw [hg]; exact (below_size (bs1_ HB GE601.out)) : w.heap.size ≤ gb620)); replace HB := Aside0.mk (below_step (bs1_ HB GE601.out) hb); have NB601_620 := Aside0.mk ((by rw [hg]; exact Nat.ne_of_lt (blk_lt (g := gb601) (o := .cells #[.int .i64 0, .string (⟨#[]⟩ : ByteArray)] 31 (0, 0)) (kb_ BK601.out)) : gb601 ≠ gb620)); have NB620_601 := Aside0.mk ((by rw [hg]; exact Nat.ne_of_gt (blk_lt (g := gb601) (o := .cells #[.int .i64 0, .string (⟨#[]⟩ : ByteArray)] 31 (0, 0)) (kb_ BK601.out)) : gb620 ≠ gb601)); replace BK601 := Aside0.mk (blk_below (g := gb601) (o := .cells #[.int .i64 0, .string (⟨#[]⟩ : ByteArray)] 31 (0, 0)) (kb_ BK601.out) hb); clear hb hbox hg; have hnb119 := NB620_601.out; have hnc119 := NB601_620.out; have hcz120_0 := bc0_ BK620.out; have hcz120_1 := bc1_ BK620.out; have hfz120_0 := blk_frozen BK620.out 0; have hfz120_1 := blk_frozen BK620.out 1))
       have n0_ : Aside0 (Kd.R Kd.string 9 ((w118.setCell ⟨gb620, 0, none⟩ (.int .i64 t609)).setCell ⟨gb620, 1, none⟩ (.string t612)) w.heap.size (fun _ => True) v618 t615) := ⟨by (with_reducible repeat (first | apply Kd.R_alloc | apply Kd.R_drewN | apply Kd.R_drew)); exact Kd.R_mono (Kd.R_far (p := ⟨gb620, 1, none⟩) (Kd.R_far (p := ⟨gb620, 0, none⟩) (Kd.R_types HO619.out BK620.out (by decide)) (fun _ hk => hk.2) (.int .i64 t609)) (fun _ hk => hk.2) (.string t612)) (fun _ hk => trivial)⟩
       have n1_ : Aside0 (((w118.setCell ⟨gb620, 0, none⟩ (.int .i64 t609)).setCell ⟨gb620, 1, none⟩ (.string t612)).heap[gb601]? = some (.cells #[.int .i64 0, .string (⟨#[]⟩ : ByteArray)] 31 (0, 0))) := ⟨by (with_reducible repeat (first | refine blk_drewN ?_ _ | refine blk_drew ?_ | refine blk_alloc ?_ _)); refine blk_far ?_ NB601_620.out _; (with_reducible repeat (first | refine blk_drewN ?_ _ | refine blk_drew ?_ | refine blk_alloc ?_ _)); refine blk_far ?_ NB601_620.out _; (with_reducible repeat (first | refine blk_drewN ?_ _ | refine blk_drew ?_ | refine blk_alloc ?_ _)); exact BK601.out⟩
       have n2_ : Aside0 (((w118.setCell ⟨gb620, 0, none⟩ (.int .i64 t609)).setCell ⟨gb620, 1, none⟩ (.string t612)).heap[gb620]? = some (.cells #[.int .i64 t609, .string t612] 31 (0, 0))) := ⟨by (with_reducible repeat (first | refine blk_drewN ?_ _ | refine blk_drew ?_ | refine blk_alloc ?_ _)); refine blk_put (cs := #[.int .i64 t609, .string (⟨#[]⟩ : ByteArray)]) ?_ 1 _ rfl; (with_reducible repeat (first | refine blk_drewN ?_ _ | refine blk_drew ?_ | refine blk_alloc ?_ _)); refine blk_put (cs := #[.int .i64 0, .string (⟨#[]⟩ : ByteArray)]) ?_ 0 _ rfl; (with_reducible repeat (first | refine blk_drewN ?_ _ | refine blk_drew ?_ | refine blk_alloc ?_ _)); exact BK620.out⟩
       have n3_ : Aside0 (Below w.heap.size w ((w118.setCell ⟨gb620, 0, none⟩ (.int .i64 t609)).setCell ⟨gb620, 1, none⟩ (.string t612))) := ⟨by repeat (first | (with_reducible first | exact HB.out | apply below_alloc | apply pw_below_drewN | apply below_drew1 | refine below_set ?_ GE601.out | refine below_set ?_ GE620.out) | exact HB.out)⟩
       (try clear HO619)
       (try clear BK601)
       (try clear BK620)
       (try clear HB)
       generalize ((w118.setCell ⟨gb620, 0, none⟩ (.int .i64 t609)).setCell ⟨gb620, 1, none⟩ (.string t612)) = w121 at n0_ n1_ n2_ n3_ ⊢
       have HO619 := n0_
       have BK601 := n1_
       have BK620 := n2_
       have HB := n3_
       clear n0_ n1_ n2_ n3_
       have n0_ := Aside0.mk (Kd.R_drew HO619.out)
       have n1_ := Aside0.mk (blk_drew BK601.out)
       have n2_ := Aside0.mk (blk_drew BK620.out)
       have n3_ := Aside0.mk (below_drew1 HB.out)
       clear HO619
       clear BK601
       clear BK620
       clear HB
       have HO619 := n0_
       have BK601 := n1_
       have BK620 := n2_
       have HB := n3_
       clear n0_ n1_ n2_ n3_
       obtain ⟨Ao52, co52, eo52⟩ := Kd.R_slice HO619.out
       subst eo52
       have hlenq : ((l0.take ((wrap64 (t603 + t602)) : Int).toNat).drop (t603 : Int).toNat).length = ((wrap64 (t603 + t602)).toNat - t603.toNat) := (by rw [List.length_drop, List.length_take]; have h_ : ((wrap64 (t603 + t602)) : Int) ≤ (l0.length : Int) := of_decide_eq_true as_; omega)
       refine start_ (n := 42) (S := fun w' => w'.cell? ⟨gb620, 0, none⟩ = some (.int .i64 t609) ∧ w'.cell? ⟨gb620, 1, none⟩ = some (.string t612) ∧ Kd.C (Kd.int .u8) w' A0 l0.length l0) (ds := []) (lz_ 42 0) (by kernel_rfl) rfl rfl ⟨(blk_cell BK620.out 0).trans rfl, (blk_cell BK620.out 1).trans rfl, Kd.C_below HR0.out HB.out⟩ (fun hHeld => ?_); refine with_tabW spec_GetCommit.tab9 spec_GetCommit.bits9 (fun HT_ HW_ => ?_)
       generalize w121.drew = w122 at HO619 BK601 BK620 HB hHeld ⊢
       refine join_ (σ := List Value) 0 (lz_ 42 4398046511103) (fun s => [(72, s.getD 0 undef), (73, s.getD 1 undef), (74, s.getD 2 undef), (75, s.getD 3 undef), (76, s.getD 4 undef), (77, s.getD 5 undef), (78, s.getD 6 undef), (79, s.getD 7 undef), (80, s.getD 8 undef), (81, s.getD 9 undef), (82, s.getD 10 undef), (83, s.getD 11 undef), (84, s.getD 12 undef), (85, s.getD 13 undef), (86, s.getD 14 undef), (87, s.getD 15 undef), (88, s.getD 16 undef), (89, s.getD 17 undef), (90, s.getD 18 undef), (91, s.getD 19 undef), (92, s.getD 20 undef), (93, s.getD 21 undef), (94, s.getD 22 undef), (95, s.getD 23 undef), (96, s.getD 24 undef), (97, s.getD 25 undef), (98, s.getD 26 undef), (99, s.getD 27 undef), (100, s.getD 28 undef), (101, s.getD 29 undef), (102, s.getD 30 undef), (103, s.getD 31 undef), (104, s.getD 32 undef), (105, s.getD 33 undef), (106, s.getD 34 undef), (107, s.getD 35 undef), (108, s.getD 36 undef), (109, s.getD 37 undef), (110, s.getD 38 undef), (111, s.getD 39 undef), (112, s.getD 40 undef), (113, .bool true)]) (fun (s : List Value) (w' : World) => some ((0 : Int), (⟨#[]⟩ : ByteArray), ([] : List ByteArray), a1, false) = some (r1, r2, r3, r4, r5) ∧ Kd.R Kd.string 9 w' w.heap.size (fun _ => True) (.slice Ao52 t615.length co52) t615 ∧ w'.heap[gb601]? = some (.cells #[.int .i64 0, .string (⟨#[]⟩ : ByteArray)] 31 (0, 0)) ∧ w'.heap[gb620]? = some (.cells #[.int .i64 t609, .string t612] 31 (0, 0)) ∧ Below w.heap.size w w') ?_ ?_
       rotate_left
       ·intro hJ41
        refine join_ (σ := List Value) 16 (lz_ 42 67108863) (fun s => [(72, s.getD 0 undef), (73, s.getD 1 undef), (74, s.getD 2 undef), (75, s.getD 3 undef), (76, s.getD 4 undef), (77, s.getD 5 undef), (78, s.getD 6 undef), (79, s.getD 7 undef), (80, s.getD 8 undef), (81, s.getD 9 undef), (82, s.getD 10 undef), (83, s.getD 11 undef), (84, s.getD 12 undef), (85, s.getD 13 undef), (86, s.getD 14 undef), (87, s.getD 15 undef), (88, s.getD 16 undef), (89, s.getD 17 undef), (90, s.getD 18 undef), (91, s.getD 19 undef), (92, s.getD 20 undef), (93, s.getD 21 undef), (94, s.getD 22 undef), (95, s.getD 23 undef), (96, s.getD 24 undef), (97, .bool true)]) (fun (s : List Value) (w' : World) => some ((0 : Int), (⟨#[]⟩ : ByteArray), ([] : List ByteArray), a1, false) = some (r1, r2, r3, r4, r5) ∧ Kd.R Kd.string 9 w' w.heap.size (fun _ => True) (.slice Ao52 t615.length co52) t615 ∧ w'.heap[gb601]? = some (.cells #[.int .i64 0, .string (⟨#[]⟩ : ByteArray)] 31 (0, 0)) ∧ w'.heap[gb620]? = some (.cells #[.int .i64 t609, .string t612] 31 (0, 0)) ∧ Below w.heap.size w w') ?_ ?_
        rotate_left
        ·intro hJ25
         refine join_ (σ := List Value) 21 (lz_ 42 2097151) (fun s => [(72, s.getD 0 undef), (73, s.getD 1 undef), (74, s.getD 2 undef), (75, s.getD 3 undef), (76, s.getD 4 undef), (77, s.getD 5 undef), (78, s.getD 6 undef), (79, s.getD 7 undef), (80, s.getD 8 undef), (81, s.getD 9 undef), (82, s.getD 10 undef), (83, s.getD 11 undef), (84, s.getD 12 undef), (85, s.getD 13 undef), (86, s.getD 14 undef), (87, s.getD 15 undef), (88, s.getD 16 undef), (89, s.getD 17 undef), (90, s.getD 18 undef), (91, s.getD 19 undef), (92, .bool true)]) (fun (s : List Value) (w' : World) => some ((0 : Int), (⟨#[]⟩ : ByteArray), ([] : List ByteArray), a1, false) = some (r1, r2, r3, r4, r5) ∧ Kd.R Kd.string 9 w' w.heap.size (fun _ => True) (.slice Ao52 t615.length co52) t615 ∧ w'.heap[gb601]? = some (.cells #[.int .i64 0, .string (⟨#[]⟩ : ByteArray)] 31 (0, 0)) ∧ w'.heap[gb620]? = some (.cells #[.int .i64 t609, .string t612] 31 (0, 0)) ∧ Below w.heap.size w w') ?_ ?_
         rotate_left
         ·intro hJ20
          refine join_ (σ := List Value) 26 (lz_ 42 65535) (fun s => [(72, s.getD 0 undef), (73, s.getD 1 undef), (74, s.getD 2 undef), (75, s.getD 3 undef), (76, s.getD 4 undef), (77, s.getD 5 undef), (78, s.getD 6 undef), (79, s.getD 7 undef), (80, s.getD 8 undef), (81, s.getD 9 undef), (82, s.getD 10 undef), (83, s.getD 11 undef), (84, s.getD 12 undef), (85, s.getD 13 undef), (86, s.getD 14 undef), (87, .bool true)]) (fun (s : List Value) (w' : World) => some ((0 : Int), (⟨#[]⟩ : ByteArray), ([] : List ByteArray), a1, false) = some (r1, r2, r3, r4, r5) ∧ Kd.R Kd.string 9 w' w.heap.size (fun _ => True) (.slice Ao52 t615.length co52) t615 ∧ w'.heap[gb601]? = some (.cells #[.int .i64 0, .string (⟨#[]⟩ : ByteArray)] 31 (0, 0)) ∧ w'.heap[gb620]? = some (.cells #[.int .i64 t609, .string t612] 31 (0, 0)) ∧ Below w.heap.size w w') ?_ ?_
          rotate_left
          ·intro hJ15
           refine join_ (σ := List Value) 32 (lz_ 42 1023) (fun s => [(72, s.getD 0 undef), (73, s.getD 1 undef), (74, s.getD 2 undef), (75, s.getD 3 undef), (76, s.getD 4 undef), (77, s.getD 5 undef), (78, s.getD 6 undef), (79, s.getD 7 undef), (80, s.getD 8 undef), (81, .bool true)]) (fun (s : List Value) (w' : World) => some ((0 : Int), (⟨#[]⟩ : ByteArray), ([] : List ByteArray), a1, false) = some (r1, r2, r3, r4, r5) ∧ Kd.R Kd.string 9 w' w.heap.size (fun _ => True) (.slice Ao52 t615.length co52) t615 ∧ w'.heap[gb601]? = some (.cells #[.int .i64 0, .string (⟨#[]⟩ : ByteArray)] 31 (0, 0)) ∧ w'.heap[gb620]? = some (.cells #[.int .i64 t609, .string t612] 31 (0, 0)) ∧ Below w.heap.size w w') ?_ ?_
           rotate_left
           ·intro hJ9
            refine join_ (σ := List Value) 36 (lz_ 42 63) (fun s => [(72, s.getD 0 undef), (73, s.getD 1 undef), (74, s.getD 2 undef), (75, s.getD 3 undef), (76, s.getD 4 undef), (77, .bool true)]) (fun (s : List Value) (w' : World) => some ((0 : Int), (⟨#[]⟩ : ByteArray), ([] : List ByteArray), a1, false) = some (r1, r2, r3, r4, r5) ∧ Kd.R Kd.string 9 w' w.heap.size (fun _ => True) (.slice Ao52 t615.length co52) t615 ∧ w'.heap[gb601]? = some (.cells #[.int .i64 0, .string (⟨#[]⟩ : ByteArray)] 31 (0, 0)) ∧ w'.heap[gb620]? = some (.cells #[.int .i64 t609, .string t612] 31 (0, 0)) ∧ Below w.heap.size w w') ?_ ?_
            rotate_left
            ·intro hJ5
             cases t611 with
             | false =>
              rw [if_neg (by decide)] at H
              refine pts_ 0 72 1 ?_
              refine pts_ 1 73 3 ?_
              refine pts_ 2 74 7 ?_
              refine uts_ 3 75 15 ?_
              refine uts_ 4 76 31 ?_
              refine pts_ 5 77 63 ?_
              exact norm_ (by first | (simp only [putAll, Act.put, sT, sZ, sS, List.getD_cons_zero, List.getD_cons_succ]; done) | (simp only [putAll, Act.put, sT, sZ, sS, List.getD_cons_zero, List.getD_cons_succ]; rfl)) (hJ5 [_, _, _, _, _] _ ⟨H, (kr_ HO619.out), (kb_ BK601.out), (kb_ BK620.out), (bw_ HB)⟩)
             | true =>
              rw [if_pos rfl] at H
              refine pts_ 0 72 1 ?_
              refine pts_ 1 73 3 ?_
              refine pts_ 2 74 7 ?_
              cases t614 with
              | false =>
               rw [if_neg (by decide)] at H
               refine pts_ 3 75 15 ?_
               refine pts_ 4 76 31 ?_
               refine pts_ 5 77 63 ?_
               exact norm_ (by first | (simp only [putAll, Act.put, sT, sZ, sS, List.getD_cons_zero, List.getD_cons_succ]; done) | (simp only [putAll, Act.put, sT, sZ, sS, List.getD_cons_zero, List.getD_cons_succ]; rfl)) (hJ5 [_, _, _, _, _] _ ⟨H, (kr_ HO619.out), (kb_ BK601.out), (kb_ BK620.out), (bw_ HB)⟩)
              | true =>
               rw [if_pos rfl] at H
               refine pts_ 3 75 15 ?_
               refine pts_ 4 76 31 ?_
               refine pts_ 5 77 63 ?_
               cases t617 with
               | false =>
                rw [if_neg (by decide)] at H
                refine pts_ 6 78 127 ?_
                refine pts_ 7 79 255 ?_
                refine pts_ 8 80 511 ?_
                refine pts_ 9 81 1023 ?_
                exact norm_ (by first | (simp only [putAll, Act.put, sT, sZ, sS, List.getD_cons_zero, List.getD_cons_succ]; done) | (simp only [putAll, Act.put, sT, sZ, sS, List.getD_cons_zero, List.getD_cons_succ]; rfl)) (hJ9 [_, _, _, _, _, _, _, _, _] _ ⟨H, (kr_ HO619.out), (kb_ BK601.out), (kb_ BK620.out), (bw_ HB)⟩)
               | true =>
                rw [if_pos rfl] at H
                refine pts_ 6 78 127 ?_
                refine pts_ 7 79 255 ?_
                refine pts_ 8 80 511 ?_
                refine pts_ 9 81 1023 ?_
                refine pts_ 10 82 2047 ?_
                by_cases c20 : t616 = (((l0.take ((wrap64 (t603 + t602)) : Int).toNat).drop (t603 : Int).toNat).length : Int)
                ·rw [if_pos c20] at H
                 have c20b0 : (t616 == (((l0.take ((wrap64 (t603 + t602)) : Int).toNat).drop (t603 : Int).toNat).length : Int)) = true := beq_iff_eq.mpr c20
                 have c20b1 : (t616 != (((l0.take ((wrap64 (t603 + t602)) : Int).toNat).drop (t603 : Int).toNat).length : Int)) = false := bne_eq_false_iff_eq.mpr c20
                 have c20n0 := c20b0
                 rw [hlenq] at c20n0
                 have c20n1 := c20b1
                 rw [hlenq] at c20n1
                 refine pts_ 11 83 4095 ?_
                 refine pts_ 12 84 8191 ?_
                 refine pts_ 13 85 16383 ?_
                 refine pts_ 14 86 32767 ?_
                 refine pts_ 15 87 65535 ?_
                 refine pts_ 16 88 131071 ?_
                 replace H := Option.bind_eq_some_iff.mp H
                 obtain ⟨t621, A210, H⟩ := H
                 have A21 := Aside0.mk A210
                 clear A210
                 refine tts_ 17 89 262143 ?_
                 refine one_ (i := 18) (N := some 90) (lz_ 42 524287) rfl rfl (one_of HT_.out (by kernel_rfl)) (by decide) (fun K hK => ?_)
                 refine goes_ Try.func38 (by kernel_rfl) rfl #[.agg #[.int .i64 t609, .string t612]] (by rfl) rfl rfl (by (try simp only [List.map_toArray, List.map_cons, List.map_nil]); first | done | (rw [hlenq] <;> rfl) | rfl) ?_
                 with_reducible refine (spec_HeadOk.calls t609 t612 t621 _ A21.out).mono ?_
                 rintro e w51 ⟨rfl, hb⟩
                 refine ⟨_, rfl, ?_⟩
                 have n0_ := Aside0.mk (Kd.R_below (kr_ HO619.out) hb)
                 have n1_ := Aside0.mk (blk_below BK601.out hb)
                 have n2_ := Aside0.mk (blk_below BK620.out hb)
                 have n3_ := Aside0.mk (below_step HB.out hb)
                 clear HO619 BK601 BK620 HB
                 have HO619 := n0_
                 have BK601 := n1_
                 have BK620 := n2_
                 have HB := n3_
                 clear n0_ n1_ n2_ n3_
                 (try clear hb)
                 refine hK.out _ _ ⟨(blk_cell BK620.out 0).trans rfl, (blk_cell BK620.out 1).trans rfl, Kd.C_below HR0.out HB.out⟩ (fun hHeld => ?_)
                 clear hK K
                 refine norm_ (a' := ?_) ?_ ?_
                 rotate_left
                 ·show Act.put _ (some 90) _ = _
                  simp only [Act.put, sT, sZ, sS, i64_w, i32_w]
                  rfl
                 cases t621 with
                 | false =>
                  rw [if_neg (by decide)] at H
                  refine pts_ 19 91 1048575 ?_
                  refine pts_ 20 92 2097151 ?_
                  exact norm_ (by first | (simp only [putAll, Act.put, sT, sZ, sS, List.getD_cons_zero, List.getD_cons_succ]; done) | (simp only [putAll, Act.put, sT, sZ, sS, List.getD_cons_zero, List.getD_cons_succ]; rfl)) (hJ20 [_, _, _, _, _, _, _, _, _, _, _, _, _, _, _, _, _, _, _, _] _ ⟨H, (kr_ HO619.out), (kb_ BK601.out), (kb_ BK620.out), (bw_ HB)⟩)
                 | true =>
                  rw [if_pos rfl] at H
                  refine pts_ 19 91 1048575 ?_
                  refine pts_ 20 92 2097151 ?_
                  refine pts_ 21 93 4194303 ?_
                  by_cases c23 : (t615.length : Int) = 0
                  ·rw [if_pos c23] at H
                   have c23b0 : ((t615.length : Int) == 0) = true := beq_iff_eq.mpr c23
                   have c23b1 : ((t615.length : Int) != 0) = false := bne_eq_false_iff_eq.mpr c23
                   have c23b2 : t615 = [] := List.eq_nil_of_length_eq_zero (by omega)
                   refine pts_ 22 94 8388607 ?_
                   refine pts_ 23 95 16777215 ?_
                   refine pts_ 24 96 33554431 ?_
                   refine pts_ 25 97 67108863 ?_
                   exact norm_ (by first | (simp only [putAll, Act.put, sT, sZ, sS, List.getD_cons_zero, List.getD_cons_succ]; done) | (simp only [putAll, Act.put, sT, sZ, sS, List.getD_cons_zero, List.getD_cons_succ]; rfl)) (hJ25 [_, _, _, _, _, _, _, _, _, _, _, _, _, _, _, _, _, _, _, _, _, _, _, _, _] _ ⟨H, (kr_ HO619.out), (kb_ BK601.out), (kb_ BK620.out), (bw_ HB)⟩)
                  ·rw [if_neg c23] at H
                   have c23b0 : ((t615.length : Int) == 0) = false := beq_eq_false_iff_ne.mpr c23
                   have c23b1 : ((t615.length : Int) != 0) = true := bne_iff_ne.mpr c23
                   have c23b2 : ¬ (t615 = []) := fun h_ => c23 (by rw [h_]; rfl)
                   refine pts_ 22 94 8388607 ?_
                   refine pts_ 23 95 16777215 ?_
                   refine pts_ 24 96 33554431 ?_
                   refine pts_ 25 97 67108863 ?_
                   refine pts_ 26 98 134217727 ?_
                   by_cases c37 : 0 ≤ (wrap64 (t603 + t602))
                   ·rw [if_pos c37] at H
                    have c37b0 := eq_true c37
                    have c37b1 := decide_eq_true c37
                    by_cases c38 : (wrap64 (t603 + t602)) ≤ (wrap64 ((wrap64 (t603 + t602)) + 4))
                    ·rw [if_pos c38] at H
                     have c38b0 := eq_true c38
                     have c38b1 := decide_eq_true c38
                     by_cases c39 : (wrap64 ((wrap64 (t603 + t602)) + 4)) ≤ (l0.length : Int)
                     ·rw [if_pos c39] at H
                      have c39b0 := eq_true c39
                      have c39b1 := decide_eq_true c39
                      obtain ⟨t626, A400, H⟩ := Option.bind_eq_some_iff.mp H
                      have A40 := Aside0.mk A400
                      clear A400
                      rw [if_pos (by decide)] at H
                      by_cases c42 : 4 ≤ (t626.size : Int)
                      ·rw [if_pos c42] at H
                       have c41b0 := eq_true (show (0 : Int) ≤ 4 by decide)
                       have c41b1 : decide ((0 : Int) ≤ 4) = true := by decide
                       have c42b0 := eq_true c42
                       have c42b1 := decide_eq_true c42
                       obtain ⟨i053, hi053, _, hsz53, _⟩ := info_parts info5
                       obtain ⟨A53, hcut53, hA53, hC53⟩ := print_mid_of (P := Try.prog) (Value.int .u8) 0 29 5 .i64 .i64 Try.underlying29 hi053 hsz53 A0 c0 l0 (wrap64 (t603 + t602)) (wrap64 ((wrap64 (t603 + t602)) + 4)) c37 c38 c39 HC0.out
                       have hleno : ((l0.take ((wrap64 ((wrap64 (t603 + t602)) + 4)) : Int).toNat).drop ((wrap64 (t603 + t602)) : Int).toNat).length = ((wrap64 ((wrap64 (t603 + t602)) + 4)).toNat - (wrap64 (t603 + t602)).toNat) := by rw [List.length_drop, List.length_take]; omega
                       have hcut54 := hcut53
                       simp only [hleno] at hcut54
                       clear hi053 hsz53 hC53
                       refine pts_ 27 99 268435455 ?_
                       refine pts_ 28 100 536870911 ?_
                       refine pts_ 29 101 1073741823 ?_
                       refine pts_ 30 102 2147483647 ?_
                       refine pts_ 31 103 4294967295 ?_
                       refine pts_ 32 104 8589934591 ?_
                       refine pts_ 33 105 17179869183 ?_
                       refine pts_ 34 106 34359738367 ?_
                       refine pts_ 35 107 68719476735 ?_
                       refine take_ (i := 36) (N := some 108) (v := ?_) (a' := ?_) (lz_ 42 137438953471) rfl rfl (take_ofW HT_.out HW_.out (by kernel_rfl)) (fun _ _ _ h => h) (Or.inl ⟨by rfl, ?_⟩) hHeld ?_ ?_
                       rotate_left
                       ·rintro w' ⟨s0, s1, s2⟩
                        have hcv := Kd.C_string (P := Try.prog) (A := A53) (c := (c0 - (wrap64 (t603 + t602)).toNat)) Try.underlying29 Try.underlying5 Try.underlying9 (Kd.C_of_reads (h1 := fun _ => rfl) (hA53 _ (Kd.reads_of_C s2)))
                        have hcw := hcv
                        rw [hleno] at hcw
                        go_simp
                        with_reducible rfl
                       rotate_left
                       ·simp only [Act.put, sT, sZ, sS, i64_w, i32_w]
                        rfl
                       refine pts_ 37 109 274877906943 ?_
                       refine one_ (i := 38) (N := some 110) (lz_ 42 549755813887) rfl rfl (one_of HT_.out (by kernel_rfl)) (by decide) (fun K hK => ?_)
                       refine goes_ Try.func92 (by kernel_rfl) rfl #[.slice A116 ((l0.take ((wrap64 (t603 + t602)) : Int).toNat).drop (t603 : Int).toNat).length (c0 - t603.toNat)] (by rfl) rfl rfl (by (try simp only [List.map_toArray, List.map_cons, List.map_nil]); first | done | (rw [hlenq] <;> rfl) | rfl) ?_
                       with_reducible refine (spec_Digest.calls kj3 _ _ ((l0.take ((wrap64 (t603 + t602)) : Int).toNat).drop (t603 : Int).toNat) t626 _ ?side1 ?side2 A40.out).mono ?_
                       (case side1 => exact cr_ (Kd.C_below HR608.out HB.out))
                       (case side2 => exact HC608.out)
                       rintro e w55 ⟨rfl, hb⟩
                       refine ⟨_, rfl, ?_⟩
                       have n0_ := Aside0.mk (Kd.R_below (kr_ HO619.out) hb)
                       have n1_ := Aside0.mk (blk_below BK601.out hb)
                       have n2_ := Aside0.mk (blk_below BK620.out hb)
                       have n3_ := Aside0.mk (below_step HB.out hb)
                       clear HO619 BK601 BK620 HB
                       have HO619 := n0_
                       have BK601 := n1_
                       have BK620 := n2_
                       have HB := n3_
                       clear n0_ n1_ n2_ n3_
                       (try clear hb)
                       refine hK.out _ _ ⟨(blk_cell BK620.out 0).trans rfl, (blk_cell BK620.out 1).trans rfl, Kd.C_below HR0.out HB.out⟩ (fun hHeld => ?_)
                       clear hK K
                       refine norm_ (a' := ?_) ?_ ?_
                       rotate_left
                       ·show Act.put _ (some 110) _ = _
                        simp only [Act.put, sT, sZ, sS, i64_w, i32_w]
                        rfl
                       by_cases c43 : (strOfNums ((l0.take ((wrap64 ((wrap64 (t603 + t602)) + 4)) : Int).toNat).drop ((wrap64 (t603 + t602)) : Int).toNat)).toList = (t626.extract 0 4).toList
                       ·rw [if_pos c43] at H
                        have c43b0 : ((strOfNums ((l0.take ((wrap64 ((wrap64 (t603 + t602)) + 4)) : Int).toNat).drop ((wrap64 (t603 + t602)) : Int).toNat)).toList == (t626.extract 0 4).toList) = true := beq_iff_eq.mpr c43
                        have c43b1 : ((strOfNums ((l0.take ((wrap64 ((wrap64 (t603 + t602)) + 4)) : Int).toNat).drop ((wrap64 (t603 + t602)) : Int).toNat)).toList != (t626.extract 0 4).toList) = false := bne_eq_false_iff_eq.mpr c43
                        clear c43
                        simp only [Option.some.injEq, Prod.mk.injEq] at H
                        obtain ⟨rfl, rfl, rfl, rfl, rfl⟩ := H
                        refine pts_ 39 111 1099511627775 ?_
                        refine pts_ 40 112 2199023255551 ?_
                        refine pts_ 41 113 4398046511103 ?_
                        refine done_ (done_of HT_.out (by kernel_rfl)) ?_
                        have hcz57_0 := bc0_ BK620.out
                        have hcz57_1 := bc1_ BK620.out
                        have hfz57_0 := blk_frozen BK620.out 0
                        have hfz57_1 := blk_frozen BK620.out 1
                        have hcz58_0 := bc0_ BK601.out
                        have hcz58_1 := bc1_ BK601.out
                        have hfz58_0 := blk_frozen BK601.out 0
                        have hfz58_1 := blk_frozen BK601.out 1
                        try go_wp2
                        refine bodyPost_ret (results_list (rs := [.cell 4 31, .tmp 5, .tmp 6, .tmp 7]) rfl (by simp) (.cell gb601 31 #[.int .i64 t609, .string t612] (0, 0) _ rfl (by (with_reducible repeat (first | refine blk_drewN ?_ _ | refine blk_drew ?_ | refine blk_alloc ?_ _)); refine blk_put (cs := #[.int .i64 t609, .string (⟨#[]⟩ : ByteArray)]) ?_ 1 _ rfl; (with_reducible repeat (first | refine blk_drewN ?_ _ | refine blk_drew ?_ | refine blk_alloc ?_ _)); refine blk_put (cs := #[.int .i64 0, .string (⟨#[]⟩ : ByteArray)]) ?_ 0 _ rfl; (with_reducible repeat (first | refine blk_drewN ?_ _ | refine blk_drew ?_ | refine blk_alloc ?_ _)); exact BK601.out) Try.underlying31 rfl (by kernel_rfl) (.tmp (.tmp (.tmp .nil))))) rfl ?_
                        exact ⟨_, by first | rfl | (simp [errW_none, errW_some] <;> rfl) | (first | rfl | (simp [errW_none, errW_some] <;> rfl)) | (simp [*, errW_none, errW_some] <;> rfl), by (with_reducible repeat (first | apply Kd.R_alloc | apply Kd.R_drewN | apply Kd.R_drew)); exact Kd.R_mono (Kd.R_far (p := ⟨gb601, 1, none⟩) (Kd.R_far (p := ⟨gb601, 0, none⟩) (Kd.R_types HO619.out BK601.out (by decide)) (fun _ hk => hk.2) (.int .i64 t609)) (fun _ hk => hk.2) (.string t612)) (fun _ hk => trivial), by repeat (first | (with_reducible first | exact HB.out | apply below_alloc | apply pw_below_drewN | apply below_drew1 | refine below_set ?_ GE601.out | refine below_set ?_ GE620.out) | exact HB.out)⟩
                       ·rw [if_neg c43] at H
                        have c43b0 : ((strOfNums ((l0.take ((wrap64 ((wrap64 (t603 + t602)) + 4)) : Int).toNat).drop ((wrap64 (t603 + t602)) : Int).toNat)).toList == (t626.extract 0 4).toList) = false := beq_eq_false_iff_ne.mpr c43
                        have c43b1 : ((strOfNums ((l0.take ((wrap64 ((wrap64 (t603 + t602)) + 4)) : Int).toNat).drop ((wrap64 (t603 + t602)) : Int).toNat)).toList != (t626.extract 0 4).toList) = true := bne_iff_ne.mpr c43
                        refine pts_ 39 111 1099511627775 ?_
                        refine pts_ 40 112 2199023255551 ?_
                        refine pts_ 41 113 4398046511103 ?_
                        exact norm_ (by first | (simp only [putAll, Act.put, sT, sZ, sS, List.getD_cons_zero, List.getD_cons_succ]; done) | (simp only [putAll, Act.put, sT, sZ, sS, List.getD_cons_zero, List.getD_cons_succ]; rfl)) (hJ41 [_, _, _, _, _, _, _, _, _, _, _, _, _, _, _, _, _, _, _, _, _, _, _, _, _, _, _, _, _, _, _, _, _, _, _, _, _, _, _, _, _] _ ⟨H, (kr_ HO619.out), (kb_ BK601.out), (kb_ BK620.out), (bw_ HB)⟩)
                      ·rw [if_neg c42] at H
                       exact absurd H (by simp)
                     ·rw [if_neg c39] at H
                      exact absurd H (by simp)
                    ·rw [if_neg c38] at H
                     exact absurd H (by simp)
                   ·rw [if_neg c37] at H
                    exact absurd H (by simp)
                ·rw [if_neg c20] at H
                 have c20b0 : (t616 == (((l0.take ((wrap64 (t603 + t602)) : Int).toNat).drop (t603 : Int).toNat).length : Int)) = false := beq_eq_false_iff_ne.mpr c20
                 have c20b1 : (t616 != (((l0.take ((wrap64 (t603 + t602)) : Int).toNat).drop (t603 : Int).toNat).length : Int)) = true := bne_iff_ne.mpr c20
                 have c20n0 := c20b0
                 rw [hlenq] at c20n0
                 have c20n1 := c20b1
                 rw [hlenq] at c20n1
                 refine pts_ 11 83 4095 ?_
                 refine pts_ 12 84 8191 ?_
                 refine pts_ 13 85 16383 ?_
                 refine pts_ 14 86 32767 ?_
                 refine pts_ 15 87 65535 ?_
                 exact norm_ (by first | (simp only [putAll, Act.put, sT, sZ, sS, List.getD_cons_zero, List.getD_cons_succ]; done) | (simp only [putAll, Act.put, sT, sZ, sS, List.getD_cons_zero, List.getD_cons_succ]; rfl)) (hJ15 [_, _, _, _, _, _, _, _, _, _, _, _, _, _, _] _ ⟨H, (kr_ HO619.out), (kb_ BK601.out), (kb_ BK620.out), (bw_ HB)⟩)
            ·rintro s w122 ⟨H, hF0, hF1, hF2, hF3⟩
             have HO619 := Aside0.mk hF0
             have BK601 := Aside0.mk hF1
             have BK620 := Aside0.mk hF2
             have HB := Aside0.mk hF3
             clear hF0 hF1 hF2 hF3
             refine norm_ (a' := ?_) ?_ ?_
             rotate_left
             ·simp only [putAll, Act.put, sT, sZ, sS]
              rfl
             refine pts_ 6 78 127 ?_
             refine uts_ 7 79 255 ?_
             refine uts_ 8 80 511 ?_
             refine pts_ 9 81 1023 ?_
             exact norm_ (by first | (simp only [putAll, Act.put, sT, sZ, sS, List.getD_cons_zero, List.getD_cons_succ]; done) | (simp only [putAll, Act.put, sT, sZ, sS, List.getD_cons_zero, List.getD_cons_succ]; rfl)) (hJ9 [_, _, _, _, _, _, _, _, _] _ ⟨H, (kr_ HO619.out), (kb_ BK601.out), (kb_ BK620.out), (bw_ HB)⟩)
           ·rintro s w122 ⟨H, hF0, hF1, hF2, hF3⟩
            have HO619 := Aside0.mk hF0
            have BK601 := Aside0.mk hF1
            have BK620 := Aside0.mk hF2
            have HB := Aside0.mk hF3
            clear hF0 hF1 hF2 hF3
            refine norm_ (a' := ?_) ?_ ?_
            rotate_left
            ·simp only [putAll, Act.put, sT, sZ, sS]
             rfl
            refine pts_ 10 82 2047 ?_
            refine uts_ 11 83 4095 ?_
            refine uts_ 12 84 8191 ?_
            refine uts_ 13 85 16383 ?_
            refine uts_ 14 86 32767 ?_
            refine pts_ 15 87 65535 ?_
            exact norm_ (by first | (simp only [putAll, Act.put, sT, sZ, sS, List.getD_cons_zero, List.getD_cons_succ]; done) | (simp only [putAll, Act.put, sT, sZ, sS, List.getD_cons_zero, List.getD_cons_succ]; rfl)) (hJ15 [_, _, _, _, _, _, _, _, _, _, _, _, _, _, _] _ ⟨H, (kr_ HO619.out), (kb_ BK601.out), (kb_ BK620.out), (bw_ HB)⟩)
          ·rintro s w122 ⟨H, hF0, hF1, hF2, hF3⟩
           have HO619 := Aside0.mk hF0
           have BK601 := Aside0.mk hF1
           have BK620 := Aside0.mk hF2
           have HB := Aside0.mk hF3
           clear hF0 hF1 hF2 hF3
           refine norm_ (a' := ?_) ?_ ?_
           rotate_left
           ·simp only [putAll, Act.put, sT, sZ, sS]
            rfl
           refine pts_ 16 88 131071 ?_
           refine uts_ 17 89 262143 ?_
           refine uts_ 18 90 524287 ?_
           refine uts_ 19 91 1048575 ?_
           refine pts_ 20 92 2097151 ?_
           exact norm_ (by first | (simp only [putAll, Act.put, sT, sZ, sS, List.getD_cons_zero, List.getD_cons_succ]; done) | (simp only [putAll, Act.put, sT, sZ, sS, List.getD_cons_zero, List.getD_cons_succ]; rfl)) (hJ20 [_, _, _, _, _, _, _, _, _, _, _, _, _, _, _, _, _, _, _, _] _ ⟨H, (kr_ HO619.out), (kb_ BK601.out), (kb_ BK620.out), (bw_ HB)⟩)
         ·rintro s w122 ⟨H, hF0, hF1, hF2, hF3⟩
          have HO619 := Aside0.mk hF0
          have BK601 := Aside0.mk hF1
          have BK620 := Aside0.mk hF2
          have HB := Aside0.mk hF3
          clear hF0 hF1 hF2 hF3
          refine norm_ (a' := ?_) ?_ ?_
          rotate_left
          ·simp only [putAll, Act.put, sT, sZ, sS]
           rfl
          refine pts_ 21 93 4194303 ?_
          refine uts_ 22 94 8388607 ?_
          refine uts_ 23 95 16777215 ?_
          refine uts_ 24 96 33554431 ?_
          refine pts_ 25 97 67108863 ?_
          exact norm_ (by first | (simp only [putAll, Act.put, sT, sZ, sS, List.getD_cons_zero, List.getD_cons_succ]; done) | (simp only [putAll, Act.put, sT, sZ, sS, List.getD_cons_zero, List.getD_cons_succ]; rfl)) (hJ25 [_, _, _, _, _, _, _, _, _, _, _, _, _, _, _, _, _, _, _, _, _, _, _, _, _] _ ⟨H, (kr_ HO619.out), (kb_ BK601.out), (kb_ BK620.out), (bw_ HB)⟩)
        ·rintro s w122 ⟨H, hF0, hF1, hF2, hF3⟩
         have HO619 := Aside0.mk hF0
         have BK601 := Aside0.mk hF1
         have BK620 := Aside0.mk hF2
         have HB := Aside0.mk hF3
         clear hF0 hF1 hF2 hF3
         refine norm_ (a' := ?_) ?_ ?_
         rotate_left
         ·simp only [putAll, Act.put, sT, sZ, sS]
          rfl
         refine pts_ 26 98 134217727 ?_
         refine uts_ 27 99 268435455 ?_
         refine uts_ 28 100 536870911 ?_
         refine uts_ 29 101 1073741823 ?_
         refine uts_ 30 102 2147483647 ?_
         refine uts_ 31 103 4294967295 ?_
         refine uts_ 32 104 8589934591 ?_
         refine uts_ 33 105 17179869183 ?_
         refine uts_ 34 106 34359738367 ?_
         refine uts_ 35 107 68719476735 ?_
         refine uts_ 36 108 137438953471 ?_
         refine uts_ 37 109 274877906943 ?_
         refine uts_ 38 110 549755813887 ?_
         refine uts_ 39 111 1099511627775 ?_
         refine uts_ 40 112 2199023255551 ?_
         refine pts_ 41 113 4398046511103 ?_
         exact norm_ (by first | (simp only [putAll, Act.put, sT, sZ, sS, List.getD_cons_zero, List.getD_cons_succ]; done) | (simp only [putAll, Act.put, sT, sZ, sS, List.getD_cons_zero, List.getD_cons_succ]; rfl)) (hJ41 [_, _, _, _, _, _, _, _, _, _, _, _, _, _, _, _, _, _, _, _, _, _, _, _, _, _, _, _, _, _, _, _, _, _, _, _, _, _, _, _, _] _ ⟨H, (kr_ HO619.out), (kb_ BK601.out), (kb_ BK620.out), (bw_ HB)⟩)
       ·rintro s w122 ⟨H, hF0, hF1, hF2, hF3⟩
        have HO619 := Aside0.mk hF0
        have BK601 := Aside0.mk hF1
        have BK620 := Aside0.mk hF2
        have HB := Aside0.mk hF3
        clear hF0 hF1 hF2 hF3
        refine norm_ (a' := ?_) ?_ ?_
        rotate_left
        ·simp only [putAll, Act.put, sT, sZ, sS]
         rfl
        obtain ⟨y642, hy642⟩ : ∃ y_ : List ByteArray, y_ = ([] : List ByteArray) := ⟨_, rfl⟩
        rw [← hy642] at H
        have Ny642 := Aside0.mk hy642
        clear hy642
        simp only [Option.some.injEq, Prod.mk.injEq] at H
        obtain ⟨rfl, rfl, rfl, rfl, rfl⟩ := H
        refine done_ (done_of HT_.out (by kernel_rfl)) ?_
        try go_wp2_with (first | ((with_reducible refine gate_dst (N := 115) rfl ?_); (try (refine gate_guard (by rfl) ?_; dsimp only)); refine rl_ Kd.string 9 115 ([] : List ByteArray) [] ?_; intro v643 w123 ho124 hb hg_ hnew_; clear hg_ hnew_; (first | rw [← Ny642.out] at ho124 | (simp only [Int.reduceToNat] at ho124; rw [← Ny642.out] at ho124)); have HO644 := Aside0.mk (Kd.R_lower (Kd.R_new' ho124 (Kd.R_lt (kr_ HO619.out))) (below_size (bs2_ HB GE601.out GE620.out))); replace HO619 := Aside0.mk (Kd.R_elder' (kr_ HO619.out) (Kd.R_base ho124) hb); replace BK601 := Aside0.mk (blk_below (g := gb601) (o := .cells #[.int .i64 0, .string (⟨#[]⟩ : ByteArray)] 31 (0, 0)) (kb_ BK601.out) hb); replace BK620 := Aside0.mk (blk_below (kb_ BK620.out) hb); replace HB := Aside0.mk (below_step (bs2_ HB GE601.out GE620.out) hb); clear hb ho124; have hcz125_0 := bc0_ BK601.out; have hcz125_1 := bc1_ BK601.out; have hfz125_0 := blk_frozen BK601.out 0; have hfz125_1 := blk_frozen BK601.out 1))
        refine bodyPost_ret (results_list (rs := [.cell 4 31, .tmp 5, .tmp 6, .tmp 7]) rfl (by simp) (.cell gb601 31 #[.int .i64 0, .string (⟨#[]⟩ : ByteArray)] (0, 0) _ rfl (by (with_reducible repeat (first | refine blk_drewN ?_ _ | refine blk_drew ?_ | refine blk_alloc ?_ _)); refine blk_put (cs := #[.int .i64 0, .string (⟨#[]⟩ : ByteArray)]) ?_ 1 _ rfl; (with_reducible repeat (first | refine blk_drewN ?_ _ | refine blk_drew ?_ | refine blk_alloc ?_ _)); refine blk_put (cs := #[.int .i64 0, .string (⟨#[]⟩ : ByteArray)]) ?_ 0 _ rfl; (with_reducible repeat (first | refine blk_drewN ?_ _ | refine blk_drew ?_ | refine blk_alloc ?_ _)); exact BK601.out) Try.underlying31 rfl (by kernel_rfl) (.tmp (.tmp (.tmp .nil))))) rfl ?_
        exact ⟨_, e2_, by (with_reducible repeat (first | apply Kd.R_alloc | apply Kd.R_drewN | apply Kd.R_drew)); exact Kd.R_mono (Kd.R_far (p := ⟨gb601, 1, none⟩) (Kd.R_far (p := ⟨gb601, 0, none⟩) (Kd.R_types HO644.out BK601.out (by decide)) (fun _ hk => hk.2) (.int .i64 0)) (fun _ hk => hk.2) (.string (⟨#[]⟩ : ByteArray))) (fun _ hk => trivial), by repeat (first | (with_reducible first | exact HB.out | apply below_alloc | apply pw_below_drewN | apply below_drew1 | refine below_set ?_ GE601.out | refine below_set ?_ GE620.out) | exact HB.out)⟩
      ·rw [if_neg c13] at H
       exact absurd H (by simp)
     ·rw [if_neg c12] at H
      exact absurd H (by simp)
    ·rw [if_neg c11] at H
     exact absurd H (by simp)
end Go.Proofs.Ytcogimnpffnanaa.Q
end
section
/- The reference's GetCommit reads the same. Plain. -/
namespace Go.Proofs.Ytcogimnpffnanaa.Q
open Go.RowKit Go.Proofs.Ytcogimnpffnanaa.B Go.Proofs.YtcogimnpffnanaaW.PrintWords Go.Proofs.YtcogimnpffnanaaW.PrintMore
set_option linter.unusedVariables false
set_option linter.unusedSimpArgs false
theorem nums_bytes (s : ByteArray) : strOfNums (bytesOf s) = s := bytesOf_inj (bytes_nums _ (inB_text s))
theorem sum_iff {G : List Int} (hG : InB G) (B : List Int) : (strOfNums G).toList = ((sha B).extract 0 4).toList ↔ G = sumB B := by
 unfold sumB
 constructor
 ·intro h
  rw [← bytes_nums G hG, bytes_ext h]
 ·intro h
  rw [h, nums_bytes]
set_option maxHeartbeats 1000000 in
theorem getCommitS (b : List Int) (hb : InB b) (hl : b.length ≤ 10000000) (at_ : Int) (h0 : -9223372036854775808 ≤ at_) (h1 : at_ ≤ 9223372036854775807) :
  ∃ n s t nx ok, Ev (fun q => spec_GetCommit.f q b at_) (n, s, t, nx, ok) ∧ t.length ≤ 200 ∧ CommitOf b at_ n s t nx ok := by
 obtain ⟨m, x, ok, e2, _, hN⟩ := getNum_both b hb (by omega) at_ h0 h1
 have jT : ∀ m x : Int, Ev (fun q => spec_GetCommit.j0 q b at_ m x true) (0, (⟨#[]⟩ : ByteArray), ([] : List ByteArray), at_, false) := fun m x => by
  refine Ev.step (fun q => by simp only [spec_GetCommit.j0]; rfl) ?_
  exact Ev.pos trivial (Ev.now _)
 have bad : ∀ P : Prop, (∀ (a N : Nat) (s' : ByteArray) (t' : List ByteArray) r, at_ = (a : Int) → b.drop a = commitB N s' t' ++ r → headOk (N : Int) s' = true → 1 ≤ t'.length → t'.length ≤ 200 → (∀ x ∈ t', x.size ≤ 1000000000) → False) → CommitOf b at_ 0 ⟨#[]⟩ [] at_ false := fun _ h => ⟨fun q => (by cases q), fun _ => ⟨rfl, rfl, rfl, rfl, h⟩⟩
 unfold spec_GetCommit.f
 cases ok with
 | false =>
  obtain ⟨rfl, rfl, h3⟩ := hN.1 rfl
  refine ⟨0, ⟨#[]⟩, [], at_, false, Ev.bind e2 (Ev.neg (by simp) (jT _ _)), by simp, bad True fun a N s' t' r ha hr _ _ _ _ => ?_⟩
  unfold commitB at hr
  rw [List.append_assoc] at hr
  refine h3 a _ _ ha hr ?_
  have := congrArg List.length hr
  simp only [List.length_append, List.length_drop] at this
  omega
 | true =>
  obtain ⟨a, m, rfl, rfl, hm, hd, rfl, hle⟩ := hN.2 rfl
  have hp1 := num_pos m
  obtain ⟨p, hp⟩ : ∃ p, a + (num m).length = p := ⟨_, rfl⟩
  rw [hp] at e2 hd hle
  clear hN
  have cut : ∀ (N : Nat) (s' : ByteArray) (t' : List ByteArray) r, b.drop a = commitB N s' t' ++ r → m = (bodyB N s' t').length ∧ b.drop p = bodyB N s' t' ++ (sumB (bodyB N s' t') ++ r) := fun N s' t' r hr => by
   unfold commitB at hr
   rw [hd, List.append_assoc, List.append_assoc] at hr
   exact num_inj _ _ _ _ hr
  have w1 : wrap64 ((b.length : Int) - (p : Int)) = (b.length : Int) - (p : Int) := w64 (by omega) (by omega)
  have w2 : wrap64 ((b.length : Int) - (p : Int) - 4) = (b.length : Int) - (p : Int) - 4 := w64 (by omega) (by omega)
  by_cases hg : (m : Int) > (b.length : Int) - (p : Int) - 4
  ·refine ⟨0, ⟨#[]⟩, [], (a : Int), false, ?_, by simp, bad True fun a' N s' t' r ha hr _ _ _ _ => ?_⟩
   ·refine Ev.bind e2 (Ev.pos rfl ?_)
    simp only [w1, w2, decide_eq_true hg]
    exact jT _ _
   ·obtain rfl : a = a' := by omega
    obtain ⟨k1, k2⟩ := cut N s' t' r hr
    have := congrArg List.length k2
    simp only [List.length_append, List.length_drop, sumB_length] at this
    omega
  ·have w3 : wrap64 ((p : Int) + (m : Int)) = ((p + m : Nat) : Int) := by
    rw [w64 (by omega) (by omega)]
    omega
   have w4 : wrap64 (((p + m : Nat) : Int) + 4) = ((p + m + 4 : Nat) : Int) := by
    rw [w64 (by omega) (by omega)]
    omega
   have t1 : ((p + m : Nat) : Int).toNat = p + m := Int.toNat_natCast _
   have t2 : (p : Int).toNat = p := Int.toNat_natCast _
   have t3 : ((p + m + 4 : Nat) : Int).toNat = p + m + 4 := Int.toNat_natCast _
   obtain ⟨B, hB⟩ : ∃ B, (b.take (p + m)).drop p = B := ⟨_, rfl⟩
   have hB2 : B = (b.drop p).take m := by
    rw [← hB, List.drop_take]
    congr 1
    omega
   have hBl : B.length = m := by
    rw [hB2, List.length_take, List.length_drop]
    omega
   have hBb : InB B := by
    rw [hB2]
    exact inB_take (inB_drop hb p) m
   obtain ⟨G, hG⟩ : ∃ G, (b.take (p + m + 4)).drop (p + m) = G := ⟨_, rfl⟩
   have hGb : InB G := by
    rw [← hG]
    exact inB_drop (inB_take hb _) _
   have hBG : b.drop p = B ++ (G ++ b.drop (p + m + 4)) := by
    have i1 : b.drop p = (b.drop p).take m ++ (b.drop p).drop m := (List.take_append_drop _ _).symm
    have i2 : b.drop (p + m) = (b.drop (p + m)).take 4 ++ (b.drop (p + m)).drop 4 := (List.take_append_drop _ _).symm
    have i3 : G = (b.drop (p + m)).take 4 := by
     rw [← hG, List.drop_take]
     congr 1
     omega
    rw [List.drop_drop] at i1 i2
    rw [← i3] at i2
    rw [← hB2, i2] at i1
    exact i1
   have cutB : ∀ (N : Nat) (s' : ByteArray) (t' : List ByteArray) r, b.drop a = commitB N s' t' ++ r → B = bodyB N s' t' ∧ G = sumB (bodyB N s' t') := fun N s' t' r hr => by
    obtain ⟨k1, k2⟩ := cut N s' t' r hr
    rw [hBG] at k2
    obtain ⟨k3, k4⟩ := List.append_inj k2 (by rw [hBl, k1])
    refine ⟨k3, (List.append_inj k4 ?_).1⟩
    rw [sumB_length, ← hG, List.length_drop, List.length_take]
    omega
   have start : ∀ r, Ev (fun q => (spec_GetNum.f q B 0).bind fun bt609 => ((spec_GetText.f q B bt609.2.1).bind fun bt612 => ((spec_GetTexts.f q B bt612.2.1).bind fun bt615 => (if bt609.2.2 = true then (if bt612.2.2 = true then (if bt615.2.2 = true then (if bt615.2.1 = (B.length : Int) then ((spec_HeadOk.f bt609.1 bt612.1).bind fun t621 => (if t621 = true then (if (bt615.1.length : Int) = 0 then (some (0, (⟨#[]⟩ : ByteArray), (([] : List ByteArray)), (a : Int), false)) else ((spec_Digest.f q B).bind fun t626 => (if 4 ≤ (t626.size : Int) then (if (strOfNums G).toList = (t626.extract 0 4).toList then (some (bt609.1, bt612.1, bt615.1, ((p + m + 4 : Nat) : Int), true)) else (some (0, (⟨#[]⟩ : ByteArray), (([] : List ByteArray)), (a : Int), false))) else (none)))) else (some (0, (⟨#[]⟩ : ByteArray), (([] : List ByteArray)), (a : Int), false)))) else (some (0, (⟨#[]⟩ : ByteArray), (([] : List ByteArray)), (a : Int), false))) else (some (0, (⟨#[]⟩ : ByteArray), (([] : List ByteArray)), (a : Int), false))) else (some (0, (⟨#[]⟩ : ByteArray), (([] : List ByteArray)), (a : Int), false))) else (some (0, (⟨#[]⟩ : ByteArray), (([] : List ByteArray)), (a : Int), false)))))) r → Ev (fun q => (spec_GetNum.f q b (a : Int)).bind fun bt602 => (if bt602.2.2 = true then (spec_GetCommit.j0 q b (a : Int) bt602.1 bt602.2.1 (decide (bt602.1 > (wrap64 ((wrap64 ((b.length : Int) - bt602.2.1)) - 4))))) else (spec_GetCommit.j0 q b (a : Int) bt602.1 bt602.2.1 true))) r := fun r hr => by
    refine Ev.bind e2 (Ev.pos rfl ?_)
    simp only [w1, w2, decide_eq_false hg]
    have i1 : (0 : Int) ≤ ((p + m : Nat) : Int) := by omega
    have i2 : ((p + m : Nat) : Int) ≤ ((p + m + 4 : Nat) : Int) := by omega
    have i3 : ((p + m + 4 : Nat) : Int) ≤ (b.length : Int) := by omega
    have i4 : (0 : Nat) ≤ 4 := by decide
    refine Ev.step (fun q => by simp only [spec_GetCommit.j0, w3, w4, t1, t2, t3, hB, hG, if_pos i1, if_pos i2, if_pos i3, if_pos i4]; rfl) ?_
    exact Ev.neg (by simp) (Ev.pos (by omega) (Ev.pos (by omega) (Ev.pos (by omega) hr)))
   rcases num_step B hBb (by omega) 0 (by omega) with ⟨g0, _, z0⟩ | ⟨v0, p1, q0, l0, y0, r0, g0, _⟩
   ·obtain ⟨u1, x1, o1, s1, r1⟩ := text_any B hBb (by omega) 0 (by omega)
    obtain ⟨u2, x2, o2, s2, r2⟩ := texts_any B hBb (by omega) x1 (by omega)
    refine ⟨0, ⟨#[]⟩, [], (a : Int), false, start _ (Ev.bind g0 (Ev.bind s1 (Ev.bind s2 (Ev.neg (by simp) (Ev.now _))))), by simp, bad True fun a' N s' t' r ha hr hk c1 c2 c3 => ?_⟩
    obtain rfl : a = a' := by omega
    have hh := headOk_parts hk
    exact z0 N _ (show B.drop 0 = num N ++ (textB s' ++ textsB t') from (cutB N s' t' r hr).1) (by omega)
   ·rcases text_step B hBb (by omega) p1 (by omega) with ⟨g1, _, z1⟩ | ⟨v1, p2, q1, l1, y1, r1, g1, _⟩
    ·obtain ⟨u2, x2, o2, s2, r2⟩ := texts_any B hBb (by omega) 0 (by omega)
     refine ⟨0, ⟨#[]⟩, [], (a : Int), false, start _ (Ev.bind g0 (Ev.bind g1 (Ev.bind s2 (Ev.pos rfl (Ev.neg (by simp) (Ev.now _)))))), by simp, bad True fun a' N s' t' r ha hr hk c1 c2 c3 => ?_⟩
     obtain rfl : a = a' := by omega
     have hh := headOk_parts hk
     have d0 : B.drop 0 = num N ++ (textB s' ++ textsB t') := (cutB N s' t' r hr).1
     have d1 := (num_inj _ _ _ _ (y0.symm.trans d0)).2
     exact z1 s' _ d1 (by omega)
    ·rcases texts_step B hBb (by omega) p2 (by omega) with ⟨g2, _, z2⟩ | ⟨v2, p3, q2, s2, l2, y2, r2, g2, _⟩
     ·refine ⟨0, ⟨#[]⟩, [], (a : Int), false, start _ (Ev.bind g0 (Ev.bind g1 (Ev.bind g2 (Ev.pos rfl (Ev.pos rfl (Ev.neg (by simp) (Ev.now _))))))), by simp, bad True fun a' N s' t' r ha hr hk c1 c2 c3 => ?_⟩
      obtain rfl : a = a' := by omega
      have d0 : B.drop 0 = num N ++ (textB s' ++ textsB t') := (cutB N s' t' r hr).1
      have d1 := (num_inj _ _ _ _ (y0.symm.trans d0)).2
      have d2 := (textB_inj (y1.symm.trans d1)).2
      exact z2 t' [] (by rw [List.append_nil]; exact d2) c2 c3
     ·have hBB : B = bodyB v0 v1 v2 ++ B.drop p3 := by
       have e : B.drop 0 = num v0 ++ (textB v1 ++ (textsB v2 ++ B.drop p3)) := by rw [y0, y1, y2]
       unfold bodyB
       simp only [List.append_assoc]
       exact e
      have same : ∀ (N : Nat) (s' : ByteArray) (t' : List ByteArray) r, b.drop a = commitB N s' t' ++ r → v0 = N ∧ v1 = s' ∧ v2 = t' ∧ B.drop p3 = [] ∧ G = sumB B := fun N s' t' r hr => by
       obtain ⟨k1, k2⟩ := cutB N s' t' r hr
       obtain ⟨h1, h2, h3, h4⟩ := bodyB_inj (show bodyB v0 v1 v2 ++ B.drop p3 = bodyB N s' t' ++ [] by rw [List.append_nil, ← hBB, k1])
       exact ⟨h1, h2, h3, h4, by rw [k1]; exact k2⟩
      have hD := spec_Digest_ev B (by omega) hBb
      have hsz : (sha B).size = 32 := sha_size _
      by_cases hp3 : (p3 : Int) = (B.length : Int)
      ·have hnil : B.drop p3 = [] := List.drop_eq_nil_of_le (by omega)
       rw [hnil, List.append_nil] at hBB
       by_cases hk : headOk (v0 : Int) v1 = true
       ·by_cases hz : (v2.length : Int) = 0
        ·refine ⟨0, ⟨#[]⟩, [], (a : Int), false, start _ (Ev.bind g0 (Ev.bind g1 (Ev.bind g2 (Ev.pos rfl (Ev.pos rfl (Ev.pos rfl (Ev.pos hp3 (Ev.bind (Ev.const (spec_HeadOk_eq _ _)) (Ev.pos hk (Ev.pos hz (Ev.now _))))))))))), by simp, bad True fun a' N s' t' r ha hr hk2 c1 c2 c3 => ?_⟩
         obtain rfl : a = a' := by omega
         obtain ⟨_, _, rfl, _⟩ := same N s' t' r hr
         omega
        ·by_cases hsum : (strOfNums G).toList = ((sha B).extract 0 4).toList
         ·have hGs := (sum_iff hGb B).1 hsum
          have hlen : (commitB v0 v1 v2).length = (num m).length + m + 4 := by rw [commitB_length, ← hBB, hBl]
          refine ⟨(v0 : Int), v1, v2, ((p + m + 4 : Nat) : Int), true, start _ (Ev.bind g0 (Ev.bind g1 (Ev.bind g2 (Ev.pos rfl (Ev.pos rfl (Ev.pos rfl (Ev.pos hp3 (Ev.bind (Ev.const (spec_HeadOk_eq _ _)) (Ev.pos hk (Ev.neg hz (Ev.bind hD (Ev.pos (by omega) (Ev.pos hsum (Ev.now _)))))))))))))), q2, fun _ => ⟨a, v0, rfl, rfl, hk, by omega, ?_, ?_, ?_⟩, fun h => (by cases h)⟩
          ·rw [hlen, show a + ((num m).length + m + 4) = p + m + 4 by omega, hd, hBG, hGs]
           unfold commitB
           rw [← hBB, hBl]
           simp only [List.append_assoc]
          ·rw [hlen]
           congr 1
           omega
          ·rw [hlen]
           omega
         ·refine ⟨0, ⟨#[]⟩, [], (a : Int), false, start _ (Ev.bind g0 (Ev.bind g1 (Ev.bind g2 (Ev.pos rfl (Ev.pos rfl (Ev.pos rfl (Ev.pos hp3 (Ev.bind (Ev.const (spec_HeadOk_eq _ _)) (Ev.pos hk (Ev.neg hz (Ev.bind hD (Ev.pos (by omega) (Ev.neg hsum (Ev.now _)))))))))))))), by simp, bad True fun a' N s' t' r ha hr hk2 c1 c2 c3 => ?_⟩
          obtain rfl : a = a' := by omega
          obtain ⟨_, _, _, _, h5⟩ := same N s' t' r hr
          exact hsum ((sum_iff hGb B).2 h5)
       ·refine ⟨0, ⟨#[]⟩, [], (a : Int), false, start _ (Ev.bind g0 (Ev.bind g1 (Ev.bind g2 (Ev.pos rfl (Ev.pos rfl (Ev.pos rfl (Ev.pos hp3 (Ev.bind (Ev.const (spec_HeadOk_eq _ _)) (Ev.neg hk (Ev.now _)))))))))), by simp, bad True fun a' N s' t' r ha hr hk2 c1 c2 c3 => ?_⟩
        obtain rfl : a = a' := by omega
        obtain ⟨rfl, rfl, _⟩ := same N s' t' r hr
        exact hk hk2
      ·refine ⟨0, ⟨#[]⟩, [], (a : Int), false, start _ (Ev.bind g0 (Ev.bind g1 (Ev.bind g2 (Ev.pos rfl (Ev.pos rfl (Ev.pos rfl (Ev.neg hp3 (Ev.now _)))))))), by simp, bad True fun a' N s' t' r ha hr hk2 c1 c2 c3 => ?_⟩
       obtain rfl : a = a' := by omega
       obtain ⟨_, _, _, h4, _⟩ := same N s' t' r hr
       have := congrArg List.length h4
       rw [List.length_drop] at this
       simp only [List.length_nil] at this
       omega
theorem commit_small {b : List Int} {a N : Nat} {s : ByteArray} {t : List ByteArray} {r : List Int} (hl : b.length ≤ 10000000) (h : b.drop a = commitB N s t ++ r) : ∀ x ∈ t, x.size ≤ 1000000000 := fun x hx => by
 have h1 := congrArg List.length h
 rw [List.length_drop, List.length_append, commitB_length] at h1
 have h2 := bodyB_ge N s t
 have h3 := total_mem hx
 omega
theorem getCommit_both (b : List Int) (hb : InB b) (hl : b.length ≤ 10000000) (at_ : Int) (h0 : -9223372036854775808 ≤ at_) (h1 : at_ ≤ 9223372036854775807) :
  ∃ n s t nx ok, Ev (fun q => spec_GetCommit.f q b at_) (n, s, t, nx, ok) ∧ Ev (fun q => impl_GetCommit.f q b at_) (n, s, t, nx, ok) ∧ t.length ≤ 200 := by
 obtain ⟨n, s, t, nx, ok, e1, ht, c1, c2⟩ := getCommitI b hb hl at_ h0 h1
 obtain ⟨n', s', t', nx', ok', e2, ht', d1, d2⟩ := getCommitS b hb hl at_ h0 h1
 cases ok with
 | true =>
  obtain ⟨a, N, rfl, rfl, hk, hz, hd, rfl, hle⟩ := c1 rfl
  cases ok' with
  | true =>
   obtain ⟨a', N', ha, rfl, hk', hz', hd', rfl, hle'⟩ := d1 rfl
   obtain rfl : a = a' := by omega
   obtain ⟨rfl, rfl, rfl, _⟩ := commitB_inj (hd.symm.trans hd')
   exact ⟨_, _, _, _, _, e2, e1, ht⟩
  | false => exact absurd ((d2 rfl).2.2.2.2 a N s t _ rfl hd hk hz ht (commit_small hl hd)) id
 | false =>
  obtain ⟨rfl, rfl, rfl, rfl, c3⟩ := c2 rfl
  cases ok' with
  | true =>
   obtain ⟨a', N', rfl, rfl, hk', hz', hd', rfl, hle'⟩ := d1 rfl
   exact absurd (c3 a' N' s' t' _ rfl hd' hk' hz' ht' (commit_small hl hd')) id
  | false =>
   obtain ⟨rfl, rfl, rfl, rfl, _⟩ := d2 rfl
   exact ⟨_, _, _, _, _, e2, e1, ht⟩
end Go.Proofs.Ytcogimnpffnanaa.Q
end
section
namespace Go.Proofs.Ytcogimnpffnanaa.Q
open Go.RowKit Go.Proofs.YtcogimnpffnanaaW.PrintWords Go.Proofs.YtcogimnpffnanaaW.PrintLast Go.Proofs.YtcogimnpffnanaaW.PrintMore
attribute [local go_sem] max2_int min2_int max_two min_two max_three min_three max_four min_four   -- for this text's walks alone
set_option linter.unusedVariables false
set_option linter.unusedSimpArgs false
theorem eqA31 (d : Nat) (w : World) (x0 y0 : Int) (x1 y1 : ByteArray) :
  (Op.equalIn (d + 2) 31 (.agg #[.int .i64 x0, .string x1]) (.agg #[.int .i64 y0, .string y1])).run Try.prog w = .ok (x0 == y0 && (x1.toList == y1.toList)) w := by
 refine eqA_of Try.underlying31 (by kernel_rfl) ?_
 refine eqf_cons (by rfl) (by go_simp; rfl) (by go_simp; rfl) (by go_simp) ?_
 exact eqf_last (by rfl) (by go_simp; rfl) (by go_simp; rfl) (by go_simp)
end Go.Proofs.Ytcogimnpffnanaa.Q
end
section
namespace Go.Proofs.Ytcogimnpffnanaa.Q
open Go.RowKit Go.Proofs.YtcogimnpffnanaaW.PrintWords Go.Proofs.YtcogimnpffnanaaW.PrintLast Go.Proofs.YtcogimnpffnanaaW.PrintMore
attribute [local go_sem] max2_int min2_int max_two min_two max_three min_three max_four min_four   -- for this text's walks alone
set_option linter.unusedVariables false
set_option linter.unusedSimpArgs false
attribute [local go_sem high] eqA31
def impl_LogOk.f (k : Nat) (l0_0 : List ByteArray) (a0_1 : Int) (a0_2 : ByteArray) : Option (Bool) := if (l0_0.length : Int) ≤ 200 then ((impl_HeadOf.f k l0_0).bind fun bt602 => (some (a0_1 == bt602.1 && (a0_2.toList == bt602.2.toList)))) else (some false)
theorem impl_LogOk.mono : ∀ a0 a1 a2 k, LeO (impl_LogOk.f k a0 a1 a2) (impl_LogOk.f (k + 1) a0 a1 a2) := by
 intro a0 a1 a2 k
 unfold impl_LogOk.f
 repeat' (with_reducible first | exact LeO.refl _ | exact LeO.none _ | apply impl_HeadOf.mono | apply LeO.ite | refine LeO.bind ?_ fun _ => ?_)
def impl_LogOk.T1 : Bool × List (List Nat × List Nat) := (true, [([], []), ([0], [0]), ([1], [1]), ([2], [2]), ([3], [3]), ([4], [4]), ([5, 4], [4, 5]), ([4], [4]), ([7, 4], [4, 7]), ([8, 4, 4], [4, 8]), ([6, 9, 4], [4, 6, 9]), ([4, 10], [4, 10]), ([11, 9, 0, 1, 2, 3, 4, 5, 6, 7, 8, 9, 10, 11], [11])])
def impl_LogOk.B1 : List Nat := [0, 1, 3, 7, 15, 31, 63, 31, 159, 415, 1023, 2047, 4095]
theorem impl_LogOk.tab1 : rtab .any (opsOf Try.f69 1) = impl_LogOk.T1 := by kernel_rfl
theorem impl_LogOk.bits1 : waitsOk impl_LogOk.T1.2 impl_LogOk.B1 = true := by kernel_rfl
set_option maxHeartbeats 8000000 in
set_option maxRecDepth 100000 in
theorem impl_LogOk.calls (k : Nat) (A0_0 : Option Addr) (c0_0 : Nat) (l0_0 : List ByteArray) (a0_1 : Int) (a0_2 : ByteArray) (r : Bool) (w : World) (hr0_0 : Kd.C Kd.string w A0_0 l0_0.length l0_0) (hc0_0 : l0_0.length ≤ c0_0) (h : impl_LogOk.f k l0_0 a0_1 a0_2 = some r) :
  Calls Try.prog 69 #[.agg #[.slice A0_0 l0_0.length c0_0, .int .i64 a0_1, .string a0_2]] w fun e w' => e = .returned (.bool r) ∧ Below w.heap.size w w' := by
 have hu74 := Try.underlying74
 have hu31 := Try.underlying31
 have HR0_0 := Aside0.mk hr0_0
 have HC0_0 := Aside0.mk hc0_0
 clear hr0_0 hc0_0
 have HB := Aside0.mk (Below.refl w.heap.size w)
 have H : (if (l0_0.length : Int) ≤ 200 then ((impl_HeadOf.f k l0_0).bind fun bt602 => (some (a0_1 == bt602.1 && (a0_2.toList == bt602.2.toList)))) else (some false)) = some r := h
 clear h
 by_cases c2 : (l0_0.length : Int) ≤ 200
 ·rw [if_pos c2] at H
  have c2b0 := decide_eq_true c2
  have c2b1 : decide (l0_0.length ≤ 200) = true := decide_eq_true (by omega)
  clear c2
  replace H := Option.bind_eq_some_iff.mp H
  obtain ⟨⟨t602, t603⟩, A30, H⟩ := H
  dsimp only at H
  have A3 := Aside0.mk A30
  clear A30
  obtain rfl := Option.some.inj H
  go_enter Try.func69, Try.ntmps69
  try go_wp2_with (first | ((with_reducible refine gate_dst (N := 1) rfl ?_); refine box_event ?hg (N := 1) ?hd (cs := #[.slice A0_0 l0_0.length c0_0, .int .i64 a0_1, .string a0_2]) (t := 74) ?hr ?_; (case hd => rfl); (case hg => rfl); (case hr => first | (go_simp; done) | (go_simp; rfl)); intro gb601 hg w4 hbox hb; have BK601 := Aside0.mk (hbox); have GW601 := Aside0.mk ((by rw [hg]; exact (below_size (bw_ HB)) : w.heap.size ≤ gb601)); have GE601 := Aside0.mk ((by rw [hg]; exact (below_size (bw_ HB)) : w.heap.size ≤ gb601)); replace HB := Aside0.mk (below_step (bw_ HB) hb); clear hb hbox hg))
  have n0_ := Aside0.mk (blk_drew BK601.out)
  have n1_ := Aside0.mk (below_drew1 HB.out)
  clear BK601
  clear HB
  have BK601 := n0_
  have HB := n1_
  clear n0_ n1_
  refine start_ (n := 13) (S := fun w' => w'.cell? ⟨gb601, 0, none⟩ = some (.slice A0_0 l0_0.length c0_0) ∧ w'.cell? ⟨gb601, 1, none⟩ = some (.int .i64 a0_1) ∧ w'.cell? ⟨gb601, 2, none⟩ = some (.string a0_2)) (ds := []) (lz_ 13 0) (by kernel_rfl) rfl rfl ⟨(blk_cell BK601.out 0).trans rfl, (blk_cell BK601.out 1).trans rfl, (blk_cell BK601.out 2).trans rfl⟩ (fun hHeld => ?_); refine with_tabW impl_LogOk.tab1 impl_LogOk.bits1 (fun HT_ HW_ => ?_)
  generalize w4.drew = w5 at BK601 HB hHeld ⊢
  refine pt_ 0 3 1 ?_
  refine tt_ 1 4 3 ?_
  refine pt_ 2 5 7 ?_
  refine pt_ 3 6 15 ?_
  refine pt_ 4 7 31 ?_
  refine pt_ 5 8 63 ?_
  refine pt_ 7 10 191 ?_
  refine tt_ 6 9 255 ?_
  refine tt_ 8 11 511 ?_
  refine one_ (i := 9) (N := some 12) (lz_ 13 1023) rfl rfl (one_of HT_.out (by kernel_rfl)) (by decide) (fun K hK => ?_)
  refine goes_ Try.func64 (by kernel_rfl) rfl #[.slice A0_0 l0_0.length c0_0] (by rfl) rfl rfl (by (try simp only [List.map_toArray, List.map_cons, List.map_nil]); first | done | rfl | (simp only [List.length_drop, List.length_take]; rfl)) ?_
  with_reducible refine (impl_HeadOf.calls k _ _ l0_0 t602 t603 _ ?side1 ?side2 A3.out).mono ?_
  (case side1 => exact cr_ (Kd.C_below HR0_0.out HB.out))
  (case side2 => exact HC0_0.out)
  rintro e w6 ⟨rfl, hb⟩
  refine ⟨_, rfl, ?_⟩
  have n0_ := Aside0.mk (blk_below (kb_ BK601.out) hb)
  have n1_ := Aside0.mk (below_step (bs1_ HB GE601.out) hb)
  clear BK601
  clear HB
  have BK601 := n0_
  have HB := n1_
  clear n0_ n1_
  (try clear hb)
  (try clear hb2)
  (try clear hk)
  (try clear hi)
  refine hK.out _ _ ⟨(blk_cell BK601.out 0).trans rfl, (blk_cell BK601.out 1).trans rfl, (blk_cell BK601.out 2).trans rfl⟩ (fun hHeld => ?_)
  clear hK K
  refine norm_ (a' := ?_) ?_ ?_
  rotate_left
  ·show Act.put _ (some 12) _ = _
   simp only [Act.put, List.setIfInBounds_toArray, List.set_cons_zero, List.set_cons_succ, i64_w, i32_w]
   rfl
  refine pt_ 10 13 2047 ?_
  refine pt_ 11 14 4095 ?_
  refine pt_ 12 2 8191 ?_
  refine done_ (done_of HT_.out (by kernel_rfl)) ?_
  try go_wp2
  go_ret
  exact ⟨e2_, by repeat (first | (with_reducible first | exact HB.out | apply below_alloc | apply pw_below_drewN | apply below_drew1 | refine below_set ?_ GE601.out) | exact HB.out)⟩
 ·rw [if_neg c2] at H
  have c2b0 := decide_eq_false c2
  have c2b1 : decide (l0_0.length ≤ 200) = false := decide_eq_false (by omega)
  clear c2
  obtain rfl := Option.some.inj H
  go_enter Try.func69, Try.ntmps69
  try go_wp2_with (first | ((with_reducible refine gate_dst (N := 1) rfl ?_); refine box_event ?hg (N := 1) ?hd (cs := #[.slice A0_0 l0_0.length c0_0, .int .i64 a0_1, .string a0_2]) (t := 74) ?hr ?_; (case hd => rfl); (case hg => rfl); (case hr => first | (go_simp; done) | (go_simp; rfl)); intro gb601 hg w7 hbox hb; have BK601 := Aside0.mk (hbox); have GW601 := Aside0.mk ((by rw [hg]; exact (below_size (bw_ HB)) : w.heap.size ≤ gb601)); have GE601 := Aside0.mk ((by rw [hg]; exact (below_size (bw_ HB)) : w.heap.size ≤ gb601)); replace HB := Aside0.mk (below_step (bw_ HB) hb); clear hb hbox hg))
  have n0_ := Aside0.mk (blk_drew BK601.out)
  have n1_ := Aside0.mk (below_drew1 HB.out)
  clear BK601
  clear HB
  have BK601 := n0_
  have HB := n1_
  clear n0_ n1_
  refine start_ (n := 13) (S := fun w' => w'.cell? ⟨gb601, 0, none⟩ = some (.slice A0_0 l0_0.length c0_0) ∧ w'.cell? ⟨gb601, 1, none⟩ = some (.int .i64 a0_1) ∧ w'.cell? ⟨gb601, 2, none⟩ = some (.string a0_2)) (ds := []) (lz_ 13 0) (by kernel_rfl) rfl rfl ⟨(blk_cell BK601.out 0).trans rfl, (blk_cell BK601.out 1).trans rfl, (blk_cell BK601.out 2).trans rfl⟩ (fun hHeld => ?_); refine with_tabW impl_LogOk.tab1 impl_LogOk.bits1 (fun HT_ HW_ => ?_)
  generalize w7.drew = w8 at BK601 HB hHeld ⊢
  refine pt_ 0 3 1 ?_
  refine tt_ 1 4 3 ?_
  refine pt_ 2 5 7 ?_
  refine pt_ 3 6 15 ?_
  refine pt_ 4 7 31 ?_
  refine ut_ 5 8 63 ?_
  refine ut_ 6 9 127 ?_
  refine ut_ 7 10 255 ?_
  refine ut_ 8 11 511 ?_
  refine ut_ 9 12 1023 ?_
  refine ut_ 10 13 2047 ?_
  refine pt_ 11 14 4095 ?_
  refine pt_ 12 2 8191 ?_
  refine done_ (done_of HT_.out (by kernel_rfl)) ?_
  try go_wp2
  go_ret
  exact ⟨e2_, by repeat (first | (with_reducible first | exact HB.out | apply below_alloc | apply pw_below_drewN | apply below_drew1 | refine below_set ?_ GE601.out) | exact HB.out)⟩
end Go.Proofs.Ytcogimnpffnanaa.Q
end
section
namespace Go.Proofs.Ytcogimnpffnanaa.Q
open Go.RowKit Go.Proofs.YtcogimnpffnanaaW.PrintWords Go.Proofs.YtcogimnpffnanaaW.PrintLast Go.Proofs.YtcogimnpffnanaaW.PrintMore
attribute [local go_sem] max2_int min2_int max_two min_two max_three min_three max_four min_four   -- for this text's walks alone
set_option linter.unusedVariables false
set_option linter.unusedSimpArgs false
attribute [local go_sem high] eqA31
def spec_LogOk.f (k : Nat) (l0_0 : List ByteArray) (a0_1 : Int) (a0_2 : ByteArray) : Option (Bool) := if (l0_0.length : Int) ≤ 200 then ((spec_HeadOf.f k l0_0).bind fun bt602 => (some (a0_1 == bt602.1 && (a0_2.toList == bt602.2.toList)))) else (some false)
theorem spec_LogOk.mono : ∀ a0 a1 a2 k, LeO (spec_LogOk.f k a0 a1 a2) (spec_LogOk.f (k + 1) a0 a1 a2) := by
 intro a0 a1 a2 k
 unfold spec_LogOk.f
 repeat' (with_reducible first | exact LeO.refl _ | exact LeO.none _ | apply spec_HeadOf.mono | apply LeO.ite | refine LeO.bind ?_ fun _ => ?_)
def spec_LogOk.T1 : Bool × List (List Nat × List Nat) := (true, [([], []), ([0], [0]), ([1], [1]), ([2], [2]), ([3], [3]), ([4], [4]), ([5, 4], [4, 5]), ([4], [4]), ([7, 4], [4, 7]), ([8, 4, 4], [4, 8]), ([6, 9, 4], [4, 6, 9]), ([4, 10], [4, 10]), ([11, 9, 0, 1, 2, 3, 4, 5, 6, 7, 8, 9, 10, 11], [11])])
def spec_LogOk.B1 : List Nat := [0, 1, 3, 7, 15, 31, 63, 31, 159, 415, 1023, 2047, 4095]
theorem spec_LogOk.tab1 : rtab .any (opsOf Try.f129 1) = spec_LogOk.T1 := by kernel_rfl
theorem spec_LogOk.bits1 : waitsOk spec_LogOk.T1.2 spec_LogOk.B1 = true := by kernel_rfl
set_option maxHeartbeats 8000000 in
set_option maxRecDepth 100000 in
theorem spec_LogOk.calls (k : Nat) (A0_0 : Option Addr) (c0_0 : Nat) (l0_0 : List ByteArray) (a0_1 : Int) (a0_2 : ByteArray) (r : Bool) (w : World) (hr0_0 : Kd.C Kd.string w A0_0 l0_0.length l0_0) (hc0_0 : l0_0.length ≤ c0_0) (h : spec_LogOk.f k l0_0 a0_1 a0_2 = some r) :
  Calls Try.prog 129 #[.agg #[.slice A0_0 l0_0.length c0_0, .int .i64 a0_1, .string a0_2]] w fun e w' => e = .returned (.bool r) ∧ Below w.heap.size w w' := by
 have hu74 := Try.underlying74
 have hu31 := Try.underlying31
 have HR0_0 := Aside0.mk hr0_0
 have HC0_0 := Aside0.mk hc0_0
 clear hr0_0 hc0_0
 have HB := Aside0.mk (Below.refl w.heap.size w)
 have H : (if (l0_0.length : Int) ≤ 200 then ((spec_HeadOf.f k l0_0).bind fun bt602 => (some (a0_1 == bt602.1 && (a0_2.toList == bt602.2.toList)))) else (some false)) = some r := h
 clear h
 by_cases c2 : (l0_0.length : Int) ≤ 200
 ·rw [if_pos c2] at H
  have c2b0 := decide_eq_true c2
  have c2b1 : decide (l0_0.length ≤ 200) = true := decide_eq_true (by omega)
  clear c2
  replace H := Option.bind_eq_some_iff.mp H
  obtain ⟨⟨t602, t603⟩, A30, H⟩ := H
  dsimp only at H
  have A3 := Aside0.mk A30
  clear A30
  obtain rfl := Option.some.inj H
  go_enter Try.func129, Try.ntmps129
  try go_wp2_with (first | ((with_reducible refine gate_dst (N := 1) rfl ?_); refine box_event ?hg (N := 1) ?hd (cs := #[.slice A0_0 l0_0.length c0_0, .int .i64 a0_1, .string a0_2]) (t := 74) ?hr ?_; (case hd => rfl); (case hg => rfl); (case hr => first | (go_simp; done) | (go_simp; rfl)); intro gb601 hg w4 hbox hb; have BK601 := Aside0.mk (hbox); have GW601 := Aside0.mk ((by rw [hg]; exact (below_size (bw_ HB)) : w.heap.size ≤ gb601)); have GE601 := Aside0.mk ((by rw [hg]; exact (below_size (bw_ HB)) : w.heap.size ≤ gb601)); replace HB := Aside0.mk (below_step (bw_ HB) hb); clear hb hbox hg))
  have n0_ := Aside0.mk (blk_drew BK601.out)
  have n1_ := Aside0.mk (below_drew1 HB.out)
  clear BK601
  clear HB
  have BK601 := n0_
  have HB := n1_
  clear n0_ n1_
  refine start_ (n := 13) (S := fun w' => w'.cell? ⟨gb601, 0, none⟩ = some (.slice A0_0 l0_0.length c0_0) ∧ w'.cell? ⟨gb601, 1, none⟩ = some (.int .i64 a0_1) ∧ w'.cell? ⟨gb601, 2, none⟩ = some (.string a0_2)) (ds := []) (lz_ 13 0) (by kernel_rfl) rfl rfl ⟨(blk_cell BK601.out 0).trans rfl, (blk_cell BK601.out 1).trans rfl, (blk_cell BK601.out 2).trans rfl⟩ (fun hHeld => ?_); refine with_tabW spec_LogOk.tab1 spec_LogOk.bits1 (fun HT_ HW_ => ?_)
  generalize w4.drew = w5 at BK601 HB hHeld ⊢
  refine pt_ 0 3 1 ?_
  refine tt_ 1 4 3 ?_
  refine pt_ 2 5 7 ?_
  refine pt_ 3 6 15 ?_
  refine pt_ 4 7 31 ?_
  refine pt_ 5 8 63 ?_
  refine pt_ 7 10 191 ?_
  refine tt_ 6 9 255 ?_
  refine tt_ 8 11 511 ?_
  refine one_ (i := 9) (N := some 12) (lz_ 13 1023) rfl rfl (one_of HT_.out (by kernel_rfl)) (by decide) (fun K hK => ?_)
  refine goes_ Try.func118 (by kernel_rfl) rfl #[.slice A0_0 l0_0.length c0_0] (by rfl) rfl rfl (by (try simp only [List.map_toArray, List.map_cons, List.map_nil]); first | done | rfl | (simp only [List.length_drop, List.length_take]; rfl)) ?_
  with_reducible refine (spec_HeadOf.calls k _ _ l0_0 t602 t603 _ ?side1 ?side2 A3.out).mono ?_
  (case side1 => exact cr_ (Kd.C_below HR0_0.out HB.out))
  (case side2 => exact HC0_0.out)
  rintro e w6 ⟨rfl, hb⟩
  refine ⟨_, rfl, ?_⟩
  have n0_ := Aside0.mk (blk_below (kb_ BK601.out) hb)
  have n1_ := Aside0.mk (below_step (bs1_ HB GE601.out) hb)
  clear BK601
  clear HB
  have BK601 := n0_
  have HB := n1_
  clear n0_ n1_
  (try clear hb)
  (try clear hb2)
  (try clear hk)
  (try clear hi)
  refine hK.out _ _ ⟨(blk_cell BK601.out 0).trans rfl, (blk_cell BK601.out 1).trans rfl, (blk_cell BK601.out 2).trans rfl⟩ (fun hHeld => ?_)
  clear hK K
  refine norm_ (a' := ?_) ?_ ?_
  rotate_left
  ·show Act.put _ (some 12) _ = _
   simp only [Act.put, List.setIfInBounds_toArray, List.set_cons_zero, List.set_cons_succ, i64_w, i32_w]
   rfl
  refine pt_ 10 13 2047 ?_
  refine pt_ 11 14 4095 ?_
  refine pt_ 12 2 8191 ?_
  refine done_ (done_of HT_.out (by kernel_rfl)) ?_
  try go_wp2
  go_ret
  exact ⟨e2_, by repeat (first | (with_reducible first | exact HB.out | apply below_alloc | apply pw_below_drewN | apply below_drew1 | refine below_set ?_ GE601.out) | exact HB.out)⟩
 ·rw [if_neg c2] at H
  have c2b0 := decide_eq_false c2
  have c2b1 : decide (l0_0.length ≤ 200) = false := decide_eq_false (by omega)
  clear c2
  obtain rfl := Option.some.inj H
  go_enter Try.func129, Try.ntmps129
  try go_wp2_with (first | ((with_reducible refine gate_dst (N := 1) rfl ?_); refine box_event ?hg (N := 1) ?hd (cs := #[.slice A0_0 l0_0.length c0_0, .int .i64 a0_1, .string a0_2]) (t := 74) ?hr ?_; (case hd => rfl); (case hg => rfl); (case hr => first | (go_simp; done) | (go_simp; rfl)); intro gb601 hg w7 hbox hb; have BK601 := Aside0.mk (hbox); have GW601 := Aside0.mk ((by rw [hg]; exact (below_size (bw_ HB)) : w.heap.size ≤ gb601)); have GE601 := Aside0.mk ((by rw [hg]; exact (below_size (bw_ HB)) : w.heap.size ≤ gb601)); replace HB := Aside0.mk (below_step (bw_ HB) hb); clear hb hbox hg))
  have n0_ := Aside0.mk (blk_drew BK601.out)
  have n1_ := Aside0.mk (below_drew1 HB.out)
  clear BK601
  clear HB
  have BK601 := n0_
  have HB := n1_
  clear n0_ n1_
  refine start_ (n := 13) (S := fun w' => w'.cell? ⟨gb601, 0, none⟩ = some (.slice A0_0 l0_0.length c0_0) ∧ w'.cell? ⟨gb601, 1, none⟩ = some (.int .i64 a0_1) ∧ w'.cell? ⟨gb601, 2, none⟩ = some (.string a0_2)) (ds := []) (lz_ 13 0) (by kernel_rfl) rfl rfl ⟨(blk_cell BK601.out 0).trans rfl, (blk_cell BK601.out 1).trans rfl, (blk_cell BK601.out 2).trans rfl⟩ (fun hHeld => ?_); refine with_tabW spec_LogOk.tab1 spec_LogOk.bits1 (fun HT_ HW_ => ?_)
  generalize w7.drew = w8 at BK601 HB hHeld ⊢
  refine pt_ 0 3 1 ?_
  refine tt_ 1 4 3 ?_
  refine pt_ 2 5 7 ?_
  refine pt_ 3 6 15 ?_
  refine pt_ 4 7 31 ?_
  refine ut_ 5 8 63 ?_
  refine ut_ 6 9 127 ?_
  refine ut_ 7 10 255 ?_
  refine ut_ 8 11 511 ?_
  refine ut_ 9 12 1023 ?_
  refine ut_ 10 13 2047 ?_
  refine pt_ 11 14 4095 ?_
  refine pt_ 12 2 8191 ?_
  refine done_ (done_of HT_.out (by kernel_rfl)) ?_
  try go_wp2
  go_ret
  exact ⟨e2_, by repeat (first | (with_reducible first | exact HB.out | apply below_alloc | apply pw_below_drewN | apply below_drew1 | refine below_set ?_ GE601.out) | exact HB.out)⟩
end Go.Proofs.Ytcogimnpffnanaa.Q
end
section
/- Whether a log is right: the program's and the reference's answers are one. Plain. -/
namespace Go.Proofs.Ytcogimnpffnanaa.Q
open Go.RowKit Go.Proofs.Ytcogimnpffnanaa.B Go.Proofs.YtcogimnpffnanaaW.PrintWords Go.Proofs.YtcogimnpffnanaaW.PrintMore
set_option linter.unusedVariables false
def logOk (l : List ByteArray) (n : Int) (s : ByteArray) : Bool := if (l.length : Int) ≤ 200 then (n == (headOf l).1 && (s.toList == (headOf l).2.toList)) else false
theorem spec_LogOk_ev (l : List ByteArray) (n : Int) (s : ByteArray) (hs : ∀ x ∈ l, x.size ≤ bigB) : Ev (fun k => spec_LogOk.f k l n s) (logOk l n s) := by
 unfold spec_LogOk.f logOk
 by_cases h : (l.length : Int) ≤ 200
 ·rw [if_pos h]
  exact Ev.pos h (Ev.bind (spec_HeadOf_ev l hs) (Ev.now _))
 ·rw [if_neg h]
  exact Ev.neg h (Ev.now _)
theorem impl_LogOk_ev (l : List ByteArray) (n : Int) (s : ByteArray) (hs : ∀ x ∈ l, x.size ≤ bigB) : Ev (fun k => impl_LogOk.f k l n s) (logOk l n s) := by
 unfold impl_LogOk.f logOk
 by_cases h : (l.length : Int) ≤ 200
 ·rw [if_pos h]
  exact Ev.pos h (Ev.bind (impl_HeadOf_ev l hs) (Ev.now _))
 ·rw [if_neg h]
  exact Ev.neg h (Ev.now _)
end Go.Proofs.Ytcogimnpffnanaa.Q
end
section
namespace Go.Proofs.Ytcogimnpffnanaa.Q
open Go.RowKit Go.Proofs.YtcogimnpffnanaaW.PrintWords Go.Proofs.YtcogimnpffnanaaW.PrintLast Go.Proofs.YtcogimnpffnanaaW.PrintMore
attribute [local go_sem] max2_int min2_int max_two min_two max_three min_three max_four min_four   -- for this text's walks alone
set_option linter.unusedVariables false
set_option linter.unusedSimpArgs false
def spec_LogNew.f (k : Nat)  : Option (List ByteArray × Int × ByteArray) := (spec_HeadOf.f k (([] : List ByteArray))).bind fun bt605 => (some (([] : List ByteArray), bt605.1, bt605.2))
theorem spec_LogNew.mono : ∀ k, LeO (spec_LogNew.f k ) (spec_LogNew.f (k + 1) ) := by
 intro  k
 unfold spec_LogNew.f
 repeat' (with_reducible first | exact LeO.refl _ | exact LeO.none _ | apply spec_HeadOf.mono | apply LeO.ite | refine LeO.bind ?_ fun _ => ?_)
set_option maxHeartbeats 8000000 in
set_option maxRecDepth 100000 in
theorem spec_LogNew.calls (k : Nat)  (r1 : List ByteArray) (r2 : Int) (r3 : ByteArray) (w : World) (h : spec_LogNew.f k  = some (r1, r2, r3)) :
  Calls Try.prog 175 #[] w fun e w' => ∃ v0_ : Value, e = .returned (.agg #[v0_, .int .i64 r2, .string r3]) ∧ Kd.R Kd.string 9 w' w.heap.size (fun _ => True) v0_ r1 ∧ Below w.heap.size w w' := by
 have hu74 := Try.underlying74
 have HB := Aside0.mk (Below.refl w.heap.size w)
 have H : ((spec_HeadOf.f k (([] : List ByteArray))).bind fun bt605 => (some (([] : List ByteArray), bt605.1, bt605.2))) = some (r1, r2, r3) := h
 clear h
 obtain ⟨y602, hy602⟩ : ∃ y_ : List ByteArray, y_ = (([] : List ByteArray)) := ⟨_, rfl⟩
 replace H : ((spec_HeadOf.f k y602).bind fun bt605 => (some (([] : List ByteArray), bt605.1, bt605.2))) = some (r1, r2, r3) := by first | (rw [hy602]; with_reducible exact H) | (have H2_ := (Option.bind_some _ _).symm.trans H; rw [hy602]; with_reducible exact H2_) | (have H2_ := (Option.bind_some _ _).symm.trans H; with_reducible exact H2_) | with_reducible exact H | (rw [hy602]; exact H) | exact H
 have Ny602 := Aside0.mk hy602
 clear hy602
 replace H := Option.bind_eq_some_iff.mp H
 obtain ⟨⟨t605, t606⟩, A10, H⟩ := H
 dsimp only at H
 have A1 := Aside0.mk A10
 clear A10
 simp only [Option.some.injEq, Prod.mk.injEq] at H
 obtain ⟨rfl, rfl, rfl⟩ := H
 go_enter Try.func175, Try.ntmps175
 go_wp2_with (first | ((with_reducible refine gate_dst (N := 0) rfl ?_); refine box_event ?hg (N := 0) ?hd (cs := #[.slice none 0 0, .int .i64 0, .string (⟨#[]⟩ : ByteArray)]) (t := 74) ?hr ?_; (case hd => rfl); (case hg => rfl); (case hr => first | (go_simp; done) | (go_simp; rfl)); intro gb601 hg w2 hbox hb; have BK601 := Aside0.mk (hbox); have GW601 := Aside0.mk ((by rw [hg]; exact (below_size (bw_ HB)) : w.heap.size ≤ gb601)); have GE601 := Aside0.mk ((by rw [hg]; exact (below_size (bw_ HB)) : w.heap.size ≤ gb601)); replace HB := Aside0.mk (below_step (bw_ HB) hb); clear hb hbox hg) | ((with_reducible refine gate_dst (N := 1) rfl ?_); refine rl_ Kd.string 9 1 ([] : List ByteArray) [] ?_; intro v603 w3 ho4 hb hg_ hnew_; clear hg_ hnew_; (first | rw [← Ny602.out] at ho4 | (simp only [Int.reduceToNat] at ho4; rw [← Ny602.out] at ho4)); have HO604 := Aside0.mk (Kd.R_lower ho4 (below_size (bs1_ HB GE601.out))); replace BK601 := Aside0.mk (blk_below (g := gb601) (o := .cells #[.slice none 0 0, .int .i64 0, .string (⟨#[]⟩ : ByteArray)] 74 (0, 0)) (kb_ BK601.out) hb); replace HB := Aside0.mk (below_step (bs1_ HB GE601.out) hb); clear hb ho4; obtain ⟨Ao5, co5, eo5⟩ := Kd.R_slice HO604.out; subst eo5) | ((with_reducible refine gk_ 118 ?_); refine gl_ 2 Try.func118 #[.slice Ao5 y602.length co5] ?_; (with_reducible refine (spec_HeadOf.calls k _ _ y602 t605 t606 _ ?side1 ?side2 A1.out).mono ?_); (case side1 => exact cr_ (Kd.R_reads' HO604.out).2.2); (case side2 => exact (Kd.R_reads' HO604.out).2.1); rintro e w6 ⟨rfl, hb⟩; refine ⟨_, rfl, ?_⟩; replace HO604 := Aside0.mk (Kd.R_below (kr_ HO604.out) hb); replace BK601 := Aside0.mk (blk_below (g := gb601) (o := .cells #[.slice none 0 0, .int .i64 0, .string (⟨#[]⟩ : ByteArray)] 74 (0, 0)) (kb_ BK601.out) hb); replace HB := Aside0.mk (below_step (bs1_ HB GE601.out) hb); clear hb; have hcz7_0 := bc0_ BK601.out; have hcz7_1 := bc1_ BK601.out; have hcz7_2 := bc2_ BK601.out; have hfz7_0 := blk_frozen BK601.out 0; have hfz7_1 := blk_frozen BK601.out 1; have hfz7_2 := blk_frozen BK601.out 2))
 refine bodyPost_ret (results_cell_row rfl _ _ gb601 74 #[.slice none 0 0, .int .i64 t605, .string t606] (0, 0) _ rfl (by (with_reducible repeat (first | refine blk_drewN ?_ _ | refine blk_drew ?_ | refine blk_alloc ?_ _)); refine blk_put (cs := #[.slice none 0 0, .int .i64 t605, .string (⟨#[]⟩ : ByteArray)]) ?_ 2 _ rfl; (with_reducible repeat (first | refine blk_drewN ?_ _ | refine blk_drew ?_ | refine blk_alloc ?_ _)); refine blk_put (cs := #[.slice none 0 0, .int .i64 0, .string (⟨#[]⟩ : ByteArray)]) ?_ 1 _ rfl; (with_reducible repeat (first | refine blk_drewN ?_ _ | refine blk_drew ?_ | refine blk_alloc ?_ _)); refine blk_put (cs := #[.slice none 0 0, .int .i64 0, .string (⟨#[]⟩ : ByteArray)]) ?_ 0 _ rfl; (with_reducible repeat (first | refine blk_drewN ?_ _ | refine blk_drew ?_ | refine blk_alloc ?_ _)); exact BK601.out) Try.underlying74 rfl (by kernel_rfl)) rfl ?_
 exact ⟨_, e2_, by first | exact Kd.R_nil _ _ _ _ _ | exact Kd.N_nil _ _ _ _ _ | exact Kd.V_nil _ _ _ _ _ | exact Kd.Q_nil _ _ _ _ _ | exact Kd.S_nil _ _ _ _ _, by repeat (first | (with_reducible first | exact HB.out | apply below_alloc | apply pw_below_drewN | apply below_drew1 | refine below_set ?_ GE601.out) | exact HB.out)⟩
end Go.Proofs.Ytcogimnpffnanaa.Q
end
section
namespace Go.Proofs.Ytcogimnpffnanaa.Q
open Go.RowKit Go.Proofs.YtcogimnpffnanaaW.PrintWords Go.Proofs.YtcogimnpffnanaaW.PrintLast Go.Proofs.YtcogimnpffnanaaW.PrintMore
attribute [local go_sem] max2_int min2_int max_two min_two max_three min_three max_four min_four   -- for this text's walks alone
set_option linter.unusedVariables false
set_option linter.unusedSimpArgs false
def spec_l8Same.l0 : Nat → List ByteArray → List ByteArray → Int → Option (Bool)
 | 0, _, _, _ => none
 | k + 1, x0, x1, x5 => if x5 < (x0.length : Int) then (if 0 ≤ x5 then (if x5 < (x1.length : Int) then (if (rdOf ByteArray.empty x0 x5).toList = (rdOf ByteArray.empty x1 x5).toList then (spec_l8Same.l0 k x0 x1 (wrap64 (x5 + 1))) else (some false)) else (none)) else (none)) else (some true)
def spec_l8Same.f (k : Nat) (l0 : List ByteArray) (l1 : List ByteArray) : Option (Bool) := if (l0.length : Int) = (l1.length : Int) then (spec_l8Same.l0 k l0 l1 0) else (some false)
theorem spec_l8Same.mono_l : ∀ k, (∀ y0 y1 y2, LeO (spec_l8Same.l0 k y0 y1 y2) (spec_l8Same.l0 (k + 1) y0 y1 y2))
 | 0 => fun _ _ _ r h => by simp [spec_l8Same.l0] at h
 | k + 1 => by
  have ih0 := spec_l8Same.mono_l k
  ·intro y0 y1 y2
   unfold spec_l8Same.l0
   repeat' (with_reducible first | exact LeO.refl _ | exact LeO.none _ | apply ih0 | apply LeO.ite | refine LeO.bind ?_ fun _ => ?_)
theorem spec_l8Same.mono : ∀ a0 a1 k, LeO (spec_l8Same.f k a0 a1) (spec_l8Same.f (k + 1) a0 a1) := by
 intro a0 a1 k
 have ih0 := spec_l8Same.mono_l k
 unfold spec_l8Same.f
 repeat' (with_reducible first | exact LeO.refl _ | exact LeO.none _ | apply ih0 | apply LeO.ite | refine LeO.bind ?_ fun _ => ?_)
set_option maxHeartbeats 8000000 in
set_option maxRecDepth 100000 in
theorem spec_l8Same.calls (k : Nat) (A0 : Option Addr) (c0 : Nat) (l0 : List ByteArray) (A1 : Option Addr) (c1 : Nat) (l1 : List ByteArray) (r : Bool) (w : World) (hr0 : Kd.C Kd.string w A0 l0.length l0) (hc0 : l0.length ≤ c0) (hr1 : Kd.C Kd.string w A1 l1.length l1) (hc1 : l1.length ≤ c1) (h : spec_l8Same.f k l0 l1 = some r) :
  Calls Try.prog 146 #[.slice A0 l0.length c0, .slice A1 l1.length c1] w fun e w' => e = .returned (.bool r) ∧ Drawn0 w w' := by
 have HR0 := Aside0.mk hr0
 have HC0 := Aside0.mk hc0
 clear hr0 hc0
 have HR1 := Aside0.mk hr1
 have HC1 := Aside0.mk hc1
 clear hr1 hc1
 have H : (if (l0.length : Int) = (l1.length : Int) then (spec_l8Same.l0 k l0 l1 0) else (some false)) = some r := h
 clear h
 by_cases c3 : (l0.length : Int) = (l1.length : Int)
 ·rw [if_pos c3] at H
  have c3b0 : ((l0.length : Int) == (l1.length : Int)) = true := beq_iff_eq.mpr c3
  have c3b1 : ((l0.length : Int) != (l1.length : Int)) = false := bne_eq_false_iff_eq.mpr c3
  have c3b2 : (l0.length == l1.length) = true := by first | simpa using c3 | (simp at c3 ⊢; omega)
  clear c3
  have H' := Aside0.mk H
  clear H
  go_enter Try.func146, Try.ntmps146
  go_wp2
  repeat (go_quiet (fail); try go_wp2)
  go_loopg [5] k (fun kq v5 w' => ∃ (x5_1 : Int), v5 = .int .i64 x5_1 ∧ Aside0 (spec_l8Same.l0 kq l0 l1 x5_1 = some r) ∧ Aside0 (kq ≤ k) ∧ Drawn0 w w')
  case atStart => exact ⟨(0), e1_, H', ⟨Nat.le_refl _⟩, dw_⟩
  case round =>
   clear H'
   try clear c1
   try clear p2
   try clear c3
   try clear c3b0
   try clear c3b1
   try clear c3b2
   obtain ⟨x5_1, rfl, HA, HK1, ⟨m1, rfl⟩⟩ := hrel
   cases gk with
   | zero => exact absurd HA.out (by simp [spec_l8Same.l0])
   | succ k1 =>
    have H := HA.out
    clear HA
    simp only [spec_l8Same.l0] at H
    by_cases c4 : x5_1 < (l0.length : Int)
    ·rw [if_pos c4] at H
     have c4b0 := decide_eq_true c4
     clear c4
     by_cases c5 : 0 ≤ x5_1
     ·rw [if_pos c5] at H
      have c5b0 := decide_eq_true c5
      clear c5
      by_cases c6 : x5_1 < (l1.length : Int)
      ·rw [if_pos c6] at H
       have c6b0 := decide_eq_true c6
       clear c6
       by_cases c7 : (rdOf ByteArray.empty l0 x5_1).toList = (rdOf ByteArray.empty l1 x5_1).toList
       ·rw [if_pos c7] at H
        have c7b0 : ((rdOf ByteArray.empty l0 x5_1).toList == (rdOf ByteArray.empty l1 x5_1).toList) = true := beq_iff_eq.mpr c7
        have c7b1 : ((rdOf ByteArray.empty l0 x5_1).toList != (rdOf ByteArray.empty l1 x5_1).toList) = false := bne_eq_false_iff_eq.mpr c7
        clear c7
        have H' := Aside0.mk H
        clear H
        have p601 : 0 ≤ (x5_1 : Int) := of_decide_eq_true as_
        have q601 : x5_1 < (l0.length : Int) := of_decide_eq_true as_
        obtain ⟨ad601, e601, hx601_0⟩ := Kd.at_string HR0.out x5_1 p601 q601
        cases e601
        replace p601 := eq_true p601
        replace q601 := eq_true q601
        have p602 : 0 ≤ (x5_1 : Int) := of_decide_eq_true as_
        have q602 : x5_1 < (l1.length : Int) := of_decide_eq_true as_
        obtain ⟨ad602, e602, hx602_0⟩ := Kd.at_string HR1.out x5_1 p602 q602
        cases e602
        replace p602 := eq_true p602
        replace q602 := eq_true q602
        go_wp2
        repeat (go_quiet (fail); try go_wp2)
        go_roundg k1
        case measure => have := HK1.out; omega
        case rel => exact ⟨(wrap64 (x5_1 + 1)), e1_, H', ⟨by have := HK1.out; omega⟩, dw_⟩
       ·rw [if_neg c7] at H
        have c7b0 : ((rdOf ByteArray.empty l0 x5_1).toList == (rdOf ByteArray.empty l1 x5_1).toList) = false := beq_eq_false_iff_ne.mpr c7
        have c7b1 : ((rdOf ByteArray.empty l0 x5_1).toList != (rdOf ByteArray.empty l1 x5_1).toList) = true := bne_iff_ne.mpr c7
        obtain rfl := Option.some.inj H
        have p601 : 0 ≤ (x5_1 : Int) := of_decide_eq_true as_
        have q601 : x5_1 < (l0.length : Int) := of_decide_eq_true as_
        obtain ⟨ad601, e601, hx601_0⟩ := Kd.at_string HR0.out x5_1 p601 q601
        cases e601
        replace p601 := eq_true p601
        replace q601 := eq_true q601
        have p602 : 0 ≤ (x5_1 : Int) := of_decide_eq_true as_
        have q602 : x5_1 < (l1.length : Int) := of_decide_eq_true as_
        obtain ⟨ad602, e602, hx602_0⟩ := Kd.at_string HR1.out x5_1 p602 q602
        cases e602
        replace p602 := eq_true p602
        replace q602 := eq_true q602
        go_wp2
        repeat (go_quiet (fail); try go_wp2)
        go_ret
        exact ⟨e1_, dw_⟩
      ·rw [if_neg c6] at H
       exact absurd H (by simp)
     ·rw [if_neg c5] at H
      exact absurd H (by simp)
    ·rw [if_neg c4] at H
     have c4b0 := decide_eq_false c4
     clear c4
     obtain rfl := Option.some.inj H
     go_wp2
     repeat (go_quiet (fail); try go_wp2)
     go_ret
     exact ⟨e1_, dw_⟩
 ·rw [if_neg c3] at H
  have c3b0 : ((l0.length : Int) == (l1.length : Int)) = false := beq_eq_false_iff_ne.mpr c3
  have c3b1 : ((l0.length : Int) != (l1.length : Int)) = true := bne_iff_ne.mpr c3
  have c3b2 : (l0.length == l1.length) = false := by first | simpa using c3 | (simp at c3 ⊢; omega)
  obtain rfl := Option.some.inj H
  go_enter Try.func146, Try.ntmps146
  go_wp2
  repeat (go_quiet (fail); try go_wp2)
  go_ret
  exact ⟨e1_, dw_⟩
end Go.Proofs.Ytcogimnpffnanaa.Q
end
section
namespace Go.Proofs.Ytcogimnpffnanaa.Q
open Go.RowKit Go.Proofs.YtcogimnpffnanaaW.PrintWords Go.Proofs.YtcogimnpffnanaaW.PrintLast Go.Proofs.YtcogimnpffnanaaW.PrintMore
attribute [local go_sem] max2_int min2_int max_two min_two max_three min_three max_four min_four   -- for this text's walks alone
set_option linter.unusedVariables false
set_option linter.unusedSimpArgs false
def slices_Equal_string_string.l0 : Nat → List ByteArray → List ByteArray → Int → Int → Option (Bool)
 | 0, _, _, _, _ => none
 | k + 1, x0, x1, x12, x13 => if x13 < x12 then (if 0 ≤ x13 then (if x13 < (x0.length : Int) then (if x13 < (x1.length : Int) then (if (rdOf ByteArray.empty x0 x13).toList = (rdOf ByteArray.empty x1 x13).toList then (slices_Equal_string_string.l0 k x0 x1 x12 (wrap64 (x13 + 1))) else (some false)) else (none)) else (none)) else (none)) else (some true)
def slices_Equal_string_string.f (k : Nat) (l0 : List ByteArray) (l1 : List ByteArray) : Option (Bool) := if (l0.length : Int) = (l1.length : Int) then (slices_Equal_string_string.l0 k l0 l1 (l0.length : Int) 0) else (some false)
theorem slices_Equal_string_string.mono_l : ∀ k, (∀ y0 y1 y2 y3, LeO (slices_Equal_string_string.l0 k y0 y1 y2 y3) (slices_Equal_string_string.l0 (k + 1) y0 y1 y2 y3))
 | 0 => fun _ _ _ _ r h => by simp [slices_Equal_string_string.l0] at h
 | k + 1 => by
  have ih0 := slices_Equal_string_string.mono_l k
  ·intro y0 y1 y2 y3
   unfold slices_Equal_string_string.l0
   repeat' (with_reducible first | exact LeO.refl _ | exact LeO.none _ | apply ih0 | apply LeO.ite | refine LeO.bind ?_ fun _ => ?_)
theorem slices_Equal_string_string.mono : ∀ a0 a1 k, LeO (slices_Equal_string_string.f k a0 a1) (slices_Equal_string_string.f (k + 1) a0 a1) := by
 intro a0 a1 k
 have ih0 := slices_Equal_string_string.mono_l k
 unfold slices_Equal_string_string.f
 repeat' (with_reducible first | exact LeO.refl _ | exact LeO.none _ | apply ih0 | apply LeO.ite | refine LeO.bind ?_ fun _ => ?_)
set_option maxHeartbeats 8000000 in
set_option maxRecDepth 100000 in
theorem slices_Equal_string_string.calls (k : Nat) (A0 : Option Addr) (c0 : Nat) (l0 : List ByteArray) (A1 : Option Addr) (c1 : Nat) (l1 : List ByteArray) (r : Bool) (w : World) (hr0 : Kd.C Kd.string w A0 l0.length l0) (hc0 : l0.length ≤ c0) (hr1 : Kd.C Kd.string w A1 l1.length l1) (hc1 : l1.length ≤ c1) (h : slices_Equal_string_string.f k l0 l1 = some r) :
  Calls Try.prog 112 #[.slice A0 l0.length c0, .slice A1 l1.length c1] w fun e w' => e = .returned (.bool r) ∧ Drawn0 w w' := by
 have HR0 := Aside0.mk hr0
 have HC0 := Aside0.mk hc0
 clear hr0 hc0
 have HR1 := Aside0.mk hr1
 have HC1 := Aside0.mk hc1
 clear hr1 hc1
 have H : (if (l0.length : Int) = (l1.length : Int) then (slices_Equal_string_string.l0 k l0 l1 (l0.length : Int) 0) else (some false)) = some r := h
 clear h
 by_cases c3 : (l0.length : Int) = (l1.length : Int)
 ·rw [if_pos c3] at H
  have c3b0 : ((l0.length : Int) == (l1.length : Int)) = true := beq_iff_eq.mpr c3
  have c3b1 : ((l0.length : Int) != (l1.length : Int)) = false := bne_eq_false_iff_eq.mpr c3
  have c3b2 : (l0.length == l1.length) = true := by first | simpa using c3 | (simp at c3 ⊢; omega)
  clear c3
  have H' := Aside0.mk H
  clear H
  go_enter Try.func112, Try.ntmps112
  go_wp2
  repeat (go_quiet (fail); try go_wp2)
  go_loopg [13] k (fun kq v13 w' => ∃ (x13_1 : Int), v13 = .int .i64 x13_1 ∧ Aside0 (slices_Equal_string_string.l0 kq l0 l1 (l0.length : Int) x13_1 = some r) ∧ Aside0 (kq ≤ k) ∧ Drawn0 w w')
  case atStart => exact ⟨(0), e1_, H', ⟨Nat.le_refl _⟩, dw_⟩
  case round =>
   clear H'
   try clear c1
   try clear p2
   try clear c3
   try clear c3b0
   try clear c3b1
   try clear c3b2
   obtain ⟨x13_1, rfl, HA, HK1, ⟨m1, rfl⟩⟩ := hrel
   cases gk with
   | zero => exact absurd HA.out (by simp [slices_Equal_string_string.l0])
   | succ k1 =>
    have H := HA.out
    clear HA
    simp only [slices_Equal_string_string.l0] at H
    by_cases c4 : x13_1 < (l0.length : Int)
    ·rw [if_pos c4] at H
     have c4b0 := decide_eq_true c4
     clear c4
     by_cases c5 : 0 ≤ x13_1
     ·rw [if_pos c5] at H
      have c5b0 := decide_eq_true c5
      clear c5
      by_cases c6 : x13_1 < (l0.length : Int)
      ·rw [if_pos c6] at H
       have c6b0 := decide_eq_true c6
       clear c6
       by_cases c7 : x13_1 < (l1.length : Int)
       ·rw [if_pos c7] at H
        have c7b0 := decide_eq_true c7
        clear c7
        by_cases c8 : (rdOf ByteArray.empty l0 x13_1).toList = (rdOf ByteArray.empty l1 x13_1).toList
        ·rw [if_pos c8] at H
         have c8b0 : ((rdOf ByteArray.empty l0 x13_1).toList == (rdOf ByteArray.empty l1 x13_1).toList) = true := beq_iff_eq.mpr c8
         have c8b1 : ((rdOf ByteArray.empty l0 x13_1).toList != (rdOf ByteArray.empty l1 x13_1).toList) = false := bne_eq_false_iff_eq.mpr c8
         clear c8
         have H' := Aside0.mk H
         clear H
         have p601 : 0 ≤ (x13_1 : Int) := of_decide_eq_true as_
         have q601 : x13_1 < (l0.length : Int) := of_decide_eq_true as_
         obtain ⟨ad601, e601, hx601_0⟩ := Kd.at_string HR0.out x13_1 p601 q601
         cases e601
         replace p601 := eq_true p601
         replace q601 := eq_true q601
         have p602 : 0 ≤ (x13_1 : Int) := of_decide_eq_true as_
         have q602 : x13_1 < (l1.length : Int) := of_decide_eq_true as_
         obtain ⟨ad602, e602, hx602_0⟩ := Kd.at_string HR1.out x13_1 p602 q602
         cases e602
         replace p602 := eq_true p602
         replace q602 := eq_true q602
         go_wp2
         repeat (go_quiet (fail); try go_wp2)
         go_roundg k1
         case measure => have := HK1.out; omega
         case rel => exact ⟨(wrap64 (x13_1 + 1)), e1_, H', ⟨by have := HK1.out; omega⟩, dw_⟩
        ·rw [if_neg c8] at H
         have c8b0 : ((rdOf ByteArray.empty l0 x13_1).toList == (rdOf ByteArray.empty l1 x13_1).toList) = false := beq_eq_false_iff_ne.mpr c8
         have c8b1 : ((rdOf ByteArray.empty l0 x13_1).toList != (rdOf ByteArray.empty l1 x13_1).toList) = true := bne_iff_ne.mpr c8
         obtain rfl := Option.some.inj H
         have p601 : 0 ≤ (x13_1 : Int) := of_decide_eq_true as_
         have q601 : x13_1 < (l0.length : Int) := of_decide_eq_true as_
         obtain ⟨ad601, e601, hx601_0⟩ := Kd.at_string HR0.out x13_1 p601 q601
         cases e601
         replace p601 := eq_true p601
         replace q601 := eq_true q601
         have p602 : 0 ≤ (x13_1 : Int) := of_decide_eq_true as_
         have q602 : x13_1 < (l1.length : Int) := of_decide_eq_true as_
         obtain ⟨ad602, e602, hx602_0⟩ := Kd.at_string HR1.out x13_1 p602 q602
         cases e602
         replace p602 := eq_true p602
         replace q602 := eq_true q602
         go_wp2
         repeat (go_quiet (fail); try go_wp2)
         go_ret
         exact ⟨e1_, dw_⟩
       ·rw [if_neg c7] at H
        exact absurd H (by simp)
      ·rw [if_neg c6] at H
       exact absurd H (by simp)
     ·rw [if_neg c5] at H
      exact absurd H (by simp)
    ·rw [if_neg c4] at H
     have c4b0 := decide_eq_false c4
     clear c4
     obtain rfl := Option.some.inj H
     go_wp2
     repeat (go_quiet (fail); try go_wp2)
     go_ret
     exact ⟨e1_, dw_⟩
 ·rw [if_neg c3] at H
  have c3b0 : ((l0.length : Int) == (l1.length : Int)) = false := beq_eq_false_iff_ne.mpr c3
  have c3b1 : ((l0.length : Int) != (l1.length : Int)) = true := bne_iff_ne.mpr c3
  have c3b2 : (l0.length == l1.length) = false := by first | simpa using c3 | (simp at c3 ⊢; omega)
  obtain rfl := Option.some.inj H
  go_enter Try.func112, Try.ntmps112
  go_wp2
  repeat (go_quiet (fail); try go_wp2)
  go_ret
  exact ⟨e1_, dw_⟩
end Go.Proofs.Ytcogimnpffnanaa.Q
end
section
/- Whether two lists of texts are the same: the program's and the reference's answers are one. Plain. -/
namespace Go.Proofs.Ytcogimnpffnanaa.Q
open Go.RowKit Go.Proofs.Ytcogimnpffnanaa.B Go.Proofs.YtcogimnpffnanaaW.PrintWords
set_option linter.unusedVariables false
set_option linter.unusedSimpArgs false
theorem nextC {i n : Nat} (h : i < n) (hn : n ≤ 9223372036854775807) : wrap64 ((i : Int) + 1) = ((i + 1 : Nat) : Int) := by
 rw [w64 (by omega) (by omega)]
 omega
theorem spec_same_ev (a b : List ByteArray) (ha : a.length ≤ 9223372036854775807) : Ev (fun k => spec_l8Same.f k a b) (decide (a = b)) := by
 unfold spec_l8Same.f
 by_cases hl : a.length = b.length
 ·have main : ∀ (d i : Nat), i + d = a.length → a.take i = b.take i → Ev (fun k => spec_l8Same.l0 k a b (i : Int)) (decide (a = b)) := by
   intro d
   induction d with
   | zero =>
    intro i hi ht
    rw [List.take_of_length_le (by omega), List.take_of_length_le (by omega)] at ht
    rw [decide_eq_true ht]
    refine Ev.step (fun k => by simp only [spec_l8Same.l0]; rfl) ?_
    exact Ev.neg (by omega) (Ev.now _)
   | succ d ih =>
    intro i hi ht
    obtain ⟨x, hx⟩ := get_some (l := a) (i := i) (by omega)
    obtain ⟨y, hy⟩ := get_some (l := b) (i := i) (by omega)
    refine Ev.step (fun k => by simp only [spec_l8Same.l0]; rfl) ?_
    rw [rdOf_at hx, rdOf_at hy, nextC (show i < a.length by omega) ha]
    by_cases h : x.toList = y.toList
    ·have e := bytes_ext h
     subst e
     exact Ev.pos (by omega) (Ev.pos (by omega) (Ev.pos (by omega) (Ev.pos rfl (ih (i + 1) (by omega) (by rw [take_one hx, take_one hy, ht])))))
    ·have hn : ¬ a = b := by
      intro e
      subst e
      rw [hx] at hy
      exact h (by rw [Option.some.inj hy])
     rw [decide_eq_false hn]
     exact Ev.pos (by omega) (Ev.pos (by omega) (Ev.pos (by omega) (Ev.neg h (Ev.now _))))
  exact Ev.pos (by omega) (main a.length 0 (by omega) (by simp))
 ·have hn : ¬ a = b := fun e => hl (by rw [e])
  rw [decide_eq_false hn]
  exact Ev.neg (by omega) (Ev.now _)
theorem impl_same_ev (a b : List ByteArray) (ha : a.length ≤ 9223372036854775807) : Ev (fun k => slices_Equal_string_string.f k a b) (decide (a = b)) := by
 unfold slices_Equal_string_string.f
 by_cases hl : a.length = b.length
 ·have main : ∀ (d i : Nat), i + d = a.length → a.take i = b.take i → Ev (fun k => slices_Equal_string_string.l0 k a b (a.length : Int) (i : Int)) (decide (a = b)) := by
   intro d
   induction d with
   | zero =>
    intro i hi ht
    rw [List.take_of_length_le (by omega), List.take_of_length_le (by omega)] at ht
    rw [decide_eq_true ht]
    refine Ev.step (fun k => by simp only [slices_Equal_string_string.l0]; rfl) ?_
    exact Ev.neg (by omega) (Ev.now _)
   | succ d ih =>
    intro i hi ht
    obtain ⟨x, hx⟩ := get_some (l := a) (i := i) (by omega)
    obtain ⟨y, hy⟩ := get_some (l := b) (i := i) (by omega)
    refine Ev.step (fun k => by simp only [slices_Equal_string_string.l0]; rfl) ?_
    rw [rdOf_at hx, rdOf_at hy, nextC (show i < a.length by omega) ha]
    by_cases h : x.toList = y.toList
    ·have e := bytes_ext h
     subst e
     exact Ev.pos (by omega) (Ev.pos (by omega) (Ev.pos (by omega) (Ev.pos (by omega) (Ev.pos rfl (ih (i + 1) (by omega) (by rw [take_one hx, take_one hy, ht]))))))
    ·have hn : ¬ a = b := by
      intro e
      subst e
      rw [hx] at hy
      exact h (by rw [Option.some.inj hy])
     rw [decide_eq_false hn]
     exact Ev.pos (by omega) (Ev.pos (by omega) (Ev.pos (by omega) (Ev.pos (by omega) (Ev.neg h (Ev.now _)))))
  exact Ev.pos (by omega) (main a.length 0 (by omega) (by simp))
 ·have hn : ¬ a = b := fun e => hl (by rw [e])
  rw [decide_eq_false hn]
  exact Ev.neg (by omega) (Ev.now _)
end Go.Proofs.Ytcogimnpffnanaa.Q
end
