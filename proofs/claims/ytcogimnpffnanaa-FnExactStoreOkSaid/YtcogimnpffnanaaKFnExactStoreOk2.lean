-- Joined and shortened by a program of this session (wip/tools/shakecopy.py): the words of the print, texts of pp.sh and of mine.
import Derived.Test.YtcogimnpffnanaaKFnExactStoreOk1
section
section
namespace Go.Proofs.Ytcogimnpffnanaa.Q
open Go.RowKit Go.Proofs.YtcogimnpffnanaaW.PrintWords Go.Proofs.YtcogimnpffnanaaW.PrintLast Go.Proofs.YtcogimnpffnanaaW.PrintMore
attribute [local go_sem] max2_int min2_int max_two min_two max_three min_three max_four min_four   -- for this text's walks alone
set_option linter.unusedVariables false
set_option linter.unusedSimpArgs false
mutual
def spec_l2Words.l0 : Nat → List Int → List Int → Int → Option (List Int)
 | 0, _, _, _ => none
 | k + 1, x0, x3, x4 => if x4 < 16 then (if 0 ≤ (wrap64 (4 * x4)) then (if (wrap64 (4 * x4)) < (x0.length : Int) then (if 0 ≤ (wrap64 ((wrap64 (4 * x4)) + 1)) then (if (wrap64 ((wrap64 (4 * x4)) + 1)) < (x0.length : Int) then (if 0 ≤ (wrap64 ((wrap64 (4 * x4)) + 2)) then (if (wrap64 ((wrap64 (4 * x4)) + 2)) < (x0.length : Int) then (if 0 ≤ (wrap64 ((wrap64 (4 * x4)) + 3)) then (if (wrap64 ((wrap64 (4 * x4)) + 3)) < (x0.length : Int) then (if x3.length < 17592186044416 then (spec_l2Words.l0 k x0 (x3 ++ [Go.bits .or .i64 (Go.bits .or .i64 (Go.bits .or .i64 (wrap64 ((wrap64 (rd x0 (wrap64 (4 * x4)))) * 16777216)) (wrap64 ((wrap64 (rd x0 (wrap64 ((wrap64 (4 * x4)) + 1)))) * 65536))) (wrap64 ((wrap64 (rd x0 (wrap64 ((wrap64 (4 * x4)) + 2)))) * 256))) (wrap64 (rd x0 (wrap64 ((wrap64 (4 * x4)) + 3))))]) (wrap64 (x4 + 1))) else (none)) else (none)) else (none)) else (none)) else (none)) else (none)) else (none)) else (none)) else (none)) else (spec_l2Words.l1 k x3 16)
def spec_l2Words.l1 : Nat → List Int → Int → Option (List Int)
 | 0, _, _ => none
 | k + 1, x3, x5 => if x5 < 64 then (if 0 ≤ (wrap64 (x5 - 15)) then (if (wrap64 (x5 - 15)) < (x3.length : Int) then (if 0 ≤ (wrap64 (x5 - 2)) then (if (wrap64 (x5 - 2)) < (x3.length : Int) then ((spec_l2Turn.f (rd x3 (wrap64 (x5 - 15))) 7).bind fun t613 => ((spec_l2Turn.f (rd x3 (wrap64 (x5 - 15))) 18).bind fun t614 => ((spec_l2Turn.f (rd x3 (wrap64 (x5 - 2))) 17).bind fun t615 => ((spec_l2Turn.f (rd x3 (wrap64 (x5 - 2))) 19).bind fun t616 => (if 0 ≤ (wrap64 (x5 - 16)) then (if (wrap64 (x5 - 16)) < (x3.length : Int) then (if 0 ≤ (wrap64 (x5 - 7)) then (if (wrap64 (x5 - 7)) < (x3.length : Int) then (if x3.length < 17592186044416 then (spec_l2Words.l1 k (x3 ++ [Go.bits .and .i64 (wrap64 ((wrap64 ((wrap64 ((rd x3 (wrap64 (x5 - 16))) + (Go.bits .xor .i64 (Go.bits .xor .i64 t613 t614) ((rd x3 (wrap64 (x5 - 15))) / 8)))) + (rd x3 (wrap64 (x5 - 7))))) + (Go.bits .xor .i64 (Go.bits .xor .i64 t615 t616) ((rd x3 (wrap64 (x5 - 2))) / 1024)))) 4294967295]) (wrap64 (x5 + 1))) else (none)) else (none)) else (none)) else (none)) else (none)))))) else (none)) else (none)) else (none)) else (none)) else (some x3)
end
def spec_l2Words.f (k : Nat) (l0 : List Int) : Option (List Int) := spec_l2Words.l0 k l0 (([] : List Int)) 0
theorem spec_l2Words.mono_l : ∀ k, (∀ y0 y1 y2, LeO (spec_l2Words.l0 k y0 y1 y2) (spec_l2Words.l0 (k + 1) y0 y1 y2)) ∧ (∀ y0 y1, LeO (spec_l2Words.l1 k y0 y1) (spec_l2Words.l1 (k + 1) y0 y1))
 | 0 => ⟨fun _ _ _ r h => by simp [spec_l2Words.l0] at h, fun _ _ r h => by simp [spec_l2Words.l1] at h⟩
 | k + 1 => by
  obtain ⟨ih0, ih1⟩ := spec_l2Words.mono_l k
  refine ⟨?_, ?_⟩
  ·intro y0 y1 y2
   unfold spec_l2Words.l0
   repeat' (with_reducible first | exact LeO.refl _ | exact LeO.none _ | apply ih0 | apply ih1 | apply LeO.ite | refine LeO.bind ?_ fun _ => ?_)
  ·intro y0 y1
   unfold spec_l2Words.l1
   repeat' (with_reducible first | exact LeO.refl _ | exact LeO.none _ | apply ih0 | apply ih1 | apply LeO.ite | refine LeO.bind ?_ fun _ => ?_)
theorem spec_l2Words.mono : ∀ a0 k, LeO (spec_l2Words.f k a0) (spec_l2Words.f (k + 1) a0) := by
 intro a0 k
 obtain ⟨ih0, ih1⟩ := spec_l2Words.mono_l k
 unfold spec_l2Words.f
 repeat' (with_reducible first | exact LeO.refl _ | exact LeO.none _ | apply ih0 | apply ih1 | apply LeO.ite | refine LeO.bind ?_ fun _ => ?_)
def spec_l2Words.T5 : Bool × List (List Nat × List Nat) := (true, [([], []), ([], []), ([], []), ([2], [2]), ([1, 3], [1, 3]), ([4], [4]), ([5], [5]), ([6], [6]), ([], []), ([], []), ([9], [9]), ([10], [10]), ([8, 11], [8, 11]), ([12], [12]), ([13], [13]), ([14], [14]), ([7, 15], [7, 15]), ([], []), ([], []), ([18], [18]), ([19], [19]), ([17, 20], [17, 20]), ([21], [21]), ([22], [22]), ([23], [23]), ([16, 24], [16, 24]), ([], []), ([], []), ([27], [27]), ([28], [28]), ([26, 29], [26, 29]), ([30], [30]), ([31], [31]), ([25, 32], [25, 32]), ([33], [33]), ([0, 34], [0, 34]), ([35, 35, 0, 1, 2, 3, 4, 5, 6, 7, 8, 9, 10, 11, 12, 13, 14, 15, 16, 17, 18, 19, 20, 21, 22, 23, 24, 25, 26, 27, 28, 29, 30, 31, 32, 33, 34, 35], [0, 35])])
def spec_l2Words.B5 : List Nat := [0, 0, 0, 4, 14, 30, 62, 126, 0, 0, 512, 1536, 3840, 7936, 16128, 32512, 65534, 0, 0, 262144, 786432, 1966080, 4063232, 8257536, 16646144, 33554430, 0, 0, 134217728, 402653184, 1006632960, 2080374784, 4227858432, 8589934590, 17179869182, 34359738367, 68719476735]
theorem spec_l2Words.tab5 : rtab .any (opsOf Try.f176 5) = spec_l2Words.T5 := by kernel_rfl
theorem spec_l2Words.bits5 : waitsOk spec_l2Words.T5.2 spec_l2Words.B5 = true := by kernel_rfl
def spec_l2Words.T13 : Bool × List (List Nat × List Nat) := (true, [([], []), ([], []), ([], []), ([2], [2]), ([1, 3], [1, 3]), ([4], [4]), ([], []), ([5, 6], [5, 6]), ([], []), ([], []), ([9], [9]), ([8, 10], [8, 10]), ([11], [11]), ([7, 12], [7, 12]), ([], []), ([13, 14], [13, 14]), ([15], [15]), ([16], [16]), ([0, 17], [0, 17]), ([18, 18, 0, 1, 2, 3, 4, 5, 6, 7, 8, 9, 10, 11, 12, 13, 14, 15, 16, 17, 18], [0, 1, 8, 18])])
def spec_l2Words.B13 : List Nat := [0, 0, 0, 4, 14, 30, 0, 126, 0, 0, 512, 1792, 3840, 8190, 0, 32766, 65534, 131070, 262143, 524287]
theorem spec_l2Words.tab13 : rtab .any (opsOf Try.f176 13) = spec_l2Words.T13 := by kernel_rfl
theorem spec_l2Words.bits13 : waitsOk spec_l2Words.T13.2 spec_l2Words.B13 = true := by kernel_rfl
set_option maxHeartbeats 8000000 in
set_option maxRecDepth 100000 in
theorem spec_l2Words.calls (k : Nat) (A0 : Option Addr) (c0 : Nat) (l0 : List Int) (r : List Int) (w : World) (hr0 : Kd.C (Kd.int .u8) w A0 l0.length l0) (hc0 : l0.length ≤ c0) (h : spec_l2Words.f k l0 = some r) :
  Calls Try.prog 176 #[.slice A0 l0.length c0] w fun e w' => ∃ v0_ : Value, e = .returned (v0_) ∧ Kd.R (Kd.int .i64) 3 w' w.heap.size (fun _ => True) v0_ r ∧ Below w.heap.size w w' := by
 have HR0 := Aside0.mk hr0
 have HC0 := Aside0.mk hc0
 clear hr0 hc0
 have HB := Aside0.mk (Below.refl w.heap.size w)
 have H : (spec_l2Words.l0 k l0 (([] : List Int)) 0) = some r := h
 clear h
 obtain ⟨y601, hy601⟩ : ∃ y_ : List Int, y_ = (([] : List Int)) := ⟨_, rfl⟩
 replace H : (spec_l2Words.l0 k l0 y601 0) = some r := by first | (rw [hy601]; with_reducible exact H) | (have H2_ := (Option.bind_some _ _).symm.trans H; rw [hy601]; with_reducible exact H2_) | (have H2_ := (Option.bind_some _ _).symm.trans H; with_reducible exact H2_) | with_reducible exact H | (rw [hy601]; exact H) | exact H
 have Ny601 := Aside0.mk hy601
 clear hy601
 have H' := Aside0.mk H
 clear H
 go_enter Try.func176, Try.ntmps176
 go_wp2_with (first | ((with_reducible refine gate_dst (N := 10) rfl ?_); refine rl_ (Kd.int .i64) 3 10 ([] : List Int) [] ?_; intro v602 w2 ho3 hb hg_ hnew_; clear hg_ hnew_; (first | rw [← Ny601.out] at ho3 | (simp only [Int.reduceToNat] at ho3; rw [← Ny601.out] at ho3)); have HO603 := Aside0.mk (Kd.R_lower ho3 (below_size (bw_ HB))); replace HB := Aside0.mk (below_step (bw_ HB) hb); clear hb ho3))
 go_loopg [3, 4] k (fun kq v3 v4 w' => ∃ (x3_1 : List Int) (x4_1 : Int), v4 = .int .i64 x4_1 ∧ Aside0 (spec_l2Words.l0 kq l0 x3_1 x4_1 = some r) ∧ Aside0 (kq ≤ k) ∧ Aside0 (Kd.R (Kd.int .i64) 3 w' w.heap.size (fun _ => True) v3 x3_1) ∧ Aside0 (Below w.heap.size w w'))
 case atStart => exact ⟨(y601), (0), e1_, H', ⟨Nat.le_refl _⟩, ⟨kr_ HO603.out⟩, ⟨bw_ HB⟩⟩
 case round =>
  clear H'
  try clear c1
  try clear p2
  obtain ⟨x3_1, x4_1, rfl, HA, HK1, HO_3, HB⟩ := hrel
  cases gk with
  | zero => exact absurd HA.out (by simp [spec_l2Words.l0])
  | succ k1 =>
   have H := HA.out
   clear HA
   simp only [spec_l2Words.l0] at H
   by_cases c4 : x4_1 < 16
   ·rw [if_pos c4] at H
    have c4b0 := decide_eq_true c4
    clear c4
    obtain ⟨ji5, hji5⟩ : ∃ j_ : Int, (wrap64 (4 * x4_1)) = j_ := ⟨_, rfl⟩
    replace H : (if 0 ≤ (ji5) then (if (ji5) < (l0.length : Int) then (if 0 ≤ (wrap64 ((ji5) + 1)) then (if (wrap64 ((ji5) + 1)) < (l0.length : Int) then (if 0 ≤ (wrap64 ((ji5) + 2)) then (if (wrap64 ((ji5) + 2)) < (l0.length : Int) then (if 0 ≤ (wrap64 ((ji5) + 3)) then (if (wrap64 ((ji5) + 3)) < (l0.length : Int) then (if x3_1.length < 17592186044416 then (spec_l2Words.l0 k1 l0 (x3_1 ++ [Go.bits .or .i64 (Go.bits .or .i64 (Go.bits .or .i64 (wrap64 ((wrap64 (rd l0 (ji5))) * 16777216)) (wrap64 ((wrap64 (rd l0 (wrap64 ((ji5) + 1)))) * 65536))) (wrap64 ((wrap64 (rd l0 (wrap64 ((ji5) + 2)))) * 256))) (wrap64 (rd l0 (wrap64 ((ji5) + 3))))]) (wrap64 (x4_1 + 1))) else (none)) else (none)) else (none)) else (none)) else (none)) else (none)) else (none)) else (none)) else (none)) = some r := by first | (rw [hji5] at H; exact H) | (simp only [hji5] at H ⊢; exact H)
    have hji5w : (IntKind.i64.wrap (4 * x4_1)) = ji5 := (i64_w _).trans hji5
    by_cases c6 : 0 ≤ (ji5)
    ·rw [if_pos c6] at H
     have c6b0 := decide_eq_true c6
     clear c6
     by_cases c7 : (ji5) < (l0.length : Int)
     ·rw [if_pos c7] at H
      have c7b0 := decide_eq_true c7
      clear c7
      obtain ⟨ji8, hji8⟩ : ∃ j_ : Int, (wrap64 ((ji5) + 1)) = j_ := ⟨_, rfl⟩
      replace H : (if 0 ≤ (ji8) then (if (ji8) < (l0.length : Int) then (if 0 ≤ (wrap64 ((ji5) + 2)) then (if (wrap64 ((ji5) + 2)) < (l0.length : Int) then (if 0 ≤ (wrap64 ((ji5) + 3)) then (if (wrap64 ((ji5) + 3)) < (l0.length : Int) then (if x3_1.length < 17592186044416 then (spec_l2Words.l0 k1 l0 (x3_1 ++ [Go.bits .or .i64 (Go.bits .or .i64 (Go.bits .or .i64 (wrap64 ((wrap64 (rd l0 (ji5))) * 16777216)) (wrap64 ((wrap64 (rd l0 (ji8))) * 65536))) (wrap64 ((wrap64 (rd l0 (wrap64 ((ji5) + 2)))) * 256))) (wrap64 (rd l0 (wrap64 ((ji5) + 3))))]) (wrap64 (x4_1 + 1))) else (none)) else (none)) else (none)) else (none)) else (none)) else (none)) else (none)) = some r := by first | (rw [hji8] at H; exact H) | (simp only [hji8] at H ⊢; exact H)
      have hji8w : (IntKind.i64.wrap ((ji5) + 1)) = ji8 := (i64_w _).trans hji8
      by_cases c9 : 0 ≤ (ji8)
      ·rw [if_pos c9] at H
       have c9b0 := decide_eq_true c9
       clear c9
       by_cases c10 : (ji8) < (l0.length : Int)
       ·rw [if_pos c10] at H
        have c10b0 := decide_eq_true c10
        clear c10
        obtain ⟨ji11, hji11⟩ : ∃ j_ : Int, (wrap64 ((ji5) + 2)) = j_ := ⟨_, rfl⟩
        replace H : (if 0 ≤ (ji11) then (if (ji11) < (l0.length : Int) then (if 0 ≤ (wrap64 ((ji5) + 3)) then (if (wrap64 ((ji5) + 3)) < (l0.length : Int) then (if x3_1.length < 17592186044416 then (spec_l2Words.l0 k1 l0 (x3_1 ++ [Go.bits .or .i64 (Go.bits .or .i64 (Go.bits .or .i64 (wrap64 ((wrap64 (rd l0 (ji5))) * 16777216)) (wrap64 ((wrap64 (rd l0 (ji8))) * 65536))) (wrap64 ((wrap64 (rd l0 (ji11))) * 256))) (wrap64 (rd l0 (wrap64 ((ji5) + 3))))]) (wrap64 (x4_1 + 1))) else (none)) else (none)) else (none)) else (none)) else (none)) = some r := by first | (rw [hji11] at H; exact H) | (simp only [hji11] at H ⊢; exact H)
        have hji11w : (IntKind.i64.wrap ((ji5) + 2)) = ji11 := (i64_w _).trans hji11
        by_cases c12 : 0 ≤ (ji11)
        ·rw [if_pos c12] at H
         have c12b0 := decide_eq_true c12
         clear c12
         by_cases c13 : (ji11) < (l0.length : Int)
         ·rw [if_pos c13] at H
          have c13b0 := decide_eq_true c13
          clear c13
          obtain ⟨ji14, hji14⟩ : ∃ j_ : Int, (wrap64 ((ji5) + 3)) = j_ := ⟨_, rfl⟩
          replace H : (if 0 ≤ (ji14) then (if (ji14) < (l0.length : Int) then (if x3_1.length < 17592186044416 then (spec_l2Words.l0 k1 l0 (x3_1 ++ [Go.bits .or .i64 (Go.bits .or .i64 (Go.bits .or .i64 (wrap64 ((wrap64 (rd l0 (ji5))) * 16777216)) (wrap64 ((wrap64 (rd l0 (ji8))) * 65536))) (wrap64 ((wrap64 (rd l0 (ji11))) * 256))) (wrap64 (rd l0 (ji14)))]) (wrap64 (x4_1 + 1))) else (none)) else (none)) else (none)) = some r := by first | (rw [hji14] at H; exact H) | (simp only [hji14] at H ⊢; exact H)
          have hji14w : (IntKind.i64.wrap ((ji5) + 3)) = ji14 := (i64_w _).trans hji14
          by_cases c15 : 0 ≤ (ji14)
          ·rw [if_pos c15] at H
           have c15b0 := decide_eq_true c15
           clear c15
           by_cases c16 : (ji14) < (l0.length : Int)
           ·rw [if_pos c16] at H
            have c16b0 := decide_eq_true c16
            clear c16
            by_cases c17 : x3_1.length < 17592186044416
            ·rw [if_pos c17] at H
             have LMc17 := Aside0.mk c17
             clear c17
             obtain ⟨y608, hy608⟩ : ∃ y_ : List Int, y_ = (x3_1 ++ [Go.bits .or .i64 (Go.bits .or .i64 (Go.bits .or .i64 (wrap64 ((wrap64 (rd l0 (ji5))) * 16777216)) (wrap64 ((wrap64 (rd l0 (ji8))) * 65536))) (wrap64 ((wrap64 (rd l0 (ji11))) * 256))) (wrap64 (rd l0 (ji14)))]) := ⟨_, rfl⟩
             replace H : (spec_l2Words.l0 k1 l0 y608 (wrap64 (x4_1 + 1))) = some r := by first | (rw [hy608]; with_reducible exact H) | (have H2_ := (Option.bind_some _ _).symm.trans H; rw [hy608]; with_reducible exact H2_) | (have H2_ := (Option.bind_some _ _).symm.trans H; with_reducible exact H2_) | with_reducible exact H | (rw [hy608]; exact H) | exact H
             have Ny608 := Aside0.mk hy608
             clear hy608
             have H' := Aside0.mk H
             clear H
             try go_wp2
             have n0_ := Aside0.mk (Kd.R_drew HO_3.out)
             have n1_ := Aside0.mk (below_drew1 HB.out)
             clear HO_3
             clear HB
             have HO_3 := n0_
             have HB := n1_
             clear n0_ n1_
             have p604 : 0 ≤ ((ji5) : Int) := of_decide_eq_true as_
             have q604 : (ji5) < (l0.length : Int) := of_decide_eq_true as_
             obtain ⟨ad604, e604, hx604_0⟩ := Kd.at_int HR0.out (ji5) p604 q604
             have hw604_0 := hx604_0
             cases e604
             replace hx604_0 := (HB.out.cell (World.block_lt_of_cell? w _ hx604_0)).trans hx604_0
             replace p604 := eq_true p604
             replace q604 := eq_true q604
             have p605 : 0 ≤ ((ji8) : Int) := of_decide_eq_true as_
             have q605 : (ji8) < (l0.length : Int) := of_decide_eq_true as_
             obtain ⟨ad605, e605, hx605_0⟩ := Kd.at_int HR0.out (ji8) p605 q605
             have hw605_0 := hx605_0
             obtain rfl : ad604 = ad605 := (by injection e605)
             replace hx605_0 := (HB.out.cell (World.block_lt_of_cell? w _ hx605_0)).trans hx605_0
             replace p605 := eq_true p605
             replace q605 := eq_true q605
             have p606 : 0 ≤ ((ji11) : Int) := of_decide_eq_true as_
             have q606 : (ji11) < (l0.length : Int) := of_decide_eq_true as_
             obtain ⟨ad606, e606, hx606_0⟩ := Kd.at_int HR0.out (ji11) p606 q606
             have hw606_0 := hx606_0
             obtain rfl : ad604 = ad606 := (by injection e606)
             replace hx606_0 := (HB.out.cell (World.block_lt_of_cell? w _ hx606_0)).trans hx606_0
             replace p606 := eq_true p606
             replace q606 := eq_true q606
             have p607 : 0 ≤ ((ji14) : Int) := of_decide_eq_true as_
             have q607 : (ji14) < (l0.length : Int) := of_decide_eq_true as_
             obtain ⟨ad607, e607, hx607_0⟩ := Kd.at_int HR0.out (ji14) p607 q607
             have hw607_0 := hx607_0
             obtain rfl : ad604 = ad607 := (by injection e607)
             replace hx607_0 := (HB.out.cell (World.block_lt_of_cell? w _ hx607_0)).trans hx607_0
             replace p607 := eq_true p607
             replace q607 := eq_true q607
             refine start_ (n := 37) (S := fun w' => w'.cell? (ad604.add ((ji5)).toNat) = some (.int .u8 (rd l0 (ji5))) ∧ w'.cell? (ad604.add ((ji8)).toNat) = some (.int .u8 (rd l0 (ji8))) ∧ w'.cell? (ad604.add ((ji11)).toNat) = some (.int .u8 (rd l0 (ji11))) ∧ w'.cell? (ad604.add ((ji14)).toNat) = some (.int .u8 (rd l0 (ji14)))) (ds := []) (lz_ 37 0) (by kernel_rfl) rfl rfl ⟨((HB.out.cell (World.block_lt_of_cell? w _ hw604_0)).trans hw604_0), ((HB.out.cell (World.block_lt_of_cell? w _ hw605_0)).trans hw605_0), ((HB.out.cell (World.block_lt_of_cell? w _ hw606_0)).trans hw606_0), ((HB.out.cell (World.block_lt_of_cell? w _ hw607_0)).trans hw607_0)⟩ (fun hHeld => ?_); refine with_tabW spec_l2Words.tab5 spec_l2Words.bits5 (fun HT_ HW_ => ?_)
             generalize wr.drew = w18 at HO_3 HB hx604_0 hx605_0 hx606_0 hx607_0 hHeld ⊢
             refine pt_ 0 15 1 ?_
             refine pt_ 1 16 3 ?_
             refine pt_ 2 17 7 ?_
             refine pt_ 3 18 15 ?_
             refine pt_ 4 19 31 ?_
             refine pt_ 8 23 287 ?_
             refine pt_ 9 24 799 ?_
             refine pt_ 10 25 1823 ?_
             refine pt_ 11 26 3871 ?_
             refine pt_ 12 27 7967 ?_
             refine pt_ 17 32 139039 ?_
             refine pt_ 18 33 401183 ?_
             refine pt_ 19 34 925471 ?_
             refine pt_ 20 35 1974047 ?_
             refine pt_ 21 36 4071199 ?_
             refine pt_ 26 41 71180063 ?_
             refine pt_ 27 42 205397791 ?_
             refine pt_ 28 43 473833247 ?_
             refine pt_ 29 44 1010704159 ?_
             refine pt_ 30 45 2084445983 ?_
             refine tt_ 5 20 2084446015 ?_
             refine pt_ 6 21 2084446079 ?_
             refine pt_ 7 22 2084446207 ?_
             refine tt_ 13 28 2084454399 ?_
             refine pt_ 14 29 2084470783 ?_
             refine pt_ 15 30 2084503551 ?_
             refine pt_ 16 31 2084569087 ?_
             refine tt_ 22 37 2088763391 ?_
             refine pt_ 23 38 2097151999 ?_
             refine pt_ 24 39 2113929215 ?_
             refine pt_ 25 40 2147483647 ?_
             refine tt_ 31 46 4294967295 ?_
             refine pt_ 32 47 8589934591 ?_
             refine pt_ 33 48 17179869183 ?_
             refine one_ (i := 34) (N := some 49) (lz_ 37 34359738367) rfl rfl (one_of HT_.out (by kernel_rfl)) (by decide) (fun K hK => ?_)
             refine value_ (w1 := ?_) (v := ?_) (by rfl) rfl ?_ ?_
             rotate_left 2
             ·go_simp
              constructor
              ·rfl
              ·rfl
             refine hK.out _ _ ⟨(World.cell?_alloc_lt _ _ _ (World.block_lt_of_cell? _ _ (((HB.out.cell (World.block_lt_of_cell? w _ hw604_0)).trans hw604_0)))).trans (((HB.out.cell (World.block_lt_of_cell? w _ hw604_0)).trans hw604_0)), (World.cell?_alloc_lt _ _ _ (World.block_lt_of_cell? _ _ (((HB.out.cell (World.block_lt_of_cell? w _ hw605_0)).trans hw605_0)))).trans (((HB.out.cell (World.block_lt_of_cell? w _ hw605_0)).trans hw605_0)), (World.cell?_alloc_lt _ _ _ (World.block_lt_of_cell? _ _ (((HB.out.cell (World.block_lt_of_cell? w _ hw606_0)).trans hw606_0)))).trans (((HB.out.cell (World.block_lt_of_cell? w _ hw606_0)).trans hw606_0)), (World.cell?_alloc_lt _ _ _ (World.block_lt_of_cell? _ _ (((HB.out.cell (World.block_lt_of_cell? w _ hw607_0)).trans hw607_0)))).trans (((HB.out.cell (World.block_lt_of_cell? w _ hw607_0)).trans hw607_0))⟩ (fun hHeld => ?_)
             clear hK K
             refine norm_ (a' := ?_) ?_ ?_
             rotate_left
             ·show Act.put _ (some 49) _ = _
              simp only [Act.put, List.setIfInBounds_toArray, List.set_cons_zero, List.set_cons_succ, i64_w, i32_w]
              rfl
             refine one_ (i := 35) (N := some 50) (lz_ 37 68719476735) rfl rfl (one_of HT_.out (by kernel_rfl)) (by decide) (fun K hK => ?_)
             refine Kd.R_append_step (Kd.int .i64) (w0 := w) w.heap.size (by rfl) (.tmp 15) (.tmp 49) 142 3 (.int .i64 0) 8 rfl Try.underlying142 info3 rfl (by decide) (by omega) u3 x3_1 (Go.bits .or .i64 (Go.bits .or .i64 (Go.bits .or .i64 (wrap64 ((wrap64 (rd l0 (ji5))) * 16777216)) (wrap64 ((wrap64 (rd l0 (ji8))) * 65536))) (wrap64 ((wrap64 (rd l0 (ji11))) * 256))) (wrap64 (rd l0 (ji14)))) [.int .i64 (Go.bits .or .i64 (Go.bits .or .i64 (Go.bits .or .i64 (wrap64 ((wrap64 (rd l0 (ji5))) * 16777216)) (wrap64 ((wrap64 (rd l0 (ji8))) * 65536))) (wrap64 ((wrap64 (rd l0 (ji11))) * 256))) (wrap64 (rd l0 (ji14))))] (fun _ => True) (fun _ => False) rfl rfl ?aP (fun _ hk => hk.elim) ?aF ?aO ?aB ?aS ?aL ?_
             (case aP => exact rfl)
             (case aB => exact (bw_ HB))
             (case aF => exact (fun _ _ => trivial))
             (case aO => exact (kr_ HO_3.out))
             (case aS => exact (below_size (bw_ HB)))
             (case aL => have := LMc17.out; omega)
             intro v609 w19 ho hb hg hat
             rw [← Ny608.out] at ho
             have n0_ := Aside0.mk (hb)
             have n1_ := Aside0.mk (ho)
             clear HB
             clear HO_3
             have HB := n0_
             have HO610 := n1_
             clear n0_ n1_
             clear ho hb hg hat
             refine hK.out _ _ ⟨((HB.out.cell (World.block_lt_of_cell? w _ hw604_0)).trans hw604_0), ((HB.out.cell (World.block_lt_of_cell? w _ hw605_0)).trans hw605_0), ((HB.out.cell (World.block_lt_of_cell? w _ hw606_0)).trans hw606_0), ((HB.out.cell (World.block_lt_of_cell? w _ hw607_0)).trans hw607_0)⟩ (fun hHeld => ?_)
             clear hK K
             refine norm_ (a' := ?_) ?_ ?_
             rotate_left
             ·show Act.put _ (some 50) _ = _
              simp only [Act.put, List.setIfInBounds_toArray, List.set_cons_zero, List.set_cons_succ, i64_w, i32_w]
              rfl
             refine pt_ 36 3 137438953471 ?_
             refine done_ (done_of HT_.out (by kernel_rfl)) ?_
             try go_wp2
             go_roundg k1
             case measure => have := HK1.out; omega
             case rel => exact ⟨(y608), (wrap64 (x4_1 + 1)), e1_, H', ⟨by have := HK1.out; omega⟩, ⟨kr_ HO610.out⟩, ⟨bw_ HB⟩⟩
            ·rw [if_neg c17] at H
             exact absurd H (by simp)
           ·rw [if_neg c16] at H
            exact absurd H (by simp)
          ·rw [if_neg c15] at H
           exact absurd H (by simp)
         ·rw [if_neg c13] at H
          exact absurd H (by simp)
        ·rw [if_neg c12] at H
         exact absurd H (by simp)
       ·rw [if_neg c10] at H
        exact absurd H (by simp)
      ·rw [if_neg c9] at H
       exact absurd H (by simp)
     ·rw [if_neg c7] at H
      exact absurd H (by simp)
    ·rw [if_neg c6] at H
     exact absurd H (by simp)
   ·rw [if_neg c4] at H
    have c4b0 := decide_eq_false c4
    clear c4
    have H' := Aside0.mk H
    clear H
    go_wp2
    go_loopg [3, 5] k1 (fun kq v3 v5 w' => ∃ (x3_2 : List Int) (x5_2 : Int), v5 = .int .i64 x5_2 ∧ Aside0 (spec_l2Words.l1 kq x3_2 x5_2 = some r) ∧ Aside0 (kq ≤ k1) ∧ Aside0 (Kd.R (Kd.int .i64) 3 w' w.heap.size (fun _ => True) v3 x3_2) ∧ Aside0 (Below w.heap.size w w'))
    case atStart => exact ⟨(x3_1), (16), e1_, H', ⟨Nat.le_refl _⟩, ⟨kr_ HO_3.out⟩, ⟨bw_ HB⟩⟩
    case round =>
     clear H'
     try clear c1
     try clear p2
     try clear c4
     try clear c4b0
     try clear c6
     try clear c6b0
     try clear p6
     try clear q6
     try clear hx6
     try clear c7
     try clear c7b0
     try clear c9
     try clear c9b0
     try clear c10
     try clear c10b0
     try clear c12
     try clear c12b0
     try clear c13
     try clear c13b0
     try clear c15
     try clear c15b0
     try clear c16
     try clear c16b0
     try clear c17
     try clear hx604_0
     try clear hx605_0
     try clear hx606_0
     try clear hx607_0
     try clear p2
     try clear p604
     try clear p605
     try clear p606
     try clear p607
     try clear q604
     try clear q605
     try clear q606
     try clear q607
     obtain ⟨x3_2, x5_2, rfl, HA, HK2, HO_3, HB⟩ := hrel
     cases gk with
     | zero => exact absurd HA.out (by simp [spec_l2Words.l1])
     | succ k2 =>
      have H := HA.out
      clear HA
      simp only [spec_l2Words.l1] at H
      by_cases c20 : x5_2 < 64
      ·rw [if_pos c20] at H
       have c20b0 := decide_eq_true c20
       clear c20
       obtain ⟨ji21, hji21⟩ : ∃ j_ : Int, (wrap64 (x5_2 - 15)) = j_ := ⟨_, rfl⟩
       replace H : (if 0 ≤ (ji21) then (if (ji21) < (x3_2.length : Int) then (if 0 ≤ (wrap64 (x5_2 - 2)) then (if (wrap64 (x5_2 - 2)) < (x3_2.length : Int) then ((spec_l2Turn.f (rd x3_2 (ji21)) 7).bind fun t613 => ((spec_l2Turn.f (rd x3_2 (ji21)) 18).bind fun t614 => ((spec_l2Turn.f (rd x3_2 (wrap64 (x5_2 - 2))) 17).bind fun t615 => ((spec_l2Turn.f (rd x3_2 (wrap64 (x5_2 - 2))) 19).bind fun t616 => (if 0 ≤ (wrap64 (x5_2 - 16)) then (if (wrap64 (x5_2 - 16)) < (x3_2.length : Int) then (if 0 ≤ (wrap64 (x5_2 - 7)) then (if (wrap64 (x5_2 - 7)) < (x3_2.length : Int) then (if x3_2.length < 17592186044416 then (spec_l2Words.l1 k2 (x3_2 ++ [Go.bits .and .i64 (wrap64 ((wrap64 ((wrap64 ((rd x3_2 (wrap64 (x5_2 - 16))) + (Go.bits .xor .i64 (Go.bits .xor .i64 t613 t614) ((rd x3_2 (ji21)) / 8)))) + (rd x3_2 (wrap64 (x5_2 - 7))))) + (Go.bits .xor .i64 (Go.bits .xor .i64 t615 t616) ((rd x3_2 (wrap64 (x5_2 - 2))) / 1024)))) 4294967295]) (wrap64 (x5_2 + 1))) else (none)) else (none)) else (none)) else (none)) else (none)))))) else (none)) else (none)) else (none)) else (none)) = some r := by first | (rw [hji21] at H; exact H) | (simp only [hji21] at H ⊢; exact H)
       have hji21w : (IntKind.i64.wrap (x5_2 - 15)) = ji21 := (i64_w _).trans hji21
       by_cases c22 : 0 ≤ (ji21)
       ·rw [if_pos c22] at H
        have c22b0 := decide_eq_true c22
        clear c22
        by_cases c23 : (ji21) < (x3_2.length : Int)
        ·rw [if_pos c23] at H
         have c23b0 := decide_eq_true c23
         clear c23
         obtain ⟨ji24, hji24⟩ : ∃ j_ : Int, (wrap64 (x5_2 - 2)) = j_ := ⟨_, rfl⟩
         replace H : (if 0 ≤ (ji24) then (if (ji24) < (x3_2.length : Int) then ((spec_l2Turn.f (rd x3_2 (ji21)) 7).bind fun t613 => ((spec_l2Turn.f (rd x3_2 (ji21)) 18).bind fun t614 => ((spec_l2Turn.f (rd x3_2 (ji24)) 17).bind fun t615 => ((spec_l2Turn.f (rd x3_2 (ji24)) 19).bind fun t616 => (if 0 ≤ (wrap64 (x5_2 - 16)) then (if (wrap64 (x5_2 - 16)) < (x3_2.length : Int) then (if 0 ≤ (wrap64 (x5_2 - 7)) then (if (wrap64 (x5_2 - 7)) < (x3_2.length : Int) then (if x3_2.length < 17592186044416 then (spec_l2Words.l1 k2 (x3_2 ++ [Go.bits .and .i64 (wrap64 ((wrap64 ((wrap64 ((rd x3_2 (wrap64 (x5_2 - 16))) + (Go.bits .xor .i64 (Go.bits .xor .i64 t613 t614) ((rd x3_2 (ji21)) / 8)))) + (rd x3_2 (wrap64 (x5_2 - 7))))) + (Go.bits .xor .i64 (Go.bits .xor .i64 t615 t616) ((rd x3_2 (ji24)) / 1024)))) 4294967295]) (wrap64 (x5_2 + 1))) else (none)) else (none)) else (none)) else (none)) else (none)))))) else (none)) else (none)) = some r := by first | (rw [hji24] at H; exact H) | (simp only [hji24] at H ⊢; exact H)
         have hji24w : (IntKind.i64.wrap (x5_2 - 2)) = ji24 := (i64_w _).trans hji24
         by_cases c25 : 0 ≤ (ji24)
         ·rw [if_pos c25] at H
          have c25b0 := decide_eq_true c25
          clear c25
          by_cases c26 : (ji24) < (x3_2.length : Int)
          ·rw [if_pos c26] at H
           have c26b0 := decide_eq_true c26
           clear c26
           replace H := Option.bind_eq_some_iff.mp H
           obtain ⟨t613, A270, H⟩ := H
           have A27 := Aside0.mk A270
           clear A270
           replace H := Option.bind_eq_some_iff.mp H
           obtain ⟨t614, A280, H⟩ := H
           have A28 := Aside0.mk A280
           clear A280
           replace H := Option.bind_eq_some_iff.mp H
           obtain ⟨t615, A290, H⟩ := H
           have A29 := Aside0.mk A290
           clear A290
           replace H := Option.bind_eq_some_iff.mp H
           obtain ⟨t616, A300, H⟩ := H
           have A30 := Aside0.mk A300
           clear A300
           obtain ⟨ji31, hji31⟩ : ∃ j_ : Int, (wrap64 (x5_2 - 16)) = j_ := ⟨_, rfl⟩
           replace H : (if 0 ≤ (ji31) then (if (ji31) < (x3_2.length : Int) then (if 0 ≤ (wrap64 (x5_2 - 7)) then (if (wrap64 (x5_2 - 7)) < (x3_2.length : Int) then (if x3_2.length < 17592186044416 then (spec_l2Words.l1 k2 (x3_2 ++ [Go.bits .and .i64 (wrap64 ((wrap64 ((wrap64 ((rd x3_2 (ji31)) + (Go.bits .xor .i64 (Go.bits .xor .i64 t613 t614) ((rd x3_2 (ji21)) / 8)))) + (rd x3_2 (wrap64 (x5_2 - 7))))) + (Go.bits .xor .i64 (Go.bits .xor .i64 t615 t616) ((rd x3_2 (ji24)) / 1024)))) 4294967295]) (wrap64 (x5_2 + 1))) else (none)) else (none)) else (none)) else (none)) else (none)) = some r := by first | (rw [hji31] at H; exact H) | (simp only [hji31] at H ⊢; exact H)
           (try rw [hji31] at A27)
           (try rw [hji31] at A28)
           (try rw [hji31] at A29)
           (try rw [hji31] at A30)
           have hji31w : (IntKind.i64.wrap (x5_2 - 16)) = ji31 := (i64_w _).trans hji31
           by_cases c32 : 0 ≤ (ji31)
           ·rw [if_pos c32] at H
            have c32b0 := decide_eq_true c32
            clear c32
            by_cases c33 : (ji31) < (x3_2.length : Int)
            ·rw [if_pos c33] at H
             have c33b0 := decide_eq_true c33
             clear c33
             obtain ⟨ji34, hji34⟩ : ∃ j_ : Int, (wrap64 (x5_2 - 7)) = j_ := ⟨_, rfl⟩
             replace H : (if 0 ≤ (ji34) then (if (ji34) < (x3_2.length : Int) then (if x3_2.length < 17592186044416 then (spec_l2Words.l1 k2 (x3_2 ++ [Go.bits .and .i64 (wrap64 ((wrap64 ((wrap64 ((rd x3_2 (ji31)) + (Go.bits .xor .i64 (Go.bits .xor .i64 t613 t614) ((rd x3_2 (ji21)) / 8)))) + (rd x3_2 (ji34)))) + (Go.bits .xor .i64 (Go.bits .xor .i64 t615 t616) ((rd x3_2 (ji24)) / 1024)))) 4294967295]) (wrap64 (x5_2 + 1))) else (none)) else (none)) else (none)) = some r := by first | (rw [hji34] at H; exact H) | (simp only [hji34] at H ⊢; exact H)
             (try rw [hji34] at A27)
             (try rw [hji34] at A28)
             (try rw [hji34] at A29)
             (try rw [hji34] at A30)
             have hji34w : (IntKind.i64.wrap (x5_2 - 7)) = ji34 := (i64_w _).trans hji34
             by_cases c35 : 0 ≤ (ji34)
             ·rw [if_pos c35] at H
              have c35b0 := decide_eq_true c35
              clear c35
              by_cases c36 : (ji34) < (x3_2.length : Int)
              ·rw [if_pos c36] at H
               have c36b0 := decide_eq_true c36
               clear c36
               by_cases c37 : x3_2.length < 17592186044416
               ·rw [if_pos c37] at H
                have LMc37 := Aside0.mk c37
                clear c37
                obtain ⟨y619, hy619⟩ : ∃ y_ : List Int, y_ = (x3_2 ++ [Go.bits .and .i64 (wrap64 ((wrap64 ((wrap64 ((rd x3_2 (ji31)) + (Go.bits .xor .i64 (Go.bits .xor .i64 t613 t614) ((rd x3_2 (ji21)) / 8)))) + (rd x3_2 (ji34)))) + (Go.bits .xor .i64 (Go.bits .xor .i64 t615 t616) ((rd x3_2 (ji24)) / 1024)))) 4294967295]) := ⟨_, rfl⟩
                replace H : (spec_l2Words.l1 k2 y619 (wrap64 (x5_2 + 1))) = some r := by first | (rw [hy619]; with_reducible exact H) | (have H2_ := (Option.bind_some _ _).symm.trans H; rw [hy619]; with_reducible exact H2_) | (have H2_ := (Option.bind_some _ _).symm.trans H; with_reducible exact H2_) | with_reducible exact H | (rw [hy619]; exact H) | exact H
                have Ny619 := Aside0.mk hy619
                clear hy619
                have H' := Aside0.mk H
                clear H
                obtain ⟨Ao38, co38, eo38⟩ := Kd.R_slice HO_3.out
                subst eo38
                have p611 : 0 ≤ ((ji21) : Int) := of_decide_eq_true as_
                have q611 : (ji21) < (x3_2.length : Int) := of_decide_eq_true as_
                obtain ⟨ad611, e611, hx611_0⟩ := Kd.at_int (Kd.R_reads' HO_3.out).2.2 (ji21) p611 q611
                cases e611
                replace p611 := eq_true p611
                replace q611 := eq_true q611
                have p612 : 0 ≤ ((ji24) : Int) := of_decide_eq_true as_
                have q612 : (ji24) < (x3_2.length : Int) := of_decide_eq_true as_
                obtain ⟨ad612, e612, hx612_0⟩ := Kd.at_int (Kd.R_reads' HO_3.out).2.2 (ji24) p612 q612
                obtain rfl : ad611 = ad612 := (by injection e612)
                replace p612 := eq_true p612
                replace q612 := eq_true q612
                try go_wp2_with (first | ((with_reducible refine gk_ 177 ?_); refine gm_ hji21 66 Try.func177 #[.int .i64 (rd x3_2 (ji21)), .int .i64 7] ?_; (with_reducible refine (spec_l2Turn.calls (rd x3_2 (ji21)) 7 t613 _ A27.out).mono ?_); rintro e w' ⟨rfl, ⟨nd, rfl⟩⟩; refine ⟨_, rfl, ?_⟩) | ((with_reducible refine gk_ 177 ?_); refine gm_ hji21 68 Try.func177 #[.int .i64 (rd x3_2 (ji21)), .int .i64 18] ?_; (with_reducible refine (spec_l2Turn.calls (rd x3_2 (ji21)) 18 t614 _ A28.out).mono ?_); rintro e w' ⟨rfl, ⟨nd, rfl⟩⟩; refine ⟨_, rfl, ?_⟩) | ((with_reducible refine gk_ 177 ?_); refine gm_ hji24 74 Try.func177 #[.int .i64 (rd x3_2 (ji24)), .int .i64 17] ?_; (with_reducible refine (spec_l2Turn.calls (rd x3_2 (ji24)) 17 t615 _ A29.out).mono ?_); rintro e w' ⟨rfl, ⟨nd, rfl⟩⟩; refine ⟨_, rfl, ?_⟩) | ((with_reducible refine gk_ 177 ?_); refine gm_ hji24 76 Try.func177 #[.int .i64 (rd x3_2 (ji24)), .int .i64 19] ?_; (with_reducible refine (spec_l2Turn.calls (rd x3_2 (ji24)) 19 t616 _ A30.out).mono ?_); rintro e w' ⟨rfl, ⟨nd, rfl⟩⟩; refine ⟨_, rfl, ?_⟩))
                (try (rw [drewN_self wr]; generalize hq_ : World.drewN wr _ = wr; have n0_ : Aside0 (Kd.R (Kd.int .i64) 3 wr w.heap.size (fun _ => True) (.slice (some ad611) x3_2.length co38) x3_2) := ⟨by rw [← hq_]; exact (kr_ HO_3.out)⟩; have n1_ : Aside0 (Below w.heap.size w wr) := ⟨by rw [← hq_]; exact (bw_ HB)⟩; clear HO_3 HB hq_; have HO_3 := n0_; have HB := n1_; clear n0_ n1_))
                have n0_ := Aside0.mk (Kd.R_drew HO_3.out)
                have n1_ := Aside0.mk (below_drew1 HB.out)
                clear HO_3
                clear HB
                have HO_3 := n0_
                have HB := n1_
                clear n0_ n1_
                have p617 : 0 ≤ ((ji31) : Int) := of_decide_eq_true as_
                have q617 : (ji31) < (x3_2.length : Int) := of_decide_eq_true as_
                obtain ⟨ad617, e617, hx617_0⟩ := Kd.at_int (Kd.R_reads' HO_3.out).2.2 (ji31) p617 q617
                obtain rfl : ad611 = ad617 := (by injection e617)
                replace p617 := eq_true p617
                replace q617 := eq_true q617
                have p618 : 0 ≤ ((ji34) : Int) := of_decide_eq_true as_
                have q618 : (ji34) < (x3_2.length : Int) := of_decide_eq_true as_
                obtain ⟨ad618, e618, hx618_0⟩ := Kd.at_int (Kd.R_reads' HO_3.out).2.2 (ji34) p618 q618
                obtain rfl : ad611 = ad618 := (by injection e618)
                replace p618 := eq_true p618
                replace q618 := eq_true q618
                refine start_ (n := 20) (S := fun w' => w'.cell? (ad611.add ((ji31)).toNat) = some (.int .i64 (rd x3_2 (ji31))) ∧ w'.cell? (ad611.add ((ji34)).toNat) = some (.int .i64 (rd x3_2 (ji34)))) (ds := [17, 18]) (lz_ 20 0) (by kernel_rfl) rfl rfl ⟨hx617_0, hx618_0⟩ (fun hHeld => ?_); refine with_tabW spec_l2Words.tab13 spec_l2Words.bits13 (fun HT_ HW_ => ?_)
                generalize wr.drew = w39 at HO_3 HB hx617_0 hx618_0 hHeld ⊢
                refine pt_ 0 81 1 ?_
                refine pt_ 1 82 3 ?_
                refine pt_ 2 83 7 ?_
                refine pt_ 3 84 15 ?_
                refine pt_ 4 85 31 ?_
                refine pt_ 6 87 95 ?_
                refine pt_ 8 89 351 ?_
                refine pt_ 9 90 863 ?_
                refine pt_ 10 91 1887 ?_
                refine pt_ 11 92 3935 ?_
                refine pt_ 14 95 20319 ?_
                refine tt_ 5 86 20351 ?_
                refine pt_ 7 88 20479 ?_
                refine tt_ 12 93 24575 ?_
                refine pt_ 13 94 32767 ?_
                refine pt_ 15 96 65535 ?_
                refine pt_ 16 97 131071 ?_
                refine last_ (i := 17) (N := some 98) (lz_ 20 262143) rfl rfl (one_of HT_.out (by kernel_rfl)) (by decide) (fun K hK => ?_)
                refine value_ (w1 := ?_) (v := ?_) (by rfl) rfl ?_ ?_
                rotate_left 2
                ·go_simp
                 constructor
                 ·rfl
                 ·rfl
                refine hK.out _ _ ?_
                clear hK K
                refine norm_ (a' := ?_) ?_ ?_
                rotate_left
                ·show Act.put _ (some 98) _ = _
                 simp only [Act.put, List.setIfInBounds_toArray, List.set_cons_zero, List.set_cons_succ, i64_w, i32_w]
                 rfl
                refine last_ (i := 18) (N := some 99) (lz_ 20 524287) rfl rfl (one_of HT_.out (by kernel_rfl)) (by decide) (fun K hK => ?_)
                refine Kd.R_append_step (Kd.int .i64) (w0 := w) w.heap.size (by rfl) (.tmp 81) (.tmp 98) 142 3 (.int .i64 0) 8 rfl Try.underlying142 info3 rfl (by decide) (by omega) (.slice (some ad611) x3_2.length co38) x3_2 (Go.bits .and .i64 (wrap64 ((wrap64 ((wrap64 ((rd x3_2 (ji31)) + (Go.bits .xor .i64 (Go.bits .xor .i64 t613 t614) ((rd x3_2 (ji21)) / 8)))) + (rd x3_2 (ji34)))) + (Go.bits .xor .i64 (Go.bits .xor .i64 t615 t616) ((rd x3_2 (ji24)) / 1024)))) 4294967295) [.int .i64 (Go.bits .and .i64 (wrap64 ((wrap64 ((wrap64 ((rd x3_2 (ji31)) + (Go.bits .xor .i64 (Go.bits .xor .i64 t613 t614) ((rd x3_2 (ji21)) / 8)))) + (rd x3_2 (ji34)))) + (Go.bits .xor .i64 (Go.bits .xor .i64 t615 t616) ((rd x3_2 (ji24)) / 1024)))) 4294967295)] (fun _ => True) (fun _ => False) rfl rfl ?aP (fun _ hk => hk.elim) ?aF ?aO ?aB ?aS ?aL ?_
                (case aP => exact rfl)
                (case aB => exact (bw_ HB))
                (case aF => exact (fun _ _ => trivial))
                (case aO => exact (kr_ HO_3.out))
                (case aS => exact (below_size (bw_ HB)))
                (case aL => have := LMc37.out; omega)
                intro v620 w40 ho hb hg hat
                rw [← Ny619.out] at ho
                have n0_ := Aside0.mk (hb)
                have n1_ := Aside0.mk (ho)
                clear HB
                clear HO_3
                have HB := n0_
                have HO621 := n1_
                clear n0_ n1_
                clear ho hb hg hat
                refine hK.out _ _ ?_
                clear hK K
                refine norm_ (a' := ?_) ?_ ?_
                rotate_left
                ·show Act.put _ (some 99) _ = _
                 simp only [Act.put, List.setIfInBounds_toArray, List.set_cons_zero, List.set_cons_succ, i64_w, i32_w]
                 rfl
                refine pt_ 19 3 1048575 ?_
                refine done_ (done_of HT_.out (by kernel_rfl)) ?_
                try go_wp2
                go_roundg k2
                case measure => have := HK1.out; have := HK2.out; omega
                case rel => exact ⟨(y619), (wrap64 (x5_2 + 1)), e1_, H', ⟨by have := HK1.out; have := HK2.out; omega⟩, ⟨kr_ HO621.out⟩, ⟨bw_ HB⟩⟩
               ·rw [if_neg c37] at H
                exact absurd H (by simp)
              ·rw [if_neg c36] at H
               exact absurd H (by simp)
             ·rw [if_neg c35] at H
              exact absurd H (by simp)
            ·rw [if_neg c33] at H
             exact absurd H (by simp)
           ·rw [if_neg c32] at H
            exact absurd H (by simp)
          ·rw [if_neg c26] at H
           exact absurd H (by simp)
         ·rw [if_neg c25] at H
          exact absurd H (by simp)
        ·rw [if_neg c23] at H
         exact absurd H (by simp)
       ·rw [if_neg c22] at H
        exact absurd H (by simp)
      ·rw [if_neg c20] at H
       have c20b0 := decide_eq_false c20
       clear c20
       obtain rfl := Option.some.inj H
       go_wp2
       go_ret
       exact ⟨_, e2_, kr_ HO_3.out, bw_ HB⟩
end Go.Proofs.Ytcogimnpffnanaa.Q
end
section
namespace Go.Proofs.Ytcogimnpffnanaa.Q
open Go.RowKit Go.Proofs.YtcogimnpffnanaaW.PrintWords Go.Proofs.YtcogimnpffnanaaW.PrintLast Go.Proofs.YtcogimnpffnanaaW.PrintMore
attribute [local go_sem] max2_int min2_int max_two min_two max_three min_three max_four min_four   -- for this text's walks alone
set_option linter.unusedVariables false
set_option linter.unusedSimpArgs false
mutual
def spec_l2Block.l0 : Nat → List Int → List Int → List Int → List Int → Int → Option (List Int)
 | 0, _, _, _, _, _ => none
 | k + 1, x0, x2, x7, x8, x9 => if x9 < 64 then (if 4 < (x8.length : Int) then ((spec_l2Turn.f (rd x8 4) 6).bind fun t611 => ((spec_l2Turn.f (rd x8 4) 11).bind fun t612 => ((spec_l2Turn.f (rd x8 4) 25).bind fun t613 => (if 5 < (x8.length : Int) then (if 6 < (x8.length : Int) then (if 7 < (x8.length : Int) then (if 0 ≤ x9 then (if x9 < (x2.length : Int) then (if x9 < (x7.length : Int) then (if 0 < (x8.length : Int) then ((spec_l2Turn.f (rd x8 0) 2).bind fun t620 => ((spec_l2Turn.f (rd x8 0) 13).bind fun t621 => ((spec_l2Turn.f (rd x8 0) 22).bind fun t622 => (if 1 < (x8.length : Int) then (if 2 < (x8.length : Int) then (if 3 < (x8.length : Int) then (spec_l2Block.l0 k x0 x2 x7 (([Go.bits .and .i64 (wrap64 ((wrap64 ((wrap64 ((wrap64 ((wrap64 ((rd x8 7) + (Go.bits .xor .i64 (Go.bits .xor .i64 t611 t612) t613))) + (Go.bits .xor .i64 (Go.bits .and .i64 (rd x8 4) (rd x8 5)) (Go.bits .and .i64 (Go.bits .xor .i64 4294967295 (rd x8 4)) (rd x8 6))))) + (rd x2 x9))) + (rd x7 x9))) + (wrap64 ((Go.bits .xor .i64 (Go.bits .xor .i64 t620 t621) t622) + (Go.bits .xor .i64 (Go.bits .xor .i64 (Go.bits .and .i64 (rd x8 0) (rd x8 1)) (Go.bits .and .i64 (rd x8 0) (rd x8 2))) (Go.bits .and .i64 (rd x8 1) (rd x8 2))))))) 4294967295, rd x8 0, rd x8 1, rd x8 2, Go.bits .and .i64 (wrap64 ((rd x8 3) + (wrap64 ((wrap64 ((wrap64 ((wrap64 ((rd x8 7) + (Go.bits .xor .i64 (Go.bits .xor .i64 t611 t612) t613))) + (Go.bits .xor .i64 (Go.bits .and .i64 (rd x8 4) (rd x8 5)) (Go.bits .and .i64 (Go.bits .xor .i64 4294967295 (rd x8 4)) (rd x8 6))))) + (rd x2 x9))) + (rd x7 x9))))) 4294967295, rd x8 4, rd x8 5, rd x8 6] : List Int)) (wrap64 (x9 + 1))) else (none)) else (none)) else (none))))) else (none)) else (none)) else (none)) else (none)) else (none)) else (none)) else (none))))) else (none)) else (spec_l2Block.l1 k x0 x8 0)
def spec_l2Block.l1 : Nat → List Int → List Int → Int → Option (List Int)
 | 0, _, _, _ => none
 | k + 1, x0, x8, x18 => if x18 < 8 then (if 0 ≤ x18 then (if x18 < (x8.length : Int) then (if x18 < (x0.length : Int) then (spec_l2Block.l1 k x0 (x8.set (x18 : Int).toNat (Go.bits .and .i64 (wrap64 ((rd x8 x18) + (rd x0 x18))) 4294967295)) (wrap64 (x18 + 1))) else (none)) else (none)) else (none)) else (some x8)
end
def spec_l2Block.f (k : Nat) (l0 : List Int) (l1 : List Int) (l2 : List Int) : Option (List Int) := (spec_l2Words.f k l1).bind fun t601 => ((some (([] : List Int) : List Int)).bind fun y604 => (if y604.length + l0.length < 17592186044416 then (spec_l2Block.l0 k l0 l2 t601 (y604 ++ l0) 0) else (none)))
theorem spec_l2Block.mono_l : ∀ k, (∀ y0 y1 y2 y3 y4, LeO (spec_l2Block.l0 k y0 y1 y2 y3 y4) (spec_l2Block.l0 (k + 1) y0 y1 y2 y3 y4)) ∧ (∀ y0 y1 y2, LeO (spec_l2Block.l1 k y0 y1 y2) (spec_l2Block.l1 (k + 1) y0 y1 y2))
 | 0 => ⟨fun _ _ _ _ _ r h => by simp [spec_l2Block.l0] at h, fun _ _ _ r h => by simp [spec_l2Block.l1] at h⟩
 | k + 1 => by
  obtain ⟨ih0, ih1⟩ := spec_l2Block.mono_l k
  refine ⟨?_, ?_⟩
  ·intro y0 y1 y2 y3 y4
   unfold spec_l2Block.l0
   repeat' (with_reducible first | exact LeO.refl _ | exact LeO.none _ | apply ih0 | apply ih1 | apply spec_l2Words.mono | apply LeO.ite | refine LeO.bind ?_ fun _ => ?_)
  ·intro y0 y1 y2
   unfold spec_l2Block.l1
   repeat' (with_reducible first | exact LeO.refl _ | exact LeO.none _ | apply ih0 | apply ih1 | apply spec_l2Words.mono | apply LeO.ite | refine LeO.bind ?_ fun _ => ?_)
theorem spec_l2Block.mono : ∀ a0 a1 a2 k, LeO (spec_l2Block.f k a0 a1 a2) (spec_l2Block.f (k + 1) a0 a1 a2) := by
 intro a0 a1 a2 k
 obtain ⟨ih0, ih1⟩ := spec_l2Block.mono_l k
 unfold spec_l2Block.f
 repeat' (with_reducible first | exact LeO.refl _ | exact LeO.none _ | apply ih0 | apply ih1 | apply spec_l2Words.mono | apply LeO.ite | refine LeO.bind ?_ fun _ => ?_)
def spec_l2Block.T8 : Bool × List (List Nat × List Nat) := (true, [([], []), ([], []), ([1], [1]), ([2], [2]), ([0, 3], [0, 3]), ([], []), ([5], [5]), ([], []), ([7], [7]), ([8], [8]), ([6, 9], [6, 9]), ([4, 10], [4, 10]), ([11, 0, 1, 2, 3, 4, 5, 6, 7, 8, 9, 10, 11], [11])])
def spec_l2Block.B8 : List Nat := [0, 0, 2, 6, 15, 0, 32, 0, 128, 384, 992, 2047, 4095]
theorem spec_l2Block.tab8 : rtab .any (opsOf Try.f149 8) = spec_l2Block.T8 := by kernel_rfl
theorem spec_l2Block.bits8 : waitsOk spec_l2Block.T8.2 spec_l2Block.B8 = true := by kernel_rfl
def spec_l2Block.T9 : Bool × List (List Nat × List Nat) := (true, [([], []), ([0], [0]), ([1], [1]), ([], []), ([2, 3], [2, 3]), ([], []), ([4, 5], [4, 5]), ([], []), ([], []), ([7, 8], [7, 8]), ([9], [9]), ([6, 10], [6, 10]), ([], []), ([], []), ([12, 13], [12, 13]), ([14], [14]), ([11, 15], [11, 15]), ([16, 0, 1, 2, 3, 4, 5, 6, 7, 8, 9, 10, 11, 12, 13, 14, 15, 16], [16])])
def spec_l2Block.B9 : List Nat := [0, 1, 3, 0, 15, 0, 63, 0, 0, 384, 896, 2047, 0, 0, 12288, 28672, 65535, 131071]
theorem spec_l2Block.tab9 : rtab .any (opsOf Try.f149 9) = spec_l2Block.T9 := by kernel_rfl
theorem spec_l2Block.bits9 : waitsOk spec_l2Block.T9.2 spec_l2Block.B9 = true := by kernel_rfl
def spec_l2Block.T12 : Bool × List (List Nat × List Nat) := (true, [([], []), ([], []), ([1], [1]), ([2], [2]), ([0, 3], [0, 3]), ([], []), ([], []), ([6], [6]), ([7], [7]), ([5, 8], [5, 8]), ([4, 9], [4, 9]), ([], []), ([11], [11]), ([12], [12]), ([], []), ([14], [14]), ([15], [15]), ([13, 16], [13, 16]), ([10, 17], [10, 17]), ([18, 0, 1, 2, 3, 4, 5, 6, 7, 8, 9, 10, 11, 12, 13, 14, 15, 16, 17, 18], [18])])
def spec_l2Block.B12 : List Nat := [0, 0, 2, 6, 15, 0, 0, 64, 192, 480, 1023, 0, 2048, 6144, 0, 16384, 49152, 129024, 262143, 524287]
theorem spec_l2Block.tab12 : rtab .any (opsOf Try.f149 12) = spec_l2Block.T12 := by kernel_rfl
theorem spec_l2Block.bits12 : waitsOk spec_l2Block.T12.2 spec_l2Block.B12 = true := by kernel_rfl
def spec_l2Block.T14 : Bool × List (List Nat × List Nat) := (true, [([], []), ([], []), ([0, 1], [0, 1]), ([2], [2]), ([], []), ([], []), ([5], [5]), ([6], [6]), ([], []), ([8], [8]), ([9], [9]), ([], []), ([11], [11]), ([12], [12]), ([], []), ([13, 14], [13, 14]), ([15], [15]), ([], []), ([], []), ([18], [18]), ([19], [19]), ([], []), ([21], [21]), ([22], [22]), ([3, 4, 7, 10, 16, 17, 20, 23], [3, 4, 7, 10, 16, 17, 20, 23]), ([24, 0, 1, 2, 3, 4, 5, 6, 7, 8, 9, 10, 11, 12, 13, 14, 15, 16, 17, 18, 19, 20, 21, 22, 23, 24], [5, 8, 11, 18, 21, 24])])
def spec_l2Block.B14 : List Nat := [0, 0, 3, 7, 0, 0, 32, 96, 0, 256, 768, 0, 2048, 6144, 0, 30720, 63488, 0, 0, 262144, 786432, 0, 2097152, 6291456, 16777215, 33554431]
theorem spec_l2Block.tab14 : rtab .any (opsOf Try.f149 14) = spec_l2Block.T14 := by kernel_rfl
theorem spec_l2Block.bits14 : waitsOk spec_l2Block.T14.2 spec_l2Block.B14 = true := by kernel_rfl
def spec_l2Block.T18 : Bool × List (List Nat × List Nat) := (true, [([], []), ([], []), ([], []), ([], []), ([2, 3], [2, 3]), ([4], [4]), ([], []), ([], []), ([6, 7], [6, 7]), ([8], [8]), ([5, 9], [5, 9]), ([10], [10]), ([0, 1, 0, 1, 2, 3, 4, 5, 6, 7, 8, 9, 10, 11], [0, 1]), ([12, 11, 0, 1, 2, 3, 4, 5, 6, 7, 8, 9, 10, 11], [11, 12])])
def spec_l2Block.B18 : List Nat := [0, 0, 0, 0, 12, 28, 0, 0, 192, 448, 1020, 2044, 4095, 8191]
theorem spec_l2Block.tab18 : rtab .any (opsOf Try.f149 18) = spec_l2Block.T18 := by kernel_rfl
theorem spec_l2Block.bits18 : waitsOk spec_l2Block.T18.2 spec_l2Block.B18 = true := by kernel_rfl
set_option maxHeartbeats 8000000 in
set_option maxRecDepth 100000 in
theorem spec_l2Block.calls (k : Nat) (A0 : Option Addr) (c0 : Nat) (l0 : List Int) (A1 : Option Addr) (c1 : Nat) (l1 : List Int) (A2 : Option Addr) (c2 : Nat) (l2 : List Int) (r : List Int) (w : World) (hr0 : Kd.C (Kd.int .i64) w A0 l0.length l0) (hc0 : l0.length ≤ c0) (hr1 : Kd.C (Kd.int .u8) w A1 l1.length l1) (hc1 : l1.length ≤ c1) (hr2 : Kd.C (Kd.int .i64) w A2 l2.length l2) (hc2 : l2.length ≤ c2) (h : spec_l2Block.f k l0 l1 l2 = some r) :
  Calls Try.prog 149 #[.slice A0 l0.length c0, .slice A1 l1.length c1, .slice A2 l2.length c2] w fun e w' => ∃ v0_ : Value, e = .returned (v0_) ∧ Kd.R (Kd.int .i64) 3 w' w.heap.size (fun _ => True) v0_ r ∧ Below w.heap.size w w' := by
 have HR0 := Aside0.mk hr0
 have HC0 := Aside0.mk hc0
 clear hr0 hc0
 have HR1 := Aside0.mk hr1
 have HC1 := Aside0.mk hc1
 clear hr1 hc1
 have HR2 := Aside0.mk hr2
 have HC2 := Aside0.mk hc2
 clear hr2 hc2
 have HB := Aside0.mk (Below.refl w.heap.size w)
 have H : ((spec_l2Words.f k l1).bind fun t601 => ((some (([] : List Int) : List Int)).bind fun y604 => (if y604.length + l0.length < 17592186044416 then (spec_l2Block.l0 k l0 l2 t601 (y604 ++ l0) 0) else (none)))) = some r := h
 clear h
 replace H := Option.bind_eq_some_iff.mp H
 obtain ⟨t601, A40, H⟩ := H
 have A4 := Aside0.mk A40
 clear A40
 obtain ⟨y604, Ny604, H⟩ := sb_ (([] : List Int)) H
 by_cases c5 : y604.length + l0.length < 17592186044416
 ·rw [if_pos c5] at H
  have LMc5 := Aside0.mk c5
  clear c5
  obtain ⟨y607, hy607⟩ : ∃ y_ : List Int, y_ = (y604 ++ l0) := ⟨_, rfl⟩
  replace H : (spec_l2Block.l0 k l0 l2 t601 y607 0) = some r := by first | (rw [hy607]; with_reducible exact H) | (have H2_ := (Option.bind_some _ _).symm.trans H; rw [hy607]; with_reducible exact H2_) | (have H2_ := (Option.bind_some _ _).symm.trans H; with_reducible exact H2_) | with_reducible exact H | (rw [hy607]; exact H) | exact H
  have Ny607 := Aside0.mk hy607
  clear hy607
  have H' := Aside0.mk H
  clear H
  go_enter Try.func149, Try.ntmps149
  go_wp2_with (first | ((with_reducible refine gk_ 176 ?_); refine gl_ 20 Try.func176 #[.slice A1 l1.length c1] ?_; (with_reducible refine (spec_l2Words.calls k _ _ l1 t601 _ ?side1 ?side2 A4.out).mono ?_); (case side1 => exact cr_ HR1.out); (case side2 => exact HC1.out); rintro e w6 ⟨v602, rfl, ho0, hb⟩; refine ⟨_, rfl, ?_⟩; have HO603 := Aside0.mk (Kd.R_lower ho0 (below_size (bw_ HB))); replace HB := Aside0.mk (below_step (bw_ HB) hb); clear hb ho0) | ((with_reducible refine gate_dst (N := 21) rfl ?_); refine rl_ (Kd.int .i64) 3 21 ([] : List Int) [] ?_; intro v605 w7 ho8 hb hg_ hnew_; clear hg_ hnew_; (first | rw [← Ny604.out] at ho8 | (simp only [Int.reduceToNat] at ho8; rw [← Ny604.out] at ho8)); have HO606 := Aside0.mk (Kd.R_lower (Kd.R_new' ho8 (Kd.R_lt (kr_ HO603.out))) (below_size (bw_ HB))); replace HO603 := Aside0.mk (Kd.R_elder' (kr_ HO603.out) (Kd.R_base ho8) hb); replace HB := Aside0.mk (below_step (bw_ HB) hb); clear hb ho8) | ((with_reducible refine gate_builtin (b := .append) (xs := #[.tmp 21, .tmp 22]) rfl ?_); at_builtin; refine Kd.R_append_rows (Kd.int .i64) (w0 := w) w.heap.size rfl (.tmp 21) (.tmp 22) 142 3 (.int .i64 0) 8 rfl Try.underlying142 info3 rfl (by decide) (by omega) v605 y604 l0 _ _ _ (fun k_ => some k_ ≠ (v602 : Value).ownBlock) (fun _ => False) rfl rfl ?aO ?aR (fun _ _ h => h) (fun _ h => h.elim) ?aF ?aB ?aS ?aL ?_; (case aR => repeat (first | exact (Kd.C_below HR0.out HB.out) | (with_reducible refine Kd.C_alloc ?_ _) | (with_reducible refine Kd.C_drewN ?_ _) | (with_reducible refine Kd.C_drew ?_))); (case aB => exact (bw_ HB)); (case aF => exact (fun k_ hk => Kd.fresh' (Kd.R_lt (kr_ HO603.out)) k_ hk)); (case aO => exact (kr_ (Kd.R_mono HO606.out (fun _ hk => hk.2)))); (case aS => exact (below_size (bw_ HB))); (case aL => have := LMc5.out; omega); intro v608 w9 ho hb hg hat; rw [← Ny607.out] at ho; replace HO603 := Aside0.mk (Kd.R_after (ok := (fun _ => True)) (kr_ HO603.out) hg hat); replace HB := Aside0.mk (hb); have HO609 := Aside0.mk (ho); clear HO606; clear ho hb hg hat))
  go_loopg [8, 9] k (fun kq v8 v9 w' => ∃ (x8_1 : List Int) (x9_1 : Int), v9 = .int .i64 x9_1 ∧ Aside0 (spec_l2Block.l0 kq l0 l2 t601 x8_1 x9_1 = some r) ∧ Aside0 (kq ≤ k) ∧ Aside0 (Kd.R (Kd.int .i64) 3 w' w.heap.size (fun k_ => some k_ ≠ (v8 : Value).ownBlock) v602 t601) ∧ Aside0 (Kd.R (Kd.int .i64) 3 w' w.heap.size (fun k_ => some k_ ≠ (v602 : Value).ownBlock) v8 x8_1) ∧ Aside0 (Below w.heap.size w w'))
  case atStart => exact ⟨(y607), (0), e1_, H', ⟨Nat.le_refl _⟩, ⟨by (with_reducible repeat (first | apply Kd.R_alloc | apply Kd.R_drewN | apply Kd.R_drew)); exact Kd.R_mono HO603.out (fun _ hk => hk.2)⟩, ⟨kr_ HO609.out⟩, ⟨bw_ HB⟩⟩
  case round =>
   clear H'
   try clear c1
   try clear c2
   try clear p2
   try clear c5
   obtain ⟨x8_1, x9_1, rfl, HA, HK1, HO_7, HO_8, HB⟩ := hrel
   cases gk with
   | zero => exact absurd HA.out (by simp [spec_l2Block.l0])
   | succ k1 =>
    have H := HA.out
    clear HA
    simp only [spec_l2Block.l0] at H
    by_cases c10 : x9_1 < 64
    ·rw [if_pos c10] at H
     have c10b0 := decide_eq_true c10
     clear c10
     by_cases c11 : 4 < (x8_1.length : Int)
     ·rw [if_pos c11] at H
      have c11b0 := decide_eq_true c11
      have c11b1 : decide (4 < x8_1.length) = true := decide_eq_true (by omega)
      clear c11
      replace H := Option.bind_eq_some_iff.mp H
      obtain ⟨t611, A120, H⟩ := H
      have A12 := Aside0.mk A120
      clear A120
      replace H := Option.bind_eq_some_iff.mp H
      obtain ⟨t612, A130, H⟩ := H
      have A13 := Aside0.mk A130
      clear A130
      replace H := Option.bind_eq_some_iff.mp H
      obtain ⟨t613, A140, H⟩ := H
      have A14 := Aside0.mk A140
      clear A140
      by_cases c15 : 5 < (x8_1.length : Int)
      ·rw [if_pos c15] at H
       have c15b0 := decide_eq_true c15
       have c15b1 : decide (5 < x8_1.length) = true := decide_eq_true (by omega)
       clear c15
       by_cases c16 : 6 < (x8_1.length : Int)
       ·rw [if_pos c16] at H
        have c16b0 := decide_eq_true c16
        have c16b1 : decide (6 < x8_1.length) = true := decide_eq_true (by omega)
        clear c16
        by_cases c17 : 7 < (x8_1.length : Int)
        ·rw [if_pos c17] at H
         have c17b0 := decide_eq_true c17
         have c17b1 : decide (7 < x8_1.length) = true := decide_eq_true (by omega)
         clear c17
         by_cases c18 : 0 ≤ x9_1
         ·rw [if_pos c18] at H
          have c18b0 := decide_eq_true c18
          clear c18
          by_cases c19 : x9_1 < (l2.length : Int)
          ·rw [if_pos c19] at H
           have c19b0 := decide_eq_true c19
           clear c19
           by_cases c20 : x9_1 < (t601.length : Int)
           ·rw [if_pos c20] at H
            have c20b0 := decide_eq_true c20
            clear c20
            by_cases c21 : 0 < (x8_1.length : Int)
            ·rw [if_pos c21] at H
             have c21b0 := decide_eq_true c21
             have c21b1 : decide (0 < x8_1.length) = true := decide_eq_true (by omega)
             clear c21
             replace H := Option.bind_eq_some_iff.mp H
             obtain ⟨t620, A220, H⟩ := H
             have A22 := Aside0.mk A220
             clear A220
             replace H := Option.bind_eq_some_iff.mp H
             obtain ⟨t621, A230, H⟩ := H
             have A23 := Aside0.mk A230
             clear A230
             replace H := Option.bind_eq_some_iff.mp H
             obtain ⟨t622, A240, H⟩ := H
             have A24 := Aside0.mk A240
             clear A240
             by_cases c25 : 1 < (x8_1.length : Int)
             ·rw [if_pos c25] at H
              have c25b0 := decide_eq_true c25
              have c25b1 : decide (1 < x8_1.length) = true := decide_eq_true (by omega)
              clear c25
              by_cases c26 : 2 < (x8_1.length : Int)
              ·rw [if_pos c26] at H
               have c26b0 := decide_eq_true c26
               have c26b1 : decide (2 < x8_1.length) = true := decide_eq_true (by omega)
               clear c26
               by_cases c27 : 3 < (x8_1.length : Int)
               ·rw [if_pos c27] at H
                have c27b0 := decide_eq_true c27
                have c27b1 : decide (3 < x8_1.length) = true := decide_eq_true (by omega)
                clear c27
                obtain ⟨y632, hy632⟩ : ∃ y_ : List Int, y_ = (([Go.bits .and .i64 (wrap64 ((wrap64 ((wrap64 ((wrap64 ((wrap64 ((rd x8_1 7) + (Go.bits .xor .i64 (Go.bits .xor .i64 t611 t612) t613))) + (Go.bits .xor .i64 (Go.bits .and .i64 (rd x8_1 4) (rd x8_1 5)) (Go.bits .and .i64 (Go.bits .xor .i64 4294967295 (rd x8_1 4)) (rd x8_1 6))))) + (rd l2 x9_1))) + (rd t601 x9_1))) + (wrap64 ((Go.bits .xor .i64 (Go.bits .xor .i64 t620 t621) t622) + (Go.bits .xor .i64 (Go.bits .xor .i64 (Go.bits .and .i64 (rd x8_1 0) (rd x8_1 1)) (Go.bits .and .i64 (rd x8_1 0) (rd x8_1 2))) (Go.bits .and .i64 (rd x8_1 1) (rd x8_1 2))))))) 4294967295, rd x8_1 0, rd x8_1 1, rd x8_1 2, Go.bits .and .i64 (wrap64 ((rd x8_1 3) + (wrap64 ((wrap64 ((wrap64 ((wrap64 ((rd x8_1 7) + (Go.bits .xor .i64 (Go.bits .xor .i64 t611 t612) t613))) + (Go.bits .xor .i64 (Go.bits .and .i64 (rd x8_1 4) (rd x8_1 5)) (Go.bits .and .i64 (Go.bits .xor .i64 4294967295 (rd x8_1 4)) (rd x8_1 6))))) + (rd l2 x9_1))) + (rd t601 x9_1))))) 4294967295, rd x8_1 4, rd x8_1 5, rd x8_1 6] : List Int)) := ⟨_, rfl⟩
                replace H : (spec_l2Block.l0 k1 l0 l2 t601 y632 (wrap64 (x9_1 + 1))) = some r := by first | (rw [hy632]; with_reducible exact H) | (have H2_ := (Option.bind_some _ _).symm.trans H; rw [hy632]; with_reducible exact H2_) | (have H2_ := (Option.bind_some _ _).symm.trans H; with_reducible exact H2_) | with_reducible exact H | (rw [hy632]; exact H) | exact H
                have Ny632 := Aside0.mk hy632
                clear hy632
                have H' := Aside0.mk H
                clear H
                obtain ⟨Ao28, co28, eo28⟩ := Kd.R_slice HO_8.out
                subst eo28
                have p610 : 0 ≤ (4 : Int) := (by omega)
                have q610 : 4 < (x8_1.length : Int) := of_decide_eq_true as_
                obtain ⟨ad610, e610, hx610_0⟩ := Kd.at_int (Kd.R_reads' HO_8.out).2.2 4 p610 q610
                cases e610
                (try simp only [show (4 : Int).toNat = 4 from rfl, Nat.reduceMul, Nat.reduceEqDiff, Go.Addr.add, ↓reduceIte] at hx610_0)
                have qi610 : (4 < x8_1.length) = True := eq_true (by omega)
                (try rw [show ((4 : Int)).toNat = 4 from rfl] at hx610_0)
                replace p610 := eq_true p610
                replace q610 := eq_true q610
                try go_wp2_with (first | ((with_reducible refine gk_ 177 ?_); refine gl_ 32 Try.func177 #[.int .i64 (rd x8_1 4), .int .i64 6] ?_; (with_reducible refine (spec_l2Turn.calls (rd x8_1 4) 6 t611 _ A12.out).mono ?_); rintro e w' ⟨rfl, ⟨nd, rfl⟩⟩; refine ⟨_, rfl, ?_⟩) | ((with_reducible refine gk_ 177 ?_); refine gl_ 34 Try.func177 #[.int .i64 (rd x8_1 4), .int .i64 11] ?_; (with_reducible refine (spec_l2Turn.calls (rd x8_1 4) 11 t612 _ A13.out).mono ?_); rintro e w' ⟨rfl, ⟨nd, rfl⟩⟩; refine ⟨_, rfl, ?_⟩) | ((with_reducible refine gk_ 177 ?_); refine gl_ 37 Try.func177 #[.int .i64 (rd x8_1 4), .int .i64 25] ?_; (with_reducible refine (spec_l2Turn.calls (rd x8_1 4) 25 t613 _ A14.out).mono ?_); rintro e w' ⟨rfl, ⟨nd, rfl⟩⟩; refine ⟨_, rfl, ?_⟩))
                (try (rw [drewN_self wr]; generalize hq_ : World.drewN wr _ = wr; have n0_ : Aside0 (Kd.R (Kd.int .i64) 3 wr w.heap.size (fun k_ => some k_ ≠ (.slice (some ad610) x8_1.length co28 : Value).ownBlock) v602 t601) := ⟨by rw [← hq_]; exact (kr_ HO_7.out)⟩; have n1_ : Aside0 (Kd.R (Kd.int .i64) 3 wr w.heap.size (fun k_ => some k_ ≠ (v602 : Value).ownBlock) (.slice (some ad610) x8_1.length co28) x8_1) := ⟨by rw [← hq_]; exact (kr_ HO_8.out)⟩; have n2_ : Aside0 (Below w.heap.size w wr) := ⟨by rw [← hq_]; exact (bw_ HB)⟩; clear HO_7 HO_8 HB hq_; have HO_7 := n0_; have HO_8 := n1_; have HB := n2_; clear n0_ n1_ n2_))
                have n0_ := Aside0.mk (Kd.R_drew HO_7.out)
                have n1_ := Aside0.mk (Kd.R_drew HO_8.out)
                have n2_ := Aside0.mk (below_drew1 HB.out)
                clear HO_7
                clear HO_8
                clear HB
                have HO_7 := n0_
                have HO_8 := n1_
                have HB := n2_
                clear n0_ n1_ n2_
                have p614 : 0 ≤ (5 : Int) := (by omega)
                have q614 : 5 < (x8_1.length : Int) := of_decide_eq_true as_
                obtain ⟨ad614, e614, hx614_0⟩ := Kd.at_int (Kd.R_reads' HO_8.out).2.2 5 p614 q614
                obtain rfl : ad610 = ad614 := (by injection e614)
                (try simp only [show (5 : Int).toNat = 5 from rfl, Nat.reduceMul, Nat.reduceEqDiff, Go.Addr.add, ↓reduceIte] at hx614_0)
                have qi614 : (5 < x8_1.length) = True := eq_true (by omega)
                (try rw [show ((5 : Int)).toNat = 5 from rfl] at hx614_0)
                replace p614 := eq_true p614
                replace q614 := eq_true q614
                have p615 : 0 ≤ (6 : Int) := (by omega)
                have q615 : 6 < (x8_1.length : Int) := of_decide_eq_true as_
                obtain ⟨ad615, e615, hx615_0⟩ := Kd.at_int (Kd.R_reads' HO_8.out).2.2 6 p615 q615
                obtain rfl : ad610 = ad615 := (by injection e615)
                (try simp only [show (6 : Int).toNat = 6 from rfl, Nat.reduceMul, Nat.reduceEqDiff, Go.Addr.add, ↓reduceIte] at hx615_0)
                have qi615 : (6 < x8_1.length) = True := eq_true (by omega)
                (try rw [show ((6 : Int)).toNat = 6 from rfl] at hx615_0)
                replace p615 := eq_true p615
                replace q615 := eq_true q615
                refine start_ (n := 13) (S := fun w' => w'.cell? ⟨ad610.block, ad610.off + 5, none⟩ = some (.int .i64 (rd x8_1 5)) ∧ w'.cell? ⟨ad610.block, ad610.off + 6, none⟩ = some (.int .i64 (rd x8_1 6))) (ds := []) (lz_ 13 0) (by kernel_rfl) rfl rfl ⟨hx614_0, hx615_0⟩ (fun hHeld => ?_); refine with_tabW spec_l2Block.tab8 spec_l2Block.bits8 (fun HT_ HW_ => ?_)
                generalize wr.drew = w29 at HO_7 HO_8 HB hx614_0 hx615_0 hHeld ⊢
                refine pt_ 0 39 1 ?_
                refine pt_ 1 40 3 ?_
                refine pt_ 2 41 7 ?_
                refine pt_ 5 44 39 ?_
                refine pt_ 6 45 103 ?_
                refine pt_ 7 46 231 ?_
                refine pt_ 8 47 487 ?_
                refine tt_ 3 42 495 ?_
                refine pt_ 4 43 511 ?_
                refine tt_ 9 48 1023 ?_
                refine pt_ 10 49 2047 ?_
                refine pt_ 11 50 4095 ?_
                refine pt_ 12 12 8191 ?_
                refine done_ (done_of HT_.out (by kernel_rfl)) ?_
                try go_wp2
                have n0_ := Aside0.mk (Kd.R_drew HO_7.out)
                have n1_ := Aside0.mk (Kd.R_drew HO_8.out)
                have n2_ := Aside0.mk (below_drew1 HB.out)
                clear HO_7
                clear HO_8
                clear HB
                have HO_7 := n0_
                have HO_8 := n1_
                have HB := n2_
                clear n0_ n1_ n2_
                have p616 : 0 ≤ (7 : Int) := (by omega)
                have q616 : 7 < (x8_1.length : Int) := of_decide_eq_true as_
                obtain ⟨ad616, e616, hx616_0⟩ := Kd.at_int (Kd.R_reads' HO_8.out).2.2 7 p616 q616
                obtain rfl : ad610 = ad616 := (by injection e616)
                (try simp only [show (7 : Int).toNat = 7 from rfl, Nat.reduceMul, Nat.reduceEqDiff, Go.Addr.add, ↓reduceIte] at hx616_0)
                have qi616 : (7 < x8_1.length) = True := eq_true (by omega)
                (try rw [show ((7 : Int)).toNat = 7 from rfl] at hx616_0)
                replace p616 := eq_true p616
                replace q616 := eq_true q616
                have p617 : 0 ≤ (x9_1 : Int) := of_decide_eq_true as_
                have q617 : x9_1 < (l2.length : Int) := of_decide_eq_true as_
                obtain ⟨ad617, e617, hx617_0⟩ := Kd.at_int HR2.out x9_1 p617 q617
                have hw617_0 := hx617_0
                cases e617
                replace hx617_0 := (HB.out.cell (World.block_lt_of_cell? w _ hx617_0)).trans hx617_0
                replace p617 := eq_true p617
                replace q617 := eq_true q617
                obtain ⟨Ao31, co31, eo31⟩ := Kd.R_slice HO_7.out
                (first | subst eo31 | (injection eo31 with f1_ f2_ f3_; have f4_ := f1_.symm; have f5_ := f3_.symm; clear f1_ f2_ f3_; subst f4_; subst f5_))
                have p618 : 0 ≤ (x9_1 : Int) := of_decide_eq_true as_
                have q618 : x9_1 < (t601.length : Int) := of_decide_eq_true as_
                obtain ⟨ad618, e618, hx618_0⟩ := Kd.at_int (Kd.R_reads' HO_7.out).2.2 x9_1 p618 q618
                cases e618
                replace p618 := eq_true p618
                replace q618 := eq_true q618
                refine start_ (n := 18) (S := fun w' => w'.cell? ⟨ad610.block, ad610.off + 7, none⟩ = some (.int .i64 (rd x8_1 7)) ∧ w'.cell? (ad617.add (x9_1).toNat) = some (.int .i64 (rd l2 x9_1)) ∧ w'.cell? (ad618.add (x9_1).toNat) = some (.int .i64 (rd t601 x9_1))) (ds := []) (lz_ 18 0) (by kernel_rfl) rfl rfl ⟨hx616_0, ((HB.out.cell (World.block_lt_of_cell? w _ hw617_0)).trans hw617_0), hx618_0⟩ (fun hHeld => ?_); refine with_tabW spec_l2Block.tab9 spec_l2Block.bits9 (fun HT_ HW_ => ?_)
                generalize w29.drew = w30 at HO_7 HO_8 HB hx616_0 hx617_0 hx618_0 hHeld ⊢
                refine pt_ 0 51 1 ?_
                refine pt_ 1 52 3 ?_
                refine pt_ 3 54 11 ?_
                refine pt_ 5 56 43 ?_
                refine pt_ 7 58 171 ?_
                refine pt_ 8 59 427 ?_
                refine pt_ 9 60 939 ?_
                refine pt_ 12 63 5035 ?_
                refine pt_ 13 64 13227 ?_
                refine pt_ 14 65 29611 ?_
                refine tt_ 2 53 29615 ?_
                refine pt_ 4 55 29631 ?_
                refine pt_ 6 57 29695 ?_
                refine tt_ 10 61 30719 ?_
                refine pt_ 11 62 32767 ?_
                refine tt_ 15 66 65535 ?_
                refine pt_ 16 67 131071 ?_
                refine pt_ 17 13 262143 ?_
                refine done_ (done_of HT_.out (by kernel_rfl)) ?_
                have p619 : 0 ≤ (0 : Int) := (by omega)
                have q619 : 0 < (x8_1.length : Int) := of_decide_eq_true as_
                obtain ⟨ad619, e619, hx619_0⟩ := Kd.at_int (Kd.R_reads' HO_8.out).2.2 0 p619 q619
                obtain rfl : ad610 = ad619 := (by injection e619)
                have qi619 : (0 < x8_1.length) = True := eq_true (by omega)
                (try rw [show ((0 : Int)).toNat = 0 from rfl] at hx619_0)
                (try rw [Addr.add_zero'] at hx619_0)
                replace p619 := eq_true p619
                replace q619 := eq_true q619
                try go_wp2_with (first | ((with_reducible refine gk_ 177 ?_); refine gl_ 72 Try.func177 #[.int .i64 (rd x8_1 0), .int .i64 2] ?_; (with_reducible refine (spec_l2Turn.calls (rd x8_1 0) 2 t620 _ A22.out).mono ?_); rintro e w' ⟨rfl, ⟨nd, rfl⟩⟩; refine ⟨_, rfl, ?_⟩) | ((with_reducible refine gk_ 177 ?_); refine gl_ 74 Try.func177 #[.int .i64 (rd x8_1 0), .int .i64 13] ?_; (with_reducible refine (spec_l2Turn.calls (rd x8_1 0) 13 t621 _ A23.out).mono ?_); rintro e w' ⟨rfl, ⟨nd, rfl⟩⟩; refine ⟨_, rfl, ?_⟩) | ((with_reducible refine gk_ 177 ?_); refine gl_ 77 Try.func177 #[.int .i64 (rd x8_1 0), .int .i64 22] ?_; (with_reducible refine (spec_l2Turn.calls (rd x8_1 0) 22 t622 _ A24.out).mono ?_); rintro e w' ⟨rfl, ⟨nd, rfl⟩⟩; refine ⟨_, rfl, ?_⟩))
                (try (rw [drewN_self w30]; generalize hq_ : World.drewN w30 _ = w30; have n0_ : Aside0 (Kd.R (Kd.int .i64) 3 w30 w.heap.size (fun k_ => some k_ ≠ (.slice (some ad610) x8_1.length co28 : Value).ownBlock) (.slice (some ad618) t601.length co31) t601) := ⟨by rw [← hq_]; exact (kr_ HO_7.out)⟩; have n1_ : Aside0 (Kd.R (Kd.int .i64) 3 w30 w.heap.size (fun k_ => some k_ ≠ (.slice (some ad618) t601.length co31 : Value).ownBlock) (.slice (some ad610) x8_1.length co28) x8_1) := ⟨by rw [← hq_]; exact (kr_ HO_8.out)⟩; have n2_ : Aside0 (Below w.heap.size w w30) := ⟨by rw [← hq_]; exact (bw_ HB)⟩; clear HO_7 HO_8 HB hq_; have HO_7 := n0_; have HO_8 := n1_; have HB := n2_; clear n0_ n1_ n2_))
                have n0_ := Aside0.mk (Kd.R_drew HO_7.out)
                have n1_ := Aside0.mk (Kd.R_drew HO_8.out)
                have n2_ := Aside0.mk (below_drew1 HB.out)
                clear HO_7
                clear HO_8
                clear HB
                have HO_7 := n0_
                have HO_8 := n1_
                have HB := n2_
                clear n0_ n1_ n2_
                have p623 : 0 ≤ (1 : Int) := (by omega)
                have q623 : 1 < (x8_1.length : Int) := of_decide_eq_true as_
                obtain ⟨ad623, e623, hx623_0⟩ := Kd.at_int (Kd.R_reads' HO_8.out).2.2 1 p623 q623
                obtain rfl : ad610 = ad623 := (by injection e623)
                (try simp only [show (1 : Int).toNat = 1 from rfl, Nat.reduceMul, Nat.reduceEqDiff, Go.Addr.add, ↓reduceIte] at hx623_0)
                have qi623 : (1 < x8_1.length) = True := eq_true (by omega)
                (try rw [show ((1 : Int)).toNat = 1 from rfl] at hx623_0)
                replace p623 := eq_true p623
                replace q623 := eq_true q623
                have p624 : 0 ≤ (2 : Int) := (by omega)
                have q624 : 2 < (x8_1.length : Int) := of_decide_eq_true as_
                obtain ⟨ad624, e624, hx624_0⟩ := Kd.at_int (Kd.R_reads' HO_8.out).2.2 2 p624 q624
                obtain rfl : ad610 = ad624 := (by injection e624)
                (try simp only [show (2 : Int).toNat = 2 from rfl, Nat.reduceMul, Nat.reduceEqDiff, Go.Addr.add, ↓reduceIte] at hx624_0)
                have qi624 : (2 < x8_1.length) = True := eq_true (by omega)
                (try rw [show ((2 : Int)).toNat = 2 from rfl] at hx624_0)
                replace p624 := eq_true p624
                replace q624 := eq_true q624
                have p625 : 0 ≤ (1 : Int) := (by omega)
                have q625 : 1 < (x8_1.length : Int) := of_decide_eq_true as_
                obtain ⟨ad625, e625, hx625_0⟩ := Kd.at_int (Kd.R_reads' HO_8.out).2.2 1 p625 q625
                obtain rfl : ad610 = ad625 := (by injection e625)
                (try simp only [show (1 : Int).toNat = 1 from rfl, Nat.reduceMul, Nat.reduceEqDiff, Go.Addr.add, ↓reduceIte] at hx625_0)
                have qi625 : (1 < x8_1.length) = True := eq_true (by omega)
                (try rw [show ((1 : Int)).toNat = 1 from rfl] at hx625_0)
                replace p625 := eq_true p625
                replace q625 := eq_true q625
                have p626 : 0 ≤ (2 : Int) := (by omega)
                have q626 : 2 < (x8_1.length : Int) := of_decide_eq_true as_
                obtain ⟨ad626, e626, hx626_0⟩ := Kd.at_int (Kd.R_reads' HO_8.out).2.2 2 p626 q626
                obtain rfl : ad610 = ad626 := (by injection e626)
                (try simp only [show (2 : Int).toNat = 2 from rfl, Nat.reduceMul, Nat.reduceEqDiff, Go.Addr.add, ↓reduceIte] at hx626_0)
                have qi626 : (2 < x8_1.length) = True := eq_true (by omega)
                (try rw [show ((2 : Int)).toNat = 2 from rfl] at hx626_0)
                replace p626 := eq_true p626
                replace q626 := eq_true q626
                refine start_ (n := 20) (S := fun w' => w'.cell? ⟨ad610.block, ad610.off + 1, none⟩ = some (.int .i64 (rd x8_1 1)) ∧ w'.cell? ⟨ad610.block, ad610.off + 2, none⟩ = some (.int .i64 (rd x8_1 2)) ∧ w'.cell? ⟨ad610.block, ad610.off + 1, none⟩ = some (.int .i64 (rd x8_1 1)) ∧ w'.cell? ⟨ad610.block, ad610.off + 2, none⟩ = some (.int .i64 (rd x8_1 2))) (ds := []) (lz_ 20 0) (by kernel_rfl) rfl rfl ⟨hx623_0, hx624_0, hx625_0, hx626_0⟩ (fun hHeld => ?_); refine with_tabW spec_l2Block.tab12 spec_l2Block.bits12 (fun HT_ HW_ => ?_)
                generalize w30.drew = w32 at HO_7 HO_8 HB hx623_0 hx624_0 hx625_0 hx626_0 hHeld ⊢
                refine pt_ 0 79 1 ?_
                refine pt_ 1 80 3 ?_
                refine pt_ 2 81 7 ?_
                refine pt_ 5 84 39 ?_
                refine pt_ 6 85 103 ?_
                refine pt_ 7 86 231 ?_
                refine pt_ 11 90 2279 ?_
                refine pt_ 12 91 6375 ?_
                refine pt_ 14 93 22759 ?_
                refine pt_ 15 94 55527 ?_
                refine tt_ 3 82 55535 ?_
                refine pt_ 4 83 55551 ?_
                refine tt_ 8 87 55807 ?_
                refine pt_ 9 88 56319 ?_
                refine pt_ 10 89 57343 ?_
                refine tt_ 13 92 65535 ?_
                refine tt_ 16 95 131071 ?_
                refine pt_ 17 96 262143 ?_
                refine pt_ 18 97 524287 ?_
                refine pt_ 19 16 1048575 ?_
                refine done_ (done_of HT_.out (by kernel_rfl)) ?_
                try go_wp2
                have n0_ := Aside0.mk (Kd.R_drew HO_7.out)
                have n1_ := Aside0.mk (Kd.R_drew HO_8.out)
                have n2_ := Aside0.mk (below_drew1 HB.out)
                clear HO_7
                clear HO_8
                clear HB
                have HO_7 := n0_
                have HO_8 := n1_
                have HB := n2_
                clear n0_ n1_ n2_
                have p627 : 0 ≤ (1 : Int) := (by omega)
                have q627 : 1 < (x8_1.length : Int) := of_decide_eq_true as_
                obtain ⟨ad627, e627, hx627_0⟩ := Kd.at_int (Kd.R_reads' HO_8.out).2.2 1 p627 q627
                obtain rfl : ad610 = ad627 := (by injection e627)
                (try simp only [show (1 : Int).toNat = 1 from rfl, Nat.reduceMul, Nat.reduceEqDiff, Go.Addr.add, ↓reduceIte] at hx627_0)
                have qi627 : (1 < x8_1.length) = True := eq_true (by omega)
                (try rw [show ((1 : Int)).toNat = 1 from rfl] at hx627_0)
                replace p627 := eq_true p627
                replace q627 := eq_true q627
                have p628 : 0 ≤ (2 : Int) := (by omega)
                have q628 : 2 < (x8_1.length : Int) := of_decide_eq_true as_
                obtain ⟨ad628, e628, hx628_0⟩ := Kd.at_int (Kd.R_reads' HO_8.out).2.2 2 p628 q628
                obtain rfl : ad610 = ad628 := (by injection e628)
                (try simp only [show (2 : Int).toNat = 2 from rfl, Nat.reduceMul, Nat.reduceEqDiff, Go.Addr.add, ↓reduceIte] at hx628_0)
                have qi628 : (2 < x8_1.length) = True := eq_true (by omega)
                (try rw [show ((2 : Int)).toNat = 2 from rfl] at hx628_0)
                replace p628 := eq_true p628
                replace q628 := eq_true q628
                have p629 : 0 ≤ (3 : Int) := (by omega)
                have q629 : 3 < (x8_1.length : Int) := of_decide_eq_true as_
                obtain ⟨ad629, e629, hx629_0⟩ := Kd.at_int (Kd.R_reads' HO_8.out).2.2 3 p629 q629
                obtain rfl : ad610 = ad629 := (by injection e629)
                (try simp only [show (3 : Int).toNat = 3 from rfl, Nat.reduceMul, Nat.reduceEqDiff, Go.Addr.add, ↓reduceIte] at hx629_0)
                have qi629 : (3 < x8_1.length) = True := eq_true (by omega)
                (try rw [show ((3 : Int)).toNat = 3 from rfl] at hx629_0)
                replace p629 := eq_true p629
                replace q629 := eq_true q629
                have p630 : 0 ≤ (5 : Int) := (by omega)
                have q630 : 5 < (x8_1.length : Int) := of_decide_eq_true as_
                obtain ⟨ad630, e630, hx630_0⟩ := Kd.at_int (Kd.R_reads' HO_8.out).2.2 5 p630 q630
                obtain rfl : ad610 = ad630 := (by injection e630)
                (try simp only [show (5 : Int).toNat = 5 from rfl, Nat.reduceMul, Nat.reduceEqDiff, Go.Addr.add, ↓reduceIte] at hx630_0)
                have qi630 : (5 < x8_1.length) = True := eq_true (by omega)
                (try rw [show ((5 : Int)).toNat = 5 from rfl] at hx630_0)
                replace p630 := eq_true p630
                replace q630 := eq_true q630
                have p631 : 0 ≤ (6 : Int) := (by omega)
                have q631 : 6 < (x8_1.length : Int) := of_decide_eq_true as_
                obtain ⟨ad631, e631, hx631_0⟩ := Kd.at_int (Kd.R_reads' HO_8.out).2.2 6 p631 q631
                obtain rfl : ad610 = ad631 := (by injection e631)
                (try simp only [show (6 : Int).toNat = 6 from rfl, Nat.reduceMul, Nat.reduceEqDiff, Go.Addr.add, ↓reduceIte] at hx631_0)
                have qi631 : (6 < x8_1.length) = True := eq_true (by omega)
                (try rw [show ((6 : Int)).toNat = 6 from rfl] at hx631_0)
                replace p631 := eq_true p631
                replace q631 := eq_true q631
                refine start_ (n := 26) (S := fun w' => w'.cell? ⟨ad610.block, ad610.off + 1, none⟩ = some (.int .i64 (rd x8_1 1)) ∧ w'.cell? ⟨ad610.block, ad610.off + 2, none⟩ = some (.int .i64 (rd x8_1 2)) ∧ w'.cell? ⟨ad610.block, ad610.off + 3, none⟩ = some (.int .i64 (rd x8_1 3)) ∧ w'.cell? ⟨ad610.block, ad610.off + 5, none⟩ = some (.int .i64 (rd x8_1 5)) ∧ w'.cell? ⟨ad610.block, ad610.off + 6, none⟩ = some (.int .i64 (rd x8_1 6))) (ds := []) (lz_ 26 0) (by kernel_rfl) rfl rfl ⟨hx627_0, hx628_0, hx629_0, hx630_0, hx631_0⟩ (fun hHeld => ?_); refine with_tabW spec_l2Block.tab14 spec_l2Block.bits14 (fun HT_ HW_ => ?_)
                generalize w32.drew = w33 at HO_7 HO_8 HB hx627_0 hx628_0 hx629_0 hx630_0 hx631_0 hHeld ⊢
                refine pt_ 0 101 1 ?_
                refine pt_ 1 102 3 ?_
                refine pt_ 2 103 7 ?_
                refine pt_ 3 104 15 ?_
                refine pt_ 4 105 31 ?_
                refine pt_ 5 106 63 ?_
                refine pt_ 6 107 127 ?_
                refine pt_ 8 109 383 ?_
                refine pt_ 9 110 895 ?_
                refine pt_ 11 112 2943 ?_
                refine pt_ 12 113 7039 ?_
                refine pt_ 14 115 23423 ?_
                refine pt_ 17 118 154495 ?_
                refine pt_ 18 119 416639 ?_
                refine pt_ 19 120 940927 ?_
                refine pt_ 21 122 3038079 ?_
                refine pt_ 22 123 7232383 ?_
                refine tt_ 7 108 7232511 ?_
                refine tt_ 10 111 7233535 ?_
                refine tt_ 13 114 7241727 ?_
                refine pt_ 15 116 7274495 ?_
                refine pt_ 16 117 7340031 ?_
                refine tt_ 20 121 8388607 ?_
                refine tt_ 23 124 16777215 ?_
                refine one_ (i := 24) (N := some 125) (lz_ 26 33554431) rfl rfl (one_of HT_.out (by kernel_rfl)) (by decide) (fun K hK => ?_)
                refine Kd.R_lit_step (Kd.int .i64) _ 3 ?hg (N := 125) ?hd (xs := ([Go.bits .and .i64 (wrap64 ((wrap64 ((wrap64 ((wrap64 ((wrap64 ((rd x8_1 7) + (Go.bits .xor .i64 (Go.bits .xor .i64 t611 t612) t613))) + (Go.bits .xor .i64 (Go.bits .and .i64 (rd x8_1 4) (rd x8_1 5)) (Go.bits .and .i64 (Go.bits .xor .i64 4294967295 (rd x8_1 4)) (rd x8_1 6))))) + (rd l2 x9_1))) + (rd t601 x9_1))) + (wrap64 ((Go.bits .xor .i64 (Go.bits .xor .i64 t620 t621) t622) + (Go.bits .xor .i64 (Go.bits .xor .i64 (Go.bits .and .i64 (rd x8_1 0) (rd x8_1 1)) (Go.bits .and .i64 (rd x8_1 0) (rd x8_1 2))) (Go.bits .and .i64 (rd x8_1 1) (rd x8_1 2))))))) 4294967295, rd x8_1 0, rd x8_1 1, rd x8_1 2, Go.bits .and .i64 (wrap64 ((rd x8_1 3) + (wrap64 ((wrap64 ((wrap64 ((wrap64 ((rd x8_1 7) + (Go.bits .xor .i64 (Go.bits .xor .i64 t611 t612) t613))) + (Go.bits .xor .i64 (Go.bits .and .i64 (rd x8_1 4) (rd x8_1 5)) (Go.bits .and .i64 (Go.bits .xor .i64 4294967295 (rd x8_1 4)) (rd x8_1 6))))) + (rd l2 x9_1))) + (rd t601 x9_1))))) 4294967295, rd x8_1 4, rd x8_1 5, rd x8_1 6] : List Int)) (inner := [.int .i64 (Go.bits .and .i64 (wrap64 ((wrap64 ((wrap64 ((wrap64 ((wrap64 ((rd x8_1 7) + (Go.bits .xor .i64 (Go.bits .xor .i64 t611 t612) t613))) + (Go.bits .xor .i64 (Go.bits .and .i64 (rd x8_1 4) (rd x8_1 5)) (Go.bits .and .i64 (Go.bits .xor .i64 4294967295 (rd x8_1 4)) (rd x8_1 6))))) + (rd l2 x9_1))) + (rd t601 x9_1))) + (wrap64 ((Go.bits .xor .i64 (Go.bits .xor .i64 t620 t621) t622) + (Go.bits .xor .i64 (Go.bits .xor .i64 (Go.bits .and .i64 (rd x8_1 0) (rd x8_1 1)) (Go.bits .and .i64 (rd x8_1 0) (rd x8_1 2))) (Go.bits .and .i64 (rd x8_1 1) (rd x8_1 2))))))) 4294967295), .int .i64 (rd x8_1 0), .int .i64 (rd x8_1 1), .int .i64 (rd x8_1 2), .int .i64 (Go.bits .and .i64 (wrap64 ((rd x8_1 3) + (wrap64 ((wrap64 ((wrap64 ((wrap64 ((rd x8_1 7) + (Go.bits .xor .i64 (Go.bits .xor .i64 t611 t612) t613))) + (Go.bits .xor .i64 (Go.bits .and .i64 (rd x8_1 4) (rd x8_1 5)) (Go.bits .and .i64 (Go.bits .xor .i64 4294967295 (rd x8_1 4)) (rd x8_1 6))))) + (rd l2 x9_1))) + (rd t601 x9_1))))) 4294967295), .int .i64 (rd x8_1 4), .int .i64 (rd x8_1 5), .int .i64 (rd x8_1 6)]) (ok := fun _ => True) (okp := fun _ => True) ?hr ?hp (fun _ hk => hk) trivial (Below.refl _ _) (Nat.le_refl _) (by simp) ?_; (case hd => rfl); (case hg => rfl); (case hr => first | (go_simp; done) | (go_simp; rfl)); (case hp => exact (Reps.one (show Kd.M (Kd.int .i64) _ _ _ (Go.bits .and .i64 (wrap64 ((wrap64 ((wrap64 ((wrap64 ((wrap64 ((rd x8_1 7) + (Go.bits .xor .i64 (Go.bits .xor .i64 t611 t612) t613))) + (Go.bits .xor .i64 (Go.bits .and .i64 (rd x8_1 4) (rd x8_1 5)) (Go.bits .and .i64 (Go.bits .xor .i64 4294967295 (rd x8_1 4)) (rd x8_1 6))))) + (rd l2 x9_1))) + (rd t601 x9_1))) + (wrap64 ((Go.bits .xor .i64 (Go.bits .xor .i64 t620 t621) t622) + (Go.bits .xor .i64 (Go.bits .xor .i64 (Go.bits .and .i64 (rd x8_1 0) (rd x8_1 1)) (Go.bits .and .i64 (rd x8_1 0) (rd x8_1 2))) (Go.bits .and .i64 (rd x8_1 1) (rd x8_1 2))))))) 4294967295) [.int .i64 (Go.bits .and .i64 (wrap64 ((wrap64 ((wrap64 ((wrap64 ((wrap64 ((rd x8_1 7) + (Go.bits .xor .i64 (Go.bits .xor .i64 t611 t612) t613))) + (Go.bits .xor .i64 (Go.bits .and .i64 (rd x8_1 4) (rd x8_1 5)) (Go.bits .and .i64 (Go.bits .xor .i64 4294967295 (rd x8_1 4)) (rd x8_1 6))))) + (rd l2 x9_1))) + (rd t601 x9_1))) + (wrap64 ((Go.bits .xor .i64 (Go.bits .xor .i64 t620 t621) t622) + (Go.bits .xor .i64 (Go.bits .xor .i64 (Go.bits .and .i64 (rd x8_1 0) (rd x8_1 1)) (Go.bits .and .i64 (rd x8_1 0) (rd x8_1 2))) (Go.bits .and .i64 (rd x8_1 1) (rd x8_1 2))))))) 4294967295)] from rfl) (Reps.one (show Kd.M (Kd.int .i64) _ _ _ (rd x8_1 0) [.int .i64 (rd x8_1 0)] from rfl) (Reps.one (show Kd.M (Kd.int .i64) _ _ _ (rd x8_1 1) [.int .i64 (rd x8_1 1)] from rfl) (Reps.one (show Kd.M (Kd.int .i64) _ _ _ (rd x8_1 2) [.int .i64 (rd x8_1 2)] from rfl) (Reps.one (show Kd.M (Kd.int .i64) _ _ _ (Go.bits .and .i64 (wrap64 ((rd x8_1 3) + (wrap64 ((wrap64 ((wrap64 ((wrap64 ((rd x8_1 7) + (Go.bits .xor .i64 (Go.bits .xor .i64 t611 t612) t613))) + (Go.bits .xor .i64 (Go.bits .and .i64 (rd x8_1 4) (rd x8_1 5)) (Go.bits .and .i64 (Go.bits .xor .i64 4294967295 (rd x8_1 4)) (rd x8_1 6))))) + (rd l2 x9_1))) + (rd t601 x9_1))))) 4294967295) [.int .i64 (Go.bits .and .i64 (wrap64 ((rd x8_1 3) + (wrap64 ((wrap64 ((wrap64 ((wrap64 ((rd x8_1 7) + (Go.bits .xor .i64 (Go.bits .xor .i64 t611 t612) t613))) + (Go.bits .xor .i64 (Go.bits .and .i64 (rd x8_1 4) (rd x8_1 5)) (Go.bits .and .i64 (Go.bits .xor .i64 4294967295 (rd x8_1 4)) (rd x8_1 6))))) + (rd l2 x9_1))) + (rd t601 x9_1))))) 4294967295)] from rfl) (Reps.one (show Kd.M (Kd.int .i64) _ _ _ (rd x8_1 4) [.int .i64 (rd x8_1 4)] from rfl) (Reps.one (show Kd.M (Kd.int .i64) _ _ _ (rd x8_1 5) [.int .i64 (rd x8_1 5)] from rfl) (Reps.one (show Kd.M (Kd.int .i64) _ _ _ (rd x8_1 6) [.int .i64 (rd x8_1 6)] from rfl) (Reps.none _ _))))))))))
                intro v633 w34 ho35 hb hg_ hnew_
                have HS0_ := (hb.cell (World.block_lt_of_cell? _ _ (hHeld.1))).trans (hHeld.1)
                have HS1_ := (hb.cell (World.block_lt_of_cell? _ _ (hHeld.2.1))).trans (hHeld.2.1)
                have HS2_ := (hb.cell (World.block_lt_of_cell? _ _ (hHeld.2.2.1))).trans (hHeld.2.2.1)
                have HS3_ := (hb.cell (World.block_lt_of_cell? _ _ (hHeld.2.2.2.1))).trans (hHeld.2.2.2.1)
                have HS4_ := (hb.cell (World.block_lt_of_cell? _ _ (hHeld.2.2.2.2))).trans (hHeld.2.2.2.2)
                clear hg_ hnew_
                (first | rw [← Ny632.out] at ho35 | (simp only [Int.reduceToNat] at ho35; rw [← Ny632.out] at ho35))
                have n0_ := Aside0.mk (Kd.R_elder' (kr_ HO_7.out) (Kd.R_base ho35) hb)
                have n1_ := Aside0.mk (Kd.R_elder' (kr_ HO_8.out) (Kd.R_base ho35) hb)
                have n2_ := Aside0.mk (Kd.R_lower (Kd.R_new' (Kd.R_new' ho35 (Kd.R_lt (kr_ HO_7.out))) (Kd.R_lt (kr_ HO_8.out))) (below_size (bw_ HB)))
                have n3_ := Aside0.mk (below_step (bw_ HB) hb)
                clear HO_7
                clear HO_8
                clear HB
                have HO_7 := n0_
                have HO_8 := n1_
                have HO634 := n2_
                have HB := n3_
                clear n0_ n1_ n2_ n3_
                clear hb ho35
                refine hK.out _ _ ⟨HS0_, HS1_, HS2_, HS3_, HS4_⟩ (fun hHeld => ?_)
                clear hK K
                refine norm_ (a' := ?_) ?_ ?_
                rotate_left
                ·show Act.put _ (some 125) _ = _
                 simp only [Act.put, List.setIfInBounds_toArray, List.set_cons_zero, List.set_cons_succ, i64_w, i32_w]
                 rfl
                refine pt_ 25 8 67108863 ?_
                refine done_ (done_of HT_.out (by kernel_rfl)) ?_
                try go_wp2
                go_roundg k1
                case measure => have := HK1.out; omega
                case rel => exact ⟨(y632), (wrap64 (x9_1 + 1)), e1_, H', ⟨by have := HK1.out; omega⟩, ⟨by (with_reducible repeat (first | apply Kd.R_alloc | apply Kd.R_drewN | apply Kd.R_drew)); exact Kd.R_mono HO_7.out (fun _ hk => hk.2)⟩, ⟨by (with_reducible repeat (first | apply Kd.R_alloc | apply Kd.R_drewN | apply Kd.R_drew)); exact Kd.R_mono HO634.out (fun _ hk => hk.1.2)⟩, ⟨bw_ HB⟩⟩
               ·rw [if_neg c27] at H
                exact absurd H (by simp)
              ·rw [if_neg c26] at H
               exact absurd H (by simp)
             ·rw [if_neg c25] at H
              exact absurd H (by simp)
            ·rw [if_neg c21] at H
             exact absurd H (by simp)
           ·rw [if_neg c20] at H
            exact absurd H (by simp)
          ·rw [if_neg c19] at H
           exact absurd H (by simp)
         ·rw [if_neg c18] at H
          exact absurd H (by simp)
        ·rw [if_neg c17] at H
         exact absurd H (by simp)
       ·rw [if_neg c16] at H
        exact absurd H (by simp)
      ·rw [if_neg c15] at H
       exact absurd H (by simp)
     ·rw [if_neg c11] at H
      exact absurd H (by simp)
    ·rw [if_neg c10] at H
     have c10b0 := decide_eq_false c10
     clear c10
     have H' := Aside0.mk H
     clear H
     go_wp2
     go_loopg [18] k1 (fun kq v18 w' => ∃ (x8_2 : List Int) (x18_2 : Int), v18 = .int .i64 x18_2 ∧ Aside0 (spec_l2Block.l1 kq l0 x8_2 x18_2 = some r) ∧ Aside0 (kq ≤ k1) ∧ Aside0 (Kd.R (Kd.int .i64) 3 w' w.heap.size (fun _ => True) u8 x8_2) ∧ Aside0 (Below w.heap.size w w'))
     case atStart => exact ⟨(x8_1), (0), e1_, H', ⟨Nat.le_refl _⟩, ⟨by (with_reducible repeat (first | apply Kd.R_alloc | apply Kd.R_drewN | apply Kd.R_drew)); exact Kd.R_mono HO_8.out (fun _ hk => trivial)⟩, ⟨bw_ HB⟩⟩
     case round =>
      clear H'
      try clear c1
      try clear c2
      try clear p2
      try clear p6
      try clear q6
      try clear hx6
      try clear qi6
      try clear c10
      try clear c10b0
      try clear c11
      try clear c15
      try clear c16
      try clear c17
      try clear c18
      try clear c19
      try clear c20
      try clear c21
      try clear c25
      try clear c26
      try clear c27
      try clear hx619_0
      try clear hx623_0
      try clear hx624_0
      try clear hx625_0
      try clear hx626_0
      try clear hx627_0
      try clear hx628_0
      try clear hx629_0
      try clear hx630_0
      try clear hx631_0
      try clear p619
      try clear p623
      try clear p624
      try clear p625
      try clear p626
      try clear p627
      try clear p628
      try clear p629
      try clear p630
      try clear p631
      try clear q619
      try clear q623
      try clear q624
      try clear q625
      try clear q626
      try clear q627
      try clear q628
      try clear q629
      try clear q630
      try clear q631
      obtain ⟨x8_2, x18_2, rfl, HA, HK2, HO_8, HB⟩ := hrel
      cases gk with
      | zero => exact absurd HA.out (by simp [spec_l2Block.l1])
      | succ k2 =>
       have H := HA.out
       clear HA
       simp only [spec_l2Block.l1] at H
       by_cases c36 : x18_2 < 8
       ·rw [if_pos c36] at H
        have c36b0 := decide_eq_true c36
        clear c36
        by_cases c37 : 0 ≤ x18_2
        ·rw [if_pos c37] at H
         have c37b0 := decide_eq_true c37
         clear c37
         by_cases c38 : x18_2 < (x8_2.length : Int)
         ·rw [if_pos c38] at H
          have c38b0 := decide_eq_true c38
          clear c38
          by_cases c39 : x18_2 < (l0.length : Int)
          ·rw [if_pos c39] at H
           have c39b0 := decide_eq_true c39
           clear c39
           obtain ⟨y637, hy637⟩ : ∃ y_ : List Int, y_ = (x8_2.set (x18_2 : Int).toNat (Go.bits .and .i64 (wrap64 ((rd x8_2 x18_2) + (rd l0 x18_2))) 4294967295)) := ⟨_, rfl⟩
           replace H : (spec_l2Block.l1 k2 l0 y637 (wrap64 (x18_2 + 1))) = some r := by first | (rw [hy637]; with_reducible exact H) | (have H2_ := (Option.bind_some _ _).symm.trans H; rw [hy637]; with_reducible exact H2_) | (have H2_ := (Option.bind_some _ _).symm.trans H; with_reducible exact H2_) | with_reducible exact H | (rw [hy637]; exact H) | exact H
           have Ny637 := Aside0.mk hy637
           clear hy637
           have H' := Aside0.mk H
           clear H
           try go_wp2
           have n0_ := Aside0.mk (Kd.R_drew HO_8.out)
           have n1_ := Aside0.mk (below_drew1 HB.out)
           clear HO_8
           clear HB
           have HO_8 := n0_
           have HB := n1_
           clear n0_ n1_
           obtain ⟨Ao42, co42, eo42⟩ := Kd.R_slice HO_8.out
           (first | subst eo42 | (injection eo42 with f1_ f2_ f3_; have f4_ := f1_.symm; have f5_ := f3_.symm; clear f1_ f2_ f3_; subst f4_; subst f5_))
           have p635 : 0 ≤ (x18_2 : Int) := of_decide_eq_true as_
           have q635 : x18_2 < (x8_2.length : Int) := of_decide_eq_true as_
           obtain ⟨ad635, e635, hx635_0⟩ := Kd.at_int (Kd.R_reads' HO_8.out).2.2 x18_2 p635 q635
           cases e635
           replace p635 := eq_true p635
           replace q635 := eq_true q635
           have p636 : 0 ≤ (x18_2 : Int) := of_decide_eq_true as_
           have q636 : x18_2 < (l0.length : Int) := of_decide_eq_true as_
           obtain ⟨ad636, e636, hx636_0⟩ := Kd.at_int HR0.out x18_2 p636 q636
           have hw636_0 := hx636_0
           cases e636
           replace hx636_0 := (HB.out.cell (World.block_lt_of_cell? w _ hx636_0)).trans hx636_0
           replace p636 := eq_true p636
           replace q636 := eq_true q636
           have p40 : 0 ≤ (x18_2 : Int) := of_decide_eq_true as_
           have q40 : (x18_2 : Int) < ((x8_2.length : Int) : Int) := of_decide_eq_true as_
           obtain ⟨go40, co40, eo40, gb40, gl40, cl40, HG40⟩ := Kd.R_form HO_8.out (by omega)
           (first | cases eo40 | (injection eo40 with ea_ en_ ec_; (first | subst ea_ | (injection ea_ with ea_; subst ea_)); subst ec_; clear en_))
           have GB40 := Aside0.mk gb40
           have GG40 := Aside0.mk HG40
           clear gb40 gl40 HG40
           (first | simp only [add_plain] at hx635_0 | skip)
           obtain ⟨hx40_0, hf40_0⟩ := Kd.R_celln 0 HO_8.out (x18_2 : Int) p40 q40
           replace p40 := eq_true p40
           replace q40 := eq_true q40
           have HP43 := Kd.R_putn HO_8.out (x18_2 : Int) (Go.bits .and .i64 (wrap64 ((rd x8_2 x18_2) + (rd l0 x18_2))) 4294967295)
           rw [← Ny637.out] at HP43
           have HQ43 := Aside0.mk HP43
           clear HP43
           refine start_ (n := 14) (S := fun w' => w'.cell? ⟨go40, (x18_2).toNat, none⟩ = some (.int .i64 (rd x8_2 x18_2)) ∧ w'.cell? (ad636.add (x18_2).toNat) = some (.int .i64 (rd l0 x18_2))) (ds := [13]) (lz_ 14 0) (by kernel_rfl) rfl rfl ⟨hx635_0, ((HB.out.cell (World.block_lt_of_cell? w _ hw636_0)).trans hw636_0)⟩ (fun hHeld => ?_); refine with_tabW spec_l2Block.tab18 spec_l2Block.bits18 (fun HT_ HW_ => ?_)
           generalize wr.drew = w41 at HO_8 HB GG40 HQ43 hf40_0 hx40_0 hx635_0 hx636_0 hHeld ⊢
           refine pt_ 0 130 1 ?_
           refine pt_ 1 131 3 ?_
           refine pt_ 2 132 7 ?_
           refine pt_ 3 133 15 ?_
           refine pt_ 4 134 31 ?_
           refine pt_ 6 136 95 ?_
           refine pt_ 7 137 223 ?_
           refine pt_ 8 138 479 ?_
           refine tt_ 5 135 511 ?_
           refine tt_ 9 139 1023 ?_
           refine pt_ 10 140 2047 ?_
           refine pt_ 11 141 4095 ?_
           refine pt_ 12 142 8191 ?_
           refine last_ (i := 13) (N := none) (lz_ 14 16383) rfl rfl (one_of HT_.out (by kernel_rfl)) (by decide) (fun K hK => ?_)
           refine skip_ (w1 := ?_) (by rfl) rfl ?_ ?_
           rotate_left
           ·go_simp
            rfl
           refine hK.out _ _ ?_
           clear hK K
           refine done_ (done_of HT_.out (by kernel_rfl)) ?_
           try go_wp2
           go_roundg k2
           case measure => have := HK1.out; have := HK2.out; omega
           case rel => exact ⟨(y637), (wrap64 (x18_2 + 1)), e1_, H', ⟨by have := HK1.out; have := HK2.out; omega⟩, ⟨kr_ HQ43.out⟩, ⟨by repeat (first | (with_reducible first | exact HB.out | apply below_alloc | apply pw_below_drewN | apply below_drew1 | refine below_set ?_ GB40.out) | exact HB.out)⟩⟩
          ·rw [if_neg c39] at H
           exact absurd H (by simp)
         ·rw [if_neg c38] at H
          exact absurd H (by simp)
        ·rw [if_neg c37] at H
         exact absurd H (by simp)
       ·rw [if_neg c36] at H
        have c36b0 := decide_eq_false c36
        clear c36
        obtain rfl := Option.some.inj H
        go_wp2
        go_ret
        exact ⟨_, e2_, kr_ HO_8.out, bw_ HB⟩
 ·rw [if_neg c5] at H
  exact absurd H (by simp)
end Go.Proofs.Ytcogimnpffnanaa.Q
end
end
