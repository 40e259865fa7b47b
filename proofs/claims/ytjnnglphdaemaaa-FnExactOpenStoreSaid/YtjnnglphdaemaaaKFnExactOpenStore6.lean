-- Joined and shortened by a program of this session (wip/tools/shakecopy.py): the words of the print, texts of pp.sh and of mine.
import Derived.Test.YtjnnglphdaemaaaKFnExactOpenStore5
import Derived.Lib.SliceRun
section
-- Written by a program of this session (wip/tools/pp.sh) over the print of the kit.
namespace Go.Proofs.Ytjnnglphdaemaaa.Q
open Go.RowKit Go.Proofs.YtjnnglphdaemaaaW.PrintWords Go.Proofs.YtjnnglphdaemaaaW.PrintLast Go.Proofs.YtjnnglphdaemaaaW.PrintMore
attribute [local go_sem] max2_int min2_int max_two min_two max_three min_three max_four min_four   -- for this text's walks alone
set_option linter.unusedVariables false
set_option linter.unusedSimpArgs false
def impl_GetCommit.j0 : Nat → List Int → Int → Int → Int → Bool → Option (Int × ByteArray × List ByteArray × Int × Bool)
 | 0, _, _, _, _, _ => none
 | k + 1, x0, x1, x8, x9, x32 => if x32 = true then (some (0, (⟨#[]⟩ : ByteArray), ([] : List ByteArray), x1, false)) else (if 0 ≤ x9 then (if x9 ≤ (wrap64 (x9 + x8)) then (if (wrap64 (x9 + x8)) ≤ (x0.length : Int) then ((impl_getter_num.f k ((x0.take ((wrap64 (x9 + x8)) : Int).toNat).drop (x9 : Int).toNat) 0 false).bind fun bt607 => ((impl_getter_text.f k ((x0.take ((wrap64 (x9 + x8)) : Int).toNat).drop (x9 : Int).toNat) bt607.2.1 bt607.2.2).bind fun bt611 => ((impl_getter_texts.f k ((x0.take ((wrap64 (x9 + x8)) : Int).toNat).drop (x9 : Int).toNat) bt611.2.1 bt611.2.2).bind fun bt614 => (if bt614.2.2 = true then (some (0, (⟨#[]⟩ : ByteArray), ([] : List ByteArray), x1, false)) else ((impl_PutCommit.f k bt607.1 bt611.1 bt614.1).bind fun t619 => (if 0 ≤ x1 then (if x1 ≤ (wrap64 ((wrap64 (x9 + x8)) + 4)) then (if (wrap64 ((wrap64 (x9 + x8)) + 4)) ≤ (x0.length : Int) then ((bytes_Equal.f t619 ((x0.take ((wrap64 ((wrap64 (x9 + x8)) + 4)) : Int).toNat).drop (x1 : Int).toNat)).bind fun t623 => (if t623 = true then (some (bt607.1, bt611.1, bt614.1, wrap64 ((wrap64 (x9 + x8)) + 4), true)) else (some (0, (⟨#[]⟩ : ByteArray), ([] : List ByteArray), x1, false)))) else (none)) else (none)) else (none))))))) else (none)) else (none)) else (none))
def impl_GetCommit.f (k : Nat) (l0 : List Int) (a1 : Int) : Option (Int × ByteArray × List ByteArray × Int × Bool) := (impl_GetNum.f k l0 a1).bind fun bt602 => (if bt602.2.2 = true then (impl_GetCommit.j0 k l0 a1 bt602.1 bt602.2.1 (decide (bt602.1 > (wrap64 ((wrap64 ((l0.length : Int) - bt602.2.1)) - 4))))) else (impl_GetCommit.j0 k l0 a1 bt602.1 bt602.2.1 true))
theorem impl_GetCommit.mono_l : ∀ k, (∀ y0 y1 y2 y3 y4, LeO (impl_GetCommit.j0 k y0 y1 y2 y3 y4) (impl_GetCommit.j0 (k + 1) y0 y1 y2 y3 y4))
 | 0 => fun _ _ _ _ _ r h => by simp [impl_GetCommit.j0] at h
 | k + 1 => by
  have ih0 := impl_GetCommit.mono_l k
  ·intro y0 y1 y2 y3 y4
   unfold impl_GetCommit.j0
   repeat' (with_reducible first | exact LeO.refl _ | exact LeO.none _ | apply ih0 | apply impl_GetNum.mono | apply impl_PutCommit.mono | apply impl_getter_num.mono | apply impl_getter_text.mono | apply impl_getter_texts.mono | apply LeO.ite | refine LeO.bind ?_ fun _ => ?_)
theorem impl_GetCommit.mono : ∀ a0 a1 k, LeO (impl_GetCommit.f k a0 a1) (impl_GetCommit.f (k + 1) a0 a1) := by
 intro a0 a1 k
 have ih0 := impl_GetCommit.mono_l k
 unfold impl_GetCommit.f
 repeat' (with_reducible first | exact LeO.refl _ | exact LeO.none _ | apply ih0 | apply impl_GetNum.mono | apply impl_PutCommit.mono | apply impl_getter_num.mono | apply impl_getter_text.mono | apply impl_getter_texts.mono | apply LeO.ite | refine LeO.bind ?_ fun _ => ?_)
def impl_GetCommit.T9 : Bool × List (List Nat × List Nat) := (true, [([], []), ([0], [0]), ([1], [1]), ([2], [2]), ([2], [2]), ([3, 4, 2, 2], [2, 3, 4]), ([2], [2]), ([2], [2]), ([2], [2]), ([6, 7, 8, 2], [2, 6, 7, 8]), ([5, 9, 5, 2], [2, 5, 9]), ([10, 2], [2, 10]), ([2, 11], [2, 11])])
def impl_GetCommit.B9 : List Nat := [0, 1, 3, 7, 7, 31, 7, 7, 7, 455, 1023, 2047, 4095]
theorem impl_GetCommit.tab9 : rtab .any (opsOf Try.f68 9) = impl_GetCommit.T9 := by kernel_rfl
theorem impl_GetCommit.bits9 : waitsOk impl_GetCommit.T9.2 impl_GetCommit.B9 = true := by kernel_rfl
set_option maxHeartbeats 8000000 in
set_option maxRecDepth 100000 in
theorem impl_GetCommit.calls (k : Nat) (A0 : Option Addr) (c0 : Nat) (l0 : List Int) (a1 : Int) (r1 : Int) (r2 : ByteArray) (r3 : List ByteArray) (r4 : Int) (r5 : Bool) (w : World) (hr0 : Kd.C (Kd.int .u8) w A0 l0.length l0) (hc0 : l0.length ≤ c0) (h : impl_GetCommit.f k l0 a1 = some (r1, r2, r3, r4, r5)) :
  Calls Try.prog 68 #[.slice A0 l0.length c0, .int .i64 a1] w fun e w' => ∃ v2_ : Value, e = .returned (.tuple #[.agg #[.int .i64 r1, .string r2], v2_, .int .i64 r4, .bool r5]) ∧ Kd.R Kd.string 9 w' w.heap.size (fun _ => True) v2_ r3 ∧ Below w.heap.size w w' := by
 have hu28 := Try.underlying28
 have hu126 := Try.underlying126
 have HR0 := Aside0.mk hr0
 have HC0 := Aside0.mk hc0
 clear hr0 hc0
 have HB := Aside0.mk (Below.refl w.heap.size w)
 have H : ((impl_GetNum.f k l0 a1).bind fun bt602 => (if bt602.2.2 = true then (impl_GetCommit.j0 k l0 a1 bt602.1 bt602.2.1 (decide (bt602.1 > (wrap64 ((wrap64 ((l0.length : Int) - bt602.2.1)) - 4))))) else (impl_GetCommit.j0 k l0 a1 bt602.1 bt602.2.1 true))) = some (r1, r2, r3, r4, r5) := h
 clear h
 replace H := bi_ H; obtain ⟨⟨t602, t603, t604⟩, A3, H⟩ := H
 dsimp only at H
 have HC4 := Aside0.mk H
 clear H
 go_enter Try.func68, Try.ntmps68
 go_upto_region 2 with (first | ((with_reducible refine gd_ 4 ?_); (try (refine gate_guard (by rfl) ?_; dsimp only)); refine bx_ 4 28 #[.int .i64 0, .string (⟨#[]⟩ : ByteArray)] ?_; intro gb601 hg w5 hbox hb; have BK601 := Aside0.mk hbox; have GW601 := gg_ hg HB; have GE601 := GW601; replace HB := ss_ HB hb; clear hb hbox hg) | ((with_reducible refine gq_ 108 18 ?_); refine gc_ 18 Try.func108 (impl_GetNum.calls k _ _ l0 a1 t602 t603 t604 _ (cb_ HR0 HB) HC0.out A3.out) ?_; rintro e w' ⟨rfl, ⟨nd, rfl⟩⟩; refine ⟨_, rfl, ?_⟩))
 (try simp only [Act.put, List.setIfInBounds_toArray, List.set_cons_zero, List.set_cons_succ])
 go_cut [32] (fun v32 wc => ∃ (kq : Nat) (x32_3 : Bool), v32 = .bool x32_3 ∧ Aside0 (impl_GetCommit.j0 kq l0 a1 t602 t603 x32_3 = some (r1, r2, r3, r4, r5)) ∧ Aside0 (kq ≤ k) ∧ Aside0 (wc.heap[gb601]? = some (.cells #[.int .i64 0, .string (⟨#[]⟩ : ByteArray)] 28 (0, 0))) ∧ Aside0 (Below w.heap.size w wc))
 case first =>
  have H := HC4.out
  clear HC4
  replace H := itb_ H; obtain ⟨rfl, H⟩ | ⟨rfl, H⟩ := H
  ·have H' := Aside0.mk H
   clear H
   go_wp2
   go_meet
   case rel => exact ⟨_, (decide (t602 > (wrap64 ((wrap64 ((l0.length : Int) - t603)) - 4)))), e1_, H', ⟨le_⟩, ⟨kb_ BK601.out⟩, ⟨bw_ HB⟩⟩
  ·have H' := Aside0.mk H
   clear H
   go_wp2
   go_meet
   case rel => exact ⟨_, (true), e1_, H', ⟨le_⟩, ⟨kb_ BK601.out⟩, ⟨bw_ HB⟩⟩
 case rest =>
  clear HC4
  obtain ⟨kq, x32_3, rfl, HA, HJ3, BK601, HB⟩ := hcut
  cases kq with
  | zero => exact absurd HA.out (by simp [impl_GetCommit.j0])
  | succ kj3 =>
   have H := HA.out
   clear HA
   simp only [impl_GetCommit.j0] at H
   replace H := itb_ H; obtain ⟨rfl, H⟩ | ⟨rfl, H⟩ := H
   ·replace H := so5_ H; obtain ⟨rfl, rfl, rfl, rfl, rfl⟩ := H
    have hz8 := cz2_ BK601
    go_wp2
    refine bodyPost_ret (results_list (rs := [.cell 4 28, .tmp 5, .tmp 6, .tmp 7]) rfl (by simp) (.cell gb601 28 #[.int .i64 0, .string (⟨#[]⟩ : ByteArray)] (0, 0) _ rfl (by exact kq_ BK601) Try.underlying28 rfl (by kernel_rfl) (.tmp (.tmp (.tmp .nil))))) rfl ?_
    exact ⟨_, e2_, by first | exact Kd.R_nil _ _ _ _ _ | exact Kd.N_nil _ _ _ _ _ | exact Kd.V_nil _ _ _ _ _ | exact Kd.Q_nil _ _ _ _ _ | exact Kd.S_nil _ _ _ _ _, bw_ HB⟩
   ·replace H := ip_ H; obtain ⟨c9, H⟩ := H
    have c9b0 := eq_true c9
    have c9b1 := decide_eq_true c9
    clear c9
    replace H := ip_ H; obtain ⟨c10, H⟩ := H
    have c10b0 := eq_true c10
    have c10b1 := decide_eq_true c10
    replace H := ip_ H; obtain ⟨c11, H⟩ := H
    have c11b0 := eq_true c11
    have c11b1 := decide_eq_true c11
    replace H := bi_ H; obtain ⟨⟨t607, t608, t609⟩, A12, H⟩ := H
    dsimp only at H
    replace H := bi_ H; obtain ⟨⟨t611, t612, t613⟩, A13, H⟩ := H
    dsimp only at H
    replace H := bi_ H; obtain ⟨⟨t614, t617, t618⟩, A14, H⟩ := H
    dsimp only at H
    replace H := itb_ H; obtain ⟨rfl, H⟩ | ⟨rfl, H⟩ := H
    ·replace H := so5_ H; obtain ⟨rfl, rfl, rfl, rfl, rfl⟩ := H
     obtain ⟨i016, hi016, _, hsz16, _⟩ := info_parts info5
     obtain ⟨A16, hcut16, hA16, hC16⟩ := print_mid_of (P := Try.prog) (Value.int .u8) 0 22 5 .i64 .i64 Try.underlying22 hi016 hsz16 A0 c0 l0 t603 (wrap64 (t603 + t602)) (of_decide_eq_true as_) (by first | omega | exact of_decide_eq_true as_) (of_decide_eq_true as_) HC0.out
     have HR605 := Aside0.mk (Kd.C_of_reads (h1 := fun _ => rfl) (hA16 _ (Kd.reads_of_C HR0.out)))
     have HC605 := Aside0.mk hC16
     clear hA16 hC16 hi016 hsz16
     try go_wp2_with (first | ((with_reducible refine gd_ 12 ?_); (try (refine gate_guard (by rfl) ?_; dsimp only)); refine bx_ 12 126 #[.slice none 0 0, .int .i64 0, .bool false] ?_; intro gb606 hg w17 hbox hb; have BK606 := Aside0.mk hbox; have GW606 := gg_ hg HB; have GE606 := GW606; replace HB := ss_ HB hb; have NB601_606 := Aside0.mk ((by rw [hg]; exact Nat.ne_of_lt (blk_lt (kb_ BK601.out)) : gb601 ≠ gb606)); have NB606_601 := Aside0.mk ((by rw [hg]; exact Nat.ne_of_gt (blk_lt (kb_ BK601.out)) : gb606 ≠ gb601)); replace BK601 := kl_ BK601 hb; clear hb hbox hg; have hnb18 := NB606_601.out; have hnc18 := NB601_606.out; have hz19 := cz3_ BK606) | ((with_reducible refine gk_ 109 ?_); refine gl_ 46 Try.func109 #[.pointer (some ⟨gb606, 0, none⟩)] ?_; refine IsS126.called (w0 := w) (g := gb606) (f0 := (l0.take ((wrap64 (t603 + t602)) : Int).toNat).drop (t603 : Int).toNat) (f1 := 0) (f2 := false) ⟨_, _, by (rw [show ((l0.take ((wrap64 (t603 + t602)) : Int).toNat).drop (t603 : Int).toNat).length = ((wrap64 (t603 + t602)).toNat - t603.toNat) from (by rw [List.length_drop, List.length_take]; have h_ : ((wrap64 (t603 + t602)) : Int) ≤ (l0.length : Int) := of_decide_eq_true as_; omega)]); refine kb_ ?_; refine blk_put (cs := #[.slice A16 ((wrap64 (t603 + t602)).toNat - t603.toNat) (c0 - t603.toNat), .int .i64 0, .bool false]) ?_ 2 _ rfl; refine kb_ ?_; refine blk_put (cs := #[.slice A16 ((wrap64 (t603 + t602)).toNat - t603.toNat) (c0 - t603.toNat), .int .i64 0, .bool false]) ?_ 1 _ rfl; refine kb_ ?_; refine blk_put (cs := #[.slice none 0 0, .int .i64 0, .bool false]) ?_ 0 _ rfl; refine kb_ ?_; exact BK606.out, GW606.out, HR605.out, HC605.out⟩ (fun HI606 => ?_); (with_reducible refine (impl_getter_num.calls kj3 gb606 ((l0.take ((wrap64 (t603 + t602)) : Int).toNat).drop (t603 : Int).toNat) 0 false t607 t608 t609 w _ ?side1 ?side2 A12.out).mono ?_); (case side1 => repeat (first | (with_reducible first | exact HI606.out | apply IsS126.alloc | apply IsS126.drewN | apply IsS126.drew | apply IsS126.set_1 | apply IsS126.set_2 | refine IsS126.far ?_ NB606_601.out _) | exact HI606.out)); (case side2 => repeat (first | (with_reducible first | exact HB.out | apply below_alloc | apply pw_below_drewN | apply below_drew1 | refine below_set ?_ (IsS126.ge HI606.out) | refine below_set ?_ GE601.out) | exact HB.out)); rintro e w20 ⟨rfl, hi, hb, hk⟩; refine ⟨_, rfl, ?_⟩; replace BK601 := Aside0.mk (KeepBut.blk hk (g' := gb601) (o := .cells #[.int .i64 0, .string (⟨#[]⟩ : ByteArray)] 28 (0, 0)) (kq_ BK601) NB601_606.out (by simp)); replace HB := Aside0.mk hb; replace HI606 := Aside0.mk hi; clear hb hk hi) | ((with_reducible refine gd_ 13 ?_); (try (refine gate_guard (by rfl) ?_; dsimp only)); refine bx_ 13 28 #[.int .i64 0, .string (⟨#[]⟩ : ByteArray)] ?_; intro gb610 hg w21 hbox hb; have BK610 := Aside0.mk hbox; have GW610 := Aside0.mk (gz_ hg (below_size (bs2_ HB (IsS126.ge HI606.out) GE601.out))); have GE610 := Aside0.mk (gz_ hg (below_size (bs2_ HB (IsS126.ge HI606.out) GE601.out))); replace HB := Aside0.mk (below_step (bs2_ HB (IsS126.ge HI606.out) GE601.out) hb); have NB601_610 := Aside0.mk ((by rw [hg]; exact Nat.ne_of_lt (blk_lt (kb_ BK601.out)) : gb601 ≠ gb610)); have NB610_601 := Aside0.mk ((by rw [hg]; exact Nat.ne_of_gt (blk_lt (kb_ BK601.out)) : gb610 ≠ gb601)); replace BK601 := kl_ BK601 hb; have NB606_610 := Aside0.mk ((by rw [hg]; exact Nat.ne_of_lt (IsS126.lt (show IsS126 w _ gb606 ((l0.take ((wrap64 (t603 + t602)) : Int).toNat).drop (t603 : Int).toNat) t608 t609 from by repeat (first | (with_reducible first | exact HI606.out | apply IsS126.alloc | apply IsS126.drewN | apply IsS126.drew | apply IsS126.set_1 | apply IsS126.set_2 | refine IsS126.far ?_ NB606_601.out _) | exact HI606.out))) : gb606 ≠ gb610)); have NB610_606 := Aside0.mk ((by rw [hg]; exact Nat.ne_of_gt (IsS126.lt (show IsS126 w _ gb606 ((l0.take ((wrap64 (t603 + t602)) : Int).toNat).drop (t603 : Int).toNat) t608 t609 from by repeat (first | (with_reducible first | exact HI606.out | apply IsS126.alloc | apply IsS126.drewN | apply IsS126.drew | apply IsS126.set_1 | apply IsS126.set_2 | refine IsS126.far ?_ NB606_601.out _) | exact HI606.out))) : gb610 ≠ gb606)); replace HI606 := Aside0.mk (IsS126.below (by repeat (first | (with_reducible first | exact HI606.out | apply IsS126.alloc | apply IsS126.drewN | apply IsS126.drew | apply IsS126.set_1 | apply IsS126.set_2 | refine IsS126.far ?_ NB606_601.out _) | exact HI606.out)) hb); clear hb hbox hg; have hnb22 := NB610_601.out; have hnc22 := NB601_610.out; have hnb23 := NB610_606.out; have hnc23 := NB606_610.out; have hz24 := cz2_ BK610) | ((with_reducible refine gk_ 110 ?_); refine gl_ 48 Try.func110 #[.pointer (some ⟨gb606, 0, none⟩)] ?_; (with_reducible refine (impl_getter_text.calls kj3 gb606 ((l0.take ((wrap64 (t603 + t602)) : Int).toNat).drop (t603 : Int).toNat) t608 t609 t611 t612 t613 w _ ?side1 ?side2 A13.out).mono ?_); (case side1 => repeat (first | (with_reducible first | exact HI606.out | apply IsS126.alloc | apply IsS126.drewN | apply IsS126.drew | apply IsS126.set_1 | apply IsS126.set_2 | refine IsS126.far ?_ NB606_601.out _ | refine IsS126.far ?_ NB606_610.out _) | exact HI606.out)); (case side2 => repeat (first | (with_reducible first | exact HB.out | apply below_alloc | apply pw_below_drewN | apply below_drew1 | refine below_set ?_ (IsS126.ge HI606.out) | refine below_set ?_ GE601.out | refine below_set ?_ GE610.out) | exact HB.out)); rintro e w25 ⟨rfl, hi, hb, hk⟩; refine ⟨_, rfl, ?_⟩; replace BK601 := Aside0.mk (KeepBut.blk hk (g' := gb601) (o := .cells #[.int .i64 0, .string (⟨#[]⟩ : ByteArray)] 28 (0, 0)) (kq_ BK601) NB601_606.out (by simp)); replace BK610 := Aside0.mk (KeepBut.blk hk (g' := gb610) (o := .cells #[.int .i64 t607, .string (⟨#[]⟩ : ByteArray)] 28 (0, 0)) (kq_ BK610) NB610_606.out (by simp)); replace HB := Aside0.mk hb; replace HI606 := Aside0.mk hi; clear hb hk hi; have hz26 := cz2_ BK610) | ((with_reducible refine gk_ 111 ?_); refine gl_ 50 Try.func111 #[.pointer (some ⟨gb606, 0, none⟩)] ?_; (with_reducible refine (impl_getter_texts.calls kj3 gb606 ((l0.take ((wrap64 (t603 + t602)) : Int).toNat).drop (t603 : Int).toNat) t612 t613 t614 t617 true w _ ?side1 ?side2 A14.out).mono ?_); (case side1 => repeat (first | (with_reducible first | exact HI606.out | apply IsS126.alloc | apply IsS126.drewN | apply IsS126.drew | apply IsS126.set_1 | apply IsS126.set_2 | refine IsS126.far ?_ NB606_601.out _ | refine IsS126.far ?_ NB606_610.out _) | exact HI606.out)); (case side2 => repeat (first | (with_reducible first | exact HB.out | apply below_alloc | apply pw_below_drewN | apply below_drew1 | refine below_set ?_ (IsS126.ge HI606.out) | refine below_set ?_ GE601.out | refine below_set ?_ GE610.out) | exact HB.out)); rintro e w27 ⟨v615, rfl, ho0, hi, hb, hk⟩; refine ⟨_, rfl, ?_⟩; replace BK601 := Aside0.mk (KeepBut.blk hk (g' := gb601) (o := .cells #[.int .i64 0, .string (⟨#[]⟩ : ByteArray)] 28 (0, 0)) (kq_ BK601) NB601_606.out (by simp)); replace BK610 := Aside0.mk (KeepBut.blk hk (g' := gb610) (o := .cells #[.int .i64 t607, .string t611] 28 (0, 0)) (kq_ BK610) NB610_606.out (by simp)); have HO616 := Aside0.mk (Kd.R_lower ho0 (below_size (bs3_ HB (IsS126.ge HI606.out) GE601.out GE610.out))); replace HB := Aside0.mk hb; replace HI606 := Aside0.mk hi; clear hb hk hi ho0))
     obtain ⟨Aq28_0, cq28_0, hb_, hg_, hrq28_0, hqq28_0⟩ := HI606.out
     have BK606 := Aside0.mk hb_
     have HRq28_0 := Aside0.mk hrq28_0
     have HCq28_0 := Aside0.mk hqq28_0
     clear hb_ hg_ hrq28_0 hqq28_0 HI606
     replace HO616 := Aside0.mk (Kd.R_drew HO616.out)
     replace BK601 := Aside0.mk (blk_drew BK601.out)
     replace BK606 := Aside0.mk (blk_drew BK606.out)
     replace BK610 := Aside0.mk (blk_drew BK610.out)
     replace HB := Aside0.mk (below_drew1 HB.out)
     refine start_ (n := 13) (S := fun w' => w'.cell? ⟨gb606, 0, none⟩ = some (.slice Aq28_0 ((l0.take ((wrap64 (t603 + t602)) : Int).toNat).drop (t603 : Int).toNat).length cq28_0) ∧ w'.cell? ⟨gb606, 1, none⟩ = some (.int .i64 t617) ∧ w'.cell? ⟨gb606, 2, none⟩ = some (.bool true)) (ds := []) (lz_ 13 0) (by kernel_rfl) rfl rfl ⟨bc0_ BK606.out, bc1_ BK606.out, bc2_ BK606.out⟩ (fun hHeld => ?_); refine with_tabW impl_GetCommit.tab9 impl_GetCommit.bits9 (fun HT_ HW_ => ?_)
     generalize w27.drew = w29 at HO616 BK601 BK606 BK610 HB hHeld ⊢
     refine pt_ 0 51 1 ?_
     refine tt_ 1 52 3 ?_
     refine pt_ 2 53 7 ?_
     refine ut_ 3 54 15 ?_
     refine ut_ 4 55 31 ?_
     refine ut_ 5 56 63 ?_
     refine ut_ 6 57 127 ?_
     refine ut_ 7 58 255 ?_
     refine ut_ 8 59 511 ?_
     refine ut_ 9 60 1023 ?_
     refine ut_ 10 61 2047 ?_
     refine ut_ 11 62 4095 ?_
     refine pt_ 12 63 8191 ?_
     refine done_ (done_of HT_.out (by kernel_rfl)) ?_
     have hz30 := cz2_ BK601
     try go_wp2
     refine bodyPost_ret (results_list (rs := [.cell 4 28, .tmp 5, .tmp 6, .tmp 7]) rfl (by simp) (.cell gb601 28 #[.int .i64 0, .string (⟨#[]⟩ : ByteArray)] (0, 0) _ rfl (by exact kq_ BK601) Try.underlying28 rfl (by kernel_rfl) (.tmp (.tmp (.tmp .nil))))) rfl ?_
     exact ⟨_, e2_, by first | exact Kd.R_nil _ _ _ _ _ | exact Kd.N_nil _ _ _ _ _ | exact Kd.V_nil _ _ _ _ _ | exact Kd.Q_nil _ _ _ _ _ | exact Kd.S_nil _ _ _ _ _, bw_ HB⟩
    ·replace H := bi_ H; obtain ⟨t619, A31, H⟩ := H
     replace H := ip_ H; obtain ⟨c32, H⟩ := H
     have c32b0 := eq_true c32
     have c32b1 := decide_eq_true c32
     clear c32
     replace H := ip_ H; obtain ⟨c33, H⟩ := H
     have c33b0 := eq_true c33
     have c33b1 := decide_eq_true c33
     replace H := ip_ H; obtain ⟨c34, H⟩ := H
     have c34b0 := eq_true c34
     have c34b1 := decide_eq_true c34
     replace H := bi_ H; obtain ⟨t623, A35, H⟩ := H
     replace H := itb_ H; obtain ⟨rfl, H⟩ | ⟨rfl, H⟩ := H
     ·replace H := so5_ H; obtain ⟨rfl, rfl, rfl, rfl, rfl⟩ := H
      obtain ⟨i037, hi037, _, hsz37, _⟩ := info_parts info5
      obtain ⟨A37, hcut37, hA37, hC37⟩ := print_mid_of (P := Try.prog) (Value.int .u8) 0 22 5 .i64 .i64 Try.underlying22 hi037 hsz37 A0 c0 l0 t603 (wrap64 (t603 + t602)) (of_decide_eq_true as_) (by first | omega | exact of_decide_eq_true as_) (of_decide_eq_true as_) HC0.out
      have HR605 := Aside0.mk (Kd.C_of_reads (h1 := fun _ => rfl) (hA37 _ (Kd.reads_of_C HR0.out)))
      have HC605 := Aside0.mk hC37
      clear hA37 hC37 hi037 hsz37
      try go_wp2_with (first | ((with_reducible refine gd_ 12 ?_); (try (refine gate_guard (by rfl) ?_; dsimp only)); refine bx_ 12 126 #[.slice none 0 0, .int .i64 0, .bool false] ?_; intro gb606 hg w38 hbox hb; have BK606 := Aside0.mk hbox; have GW606 := gg_ hg HB; have GE606 := GW606; replace HB := ss_ HB hb; have NB601_606 := Aside0.mk ((by rw [hg]; exact Nat.ne_of_lt (blk_lt (kb_ BK601.out)) : gb601 ≠ gb606)); have NB606_601 := Aside0.mk ((by rw [hg]; exact Nat.ne_of_gt (blk_lt (kb_ BK601.out)) : gb606 ≠ gb601)); replace BK601 := kl_ BK601 hb; clear hb hbox hg; have hnb39 := NB606_601.out; have hnc39 := NB601_606.out; have hz40 := cz3_ BK606) | ((with_reducible refine gk_ 109 ?_); refine gl_ 46 Try.func109 #[.pointer (some ⟨gb606, 0, none⟩)] ?_; refine IsS126.called (w0 := w) (g := gb606) (f0 := (l0.take ((wrap64 (t603 + t602)) : Int).toNat).drop (t603 : Int).toNat) (f1 := 0) (f2 := false) ⟨_, _, by (rw [show ((l0.take ((wrap64 (t603 + t602)) : Int).toNat).drop (t603 : Int).toNat).length = ((wrap64 (t603 + t602)).toNat - t603.toNat) from (by rw [List.length_drop, List.length_take]; have h_ : ((wrap64 (t603 + t602)) : Int) ≤ (l0.length : Int) := of_decide_eq_true as_; omega)]); refine kb_ ?_; refine blk_put (cs := #[.slice A37 ((wrap64 (t603 + t602)).toNat - t603.toNat) (c0 - t603.toNat), .int .i64 0, .bool false]) ?_ 2 _ rfl; refine kb_ ?_; refine blk_put (cs := #[.slice A37 ((wrap64 (t603 + t602)).toNat - t603.toNat) (c0 - t603.toNat), .int .i64 0, .bool false]) ?_ 1 _ rfl; refine kb_ ?_; refine blk_put (cs := #[.slice none 0 0, .int .i64 0, .bool false]) ?_ 0 _ rfl; refine kb_ ?_; exact BK606.out, GW606.out, HR605.out, HC605.out⟩ (fun HI606 => ?_); (with_reducible refine (impl_getter_num.calls kj3 gb606 ((l0.take ((wrap64 (t603 + t602)) : Int).toNat).drop (t603 : Int).toNat) 0 false t607 t608 t609 w _ ?side1 ?side2 A12.out).mono ?_); (case side1 => repeat (first | (with_reducible first | exact HI606.out | apply IsS126.alloc | apply IsS126.drewN | apply IsS126.drew | apply IsS126.set_1 | apply IsS126.set_2 | refine IsS126.far ?_ NB606_601.out _) | exact HI606.out)); (case side2 => repeat (first | (with_reducible first | exact HB.out | apply below_alloc | apply pw_below_drewN | apply below_drew1 | refine below_set ?_ (IsS126.ge HI606.out) | refine below_set ?_ GE601.out) | exact HB.out)); rintro e w41 ⟨rfl, hi, hb, hk⟩; refine ⟨_, rfl, ?_⟩; replace BK601 := Aside0.mk (KeepBut.blk hk (g' := gb601) (o := .cells #[.int .i64 0, .string (⟨#[]⟩ : ByteArray)] 28 (0, 0)) (kq_ BK601) NB601_606.out (by simp)); replace HB := Aside0.mk hb; replace HI606 := Aside0.mk hi; clear hb hk hi) | ((with_reducible refine gd_ 13 ?_); (try (refine gate_guard (by rfl) ?_; dsimp only)); refine bx_ 13 28 #[.int .i64 0, .string (⟨#[]⟩ : ByteArray)] ?_; intro gb610 hg w42 hbox hb; have BK610 := Aside0.mk hbox; have GW610 := Aside0.mk (gz_ hg (below_size (bs2_ HB (IsS126.ge HI606.out) GE601.out))); have GE610 := Aside0.mk (gz_ hg (below_size (bs2_ HB (IsS126.ge HI606.out) GE601.out))); replace HB := Aside0.mk (below_step (bs2_ HB (IsS126.ge HI606.out) GE601.out) hb); have NB601_610 := Aside0.mk ((by rw [hg]; exact Nat.ne_of_lt (blk_lt (kb_ BK601.out)) : gb601 ≠ gb610)); have NB610_601 := Aside0.mk ((by rw [hg]; exact Nat.ne_of_gt (blk_lt (kb_ BK601.out)) : gb610 ≠ gb601)); replace BK601 := kl_ BK601 hb; have NB606_610 := Aside0.mk ((by rw [hg]; exact Nat.ne_of_lt (IsS126.lt (show IsS126 w _ gb606 ((l0.take ((wrap64 (t603 + t602)) : Int).toNat).drop (t603 : Int).toNat) t608 t609 from by repeat (first | (with_reducible first | exact HI606.out | apply IsS126.alloc | apply IsS126.drewN | apply IsS126.drew | apply IsS126.set_1 | apply IsS126.set_2 | refine IsS126.far ?_ NB606_601.out _) | exact HI606.out))) : gb606 ≠ gb610)); have NB610_606 := Aside0.mk ((by rw [hg]; exact Nat.ne_of_gt (IsS126.lt (show IsS126 w _ gb606 ((l0.take ((wrap64 (t603 + t602)) : Int).toNat).drop (t603 : Int).toNat) t608 t609 from by repeat (first | (with_reducible first | exact HI606.out | apply IsS126.alloc | apply IsS126.drewN | apply IsS126.drew | apply IsS126.set_1 | apply IsS126.set_2 | refine IsS126.far ?_ NB606_601.out _) | exact HI606.out))) : gb610 ≠ gb606)); replace HI606 := Aside0.mk (IsS126.below (by repeat (first | (with_reducible first | exact HI606.out | apply IsS126.alloc | apply IsS126.drewN | apply IsS126.drew | apply IsS126.set_1 | apply IsS126.set_2 | refine IsS126.far ?_ NB606_601.out _) | exact HI606.out)) hb); clear hb hbox hg; have hnb43 := NB610_601.out; have hnc43 := NB601_610.out; have hnb44 := NB610_606.out; have hnc44 := NB606_610.out; have hz45 := cz2_ BK610) | ((with_reducible refine gk_ 110 ?_); refine gl_ 48 Try.func110 #[.pointer (some ⟨gb606, 0, none⟩)] ?_; (with_reducible refine (impl_getter_text.calls kj3 gb606 ((l0.take ((wrap64 (t603 + t602)) : Int).toNat).drop (t603 : Int).toNat) t608 t609 t611 t612 t613 w _ ?side1 ?side2 A13.out).mono ?_); (case side1 => repeat (first | (with_reducible first | exact HI606.out | apply IsS126.alloc | apply IsS126.drewN | apply IsS126.drew | apply IsS126.set_1 | apply IsS126.set_2 | refine IsS126.far ?_ NB606_601.out _ | refine IsS126.far ?_ NB606_610.out _) | exact HI606.out)); (case side2 => repeat (first | (with_reducible first | exact HB.out | apply below_alloc | apply pw_below_drewN | apply below_drew1 | refine below_set ?_ (IsS126.ge HI606.out) | refine below_set ?_ GE601.out | refine below_set ?_ GE610.out) | exact HB.out)); rintro e w46 ⟨rfl, hi, hb, hk⟩; refine ⟨_, rfl, ?_⟩; replace BK601 := Aside0.mk (KeepBut.blk hk (g' := gb601) (o := .cells #[.int .i64 0, .string (⟨#[]⟩ : ByteArray)] 28 (0, 0)) (kq_ BK601) NB601_606.out (by simp)); replace BK610 := Aside0.mk (KeepBut.blk hk (g' := gb610) (o := .cells #[.int .i64 t607, .string (⟨#[]⟩ : ByteArray)] 28 (0, 0)) (kq_ BK610) NB610_606.out (by simp)); replace HB := Aside0.mk hb; replace HI606 := Aside0.mk hi; clear hb hk hi; have hz47 := cz2_ BK610) | ((with_reducible refine gk_ 111 ?_); refine gl_ 50 Try.func111 #[.pointer (some ⟨gb606, 0, none⟩)] ?_; (with_reducible refine (impl_getter_texts.calls kj3 gb606 ((l0.take ((wrap64 (t603 + t602)) : Int).toNat).drop (t603 : Int).toNat) t612 t613 t614 t617 false w _ ?side1 ?side2 A14.out).mono ?_); (case side1 => repeat (first | (with_reducible first | exact HI606.out | apply IsS126.alloc | apply IsS126.drewN | apply IsS126.drew | apply IsS126.set_1 | apply IsS126.set_2 | refine IsS126.far ?_ NB606_601.out _ | refine IsS126.far ?_ NB606_610.out _) | exact HI606.out)); (case side2 => repeat (first | (with_reducible first | exact HB.out | apply below_alloc | apply pw_below_drewN | apply below_drew1 | refine below_set ?_ (IsS126.ge HI606.out) | refine below_set ?_ GE601.out | refine below_set ?_ GE610.out) | exact HB.out)); rintro e w48 ⟨v615, rfl, ho0, hi, hb, hk⟩; refine ⟨_, rfl, ?_⟩; replace BK601 := Aside0.mk (KeepBut.blk hk (g' := gb601) (o := .cells #[.int .i64 0, .string (⟨#[]⟩ : ByteArray)] 28 (0, 0)) (kq_ BK601) NB601_606.out (by simp)); replace BK610 := Aside0.mk (KeepBut.blk hk (g' := gb610) (o := .cells #[.int .i64 t607, .string t611] 28 (0, 0)) (kq_ BK610) NB610_606.out (by simp)); have HO616 := Aside0.mk (Kd.R_lower ho0 (below_size (bs3_ HB (IsS126.ge HI606.out) GE601.out GE610.out))); replace HB := Aside0.mk hb; replace HI606 := Aside0.mk hi; clear hb hk hi ho0))
      obtain ⟨Aq49_0, cq49_0, hb_, hg_, hrq49_0, hqq49_0⟩ := HI606.out
      have BK606 := Aside0.mk hb_
      have HRq49_0 := Aside0.mk hrq49_0
      have HCq49_0 := Aside0.mk hqq49_0
      clear hb_ hg_ hrq49_0 hqq49_0 HI606
      replace HO616 := Aside0.mk (Kd.R_drew HO616.out)
      replace BK601 := Aside0.mk (blk_drew BK601.out)
      replace BK606 := Aside0.mk (blk_drew BK606.out)
      replace BK610 := Aside0.mk (blk_drew BK610.out)
      replace HB := Aside0.mk (below_drew1 HB.out)
      obtain ⟨i051, hi051, _, hsz51, _⟩ := info_parts info5
      obtain ⟨A51, hcut51, hA51, hC51⟩ := print_mid_of (P := Try.prog) (Value.int .u8) 0 22 5 .i64 .i64 Try.underlying22 hi051 hsz51 A0 c0 l0 a1 (wrap64 ((wrap64 (t603 + t602)) + 4)) (of_decide_eq_true as_) (by first | omega | exact of_decide_eq_true as_) (of_decide_eq_true as_) HC0.out
      have HR622 := Aside0.mk (Kd.C_of_reads (h1 := fun _ => rfl) (hA51 _ (Kd.reads_of_C HR0.out)))
      have HC622 := Aside0.mk hC51
      clear hA51 hC51 hi051 hsz51
      obtain ⟨Ao52, co52, eo52⟩ := Kd.R_slice HO616.out
      (first | subst eo52 | (injection eo52 with f1_ f2_ f3_; have f4_ := f1_.symm; have f5_ := f3_.symm; clear f1_ f2_ f3_; subst f4_; subst f5_))
      refine start_ (n := 13) (S := fun w' => w'.cell? ⟨gb606, 0, none⟩ = some (.slice Aq49_0 ((l0.take ((wrap64 (t603 + t602)) : Int).toNat).drop (t603 : Int).toNat).length cq49_0) ∧ w'.cell? ⟨gb606, 1, none⟩ = some (.int .i64 t617) ∧ w'.cell? ⟨gb606, 2, none⟩ = some (.bool false) ∧ w'.cell? ⟨gb610, 0, none⟩ = some (.int .i64 t607) ∧ w'.cell? ⟨gb610, 1, none⟩ = some (.string t611)) (ds := []) (lz_ 13 0) (by kernel_rfl) rfl rfl ⟨bc0_ BK606.out, bc1_ BK606.out, bc2_ BK606.out, bc0_ BK610.out, bc1_ BK610.out⟩ (fun hHeld => ?_); refine with_tabW impl_GetCommit.tab9 impl_GetCommit.bits9 (fun HT_ HW_ => ?_)
      generalize w48.drew = w50 at HO616 BK601 BK606 BK610 HB HR622 hHeld ⊢
      refine pt_ 0 51 1 ?_
      refine tt_ 1 52 3 ?_
      refine pt_ 2 53 7 ?_
      refine pt_ 4 55 23 ?_
      refine pt_ 6 57 87 ?_
      refine pt_ 7 58 215 ?_
      refine pt_ 8 59 471 ?_
      refine pt_ 9 60 983 ?_
      refine tt_ 3 54 991 ?_
      refine one_ (i := 5) (N := some 56) (lz_ 13 1023) rfl rfl (one_of HT_.out (by kernel_rfl)) (by decide) (fun K hK => ?_)
      refine gf_ Try.func107 (impl_PutCommit.calls kj3 t607 t611 _ _ t614 t619 _ (ch_ HO616) (cl_ HO616) A31.out) ?_
      rintro e w53 ⟨v620, rfl, ho0, hb⟩
      refine ⟨_, rfl, ?_⟩
      replace HO616 := rb_ HO616 hb
      have HO621 := Aside0.mk (Kd.R_lower ho0 (sz_ HB))
      replace BK601 := kl_ BK601 hb
      replace BK606 := kl_ BK606 hb
      replace BK610 := kl_ BK610 hb
      replace HB := ss_ HB hb
      clear hb ho0
      obtain ⟨Ao54, co54, eo54⟩ := Kd.R_slice HO621.out
      (first | subst eo54 | (injection eo54 with f1_ f2_ f3_; have f4_ := f1_.symm; have f5_ := f3_.symm; clear f1_ f2_ f3_; subst f4_; subst f5_))
      refine hK.out _ _ ⟨bc0_ BK606.out, bc1_ BK606.out, bc2_ BK606.out, bc0_ BK610.out, bc1_ BK610.out⟩ (fun hHeld => ?_)
      clear hK K
      refine no_ 56 ?_
      refine one_ (i := 10) (N := some 61) (lz_ 13 2047) rfl rfl (one_of HT_.out (by kernel_rfl)) (by decide) (fun K hK => ?_)
      refine goes_ Try.func112 (by kernel_rfl) rfl #[.slice Ao54 t619.length co54, .slice A51 ((l0.take ((wrap64 ((wrap64 (t603 + t602)) + 4)) : Int).toNat).drop (a1 : Int).toNat).length (c0 - a1.toNat)] (by rfl) rfl rfl (by (try simp only [List.map_toArray, List.map_cons, List.map_nil]); first | done | (rw [show ((l0.take ((wrap64 ((wrap64 (t603 + t602)) + 4)) : Int).toNat).drop (a1 : Int).toNat).length = ((wrap64 ((wrap64 (t603 + t602)) + 4)).toNat - a1.toNat) from (by rw [List.length_drop, List.length_take]; have h_ : ((wrap64 ((wrap64 (t603 + t602)) + 4)) : Int) ≤ (l0.length : Int) := of_decide_eq_true as_; omega)] <;> rfl) | rfl | (simp only [List.length_drop, List.length_take]; rfl)) ?_
      with_reducible refine (bytes_Equal.calls _ _ t619 _ _ ((l0.take ((wrap64 ((wrap64 (t603 + t602)) + 4)) : Int).toNat).drop (a1 : Int).toNat) true _ ?side1 ?side2 ?side3 ?side4 A35.out).mono ?_
      (case side1 => exact ch_ HO621)
      (case side2 => exact (cl_ HO621))
      (case side3 => exact cb_ HR622 HB)
      (case side4 => exact HC622.out)
      rintro e w' ⟨rfl, ⟨nd, rfl⟩⟩
      refine ⟨_, rfl, ?_⟩
      refine hK.out _ _ ⟨bc0_ BK606.out, bc1_ BK606.out, bc2_ BK606.out, bc0_ BK610.out, bc1_ BK610.out⟩ (fun hHeld => ?_)
      clear hK K
      refine no_ 61 ?_
      refine pt_ 11 62 4095 ?_
      refine pt_ 12 63 8191 ?_
      refine done_ (done_of HT_.out (by kernel_rfl)) ?_
      have hz55 := cz2_ BK610
      have hz56 := cz2_ BK601
      try go_wp2
      refine bodyPost_ret (results_list (rs := [.cell 4 28, .tmp 5, .tmp 6, .tmp 7]) rfl (by simp) (.cell gb601 28 #[.int .i64 t607, .string t611] (0, 0) _ rfl (by exact kq_ BK601) Try.underlying28 rfl (by kernel_rfl) (.tmp (.tmp (.tmp .nil))))) rfl ?_
      exact ⟨_, e2_, by (with_reducible repeat (first | apply Kd.R_alloc | apply Kd.R_drewN | apply Kd.R_drew)); exact Kd.R_mono (Kd.R_far (p := ⟨gb601, 1, none⟩) (Kd.R_far (p := ⟨gb601, 0, none⟩) (Kd.R_types HO616.out BK601.out (by decide)) (fun _ hk => hk.2) (.int .i64 t607)) (fun _ hk => hk.2) (.string t611)) (fun _ hk => trivial), bw_ HB⟩
     ·replace H := so5_ H; obtain ⟨rfl, rfl, rfl, rfl, rfl⟩ := H
      obtain ⟨i057, hi057, _, hsz57, _⟩ := info_parts info5
      obtain ⟨A57, hcut57, hA57, hC57⟩ := print_mid_of (P := Try.prog) (Value.int .u8) 0 22 5 .i64 .i64 Try.underlying22 hi057 hsz57 A0 c0 l0 t603 (wrap64 (t603 + t602)) (of_decide_eq_true as_) (by first | omega | exact of_decide_eq_true as_) (of_decide_eq_true as_) HC0.out
      have HR605 := Aside0.mk (Kd.C_of_reads (h1 := fun _ => rfl) (hA57 _ (Kd.reads_of_C HR0.out)))
      have HC605 := Aside0.mk hC57
      clear hA57 hC57 hi057 hsz57
      try go_wp2_with (first | ((with_reducible refine gd_ 12 ?_); (try (refine gate_guard (by rfl) ?_; dsimp only)); refine bx_ 12 126 #[.slice none 0 0, .int .i64 0, .bool false] ?_; intro gb606 hg w58 hbox hb; have BK606 := Aside0.mk hbox; have GW606 := gg_ hg HB; have GE606 := GW606; replace HB := ss_ HB hb; have NB601_606 := Aside0.mk ((by rw [hg]; exact Nat.ne_of_lt (blk_lt (kb_ BK601.out)) : gb601 ≠ gb606)); have NB606_601 := Aside0.mk ((by rw [hg]; exact Nat.ne_of_gt (blk_lt (kb_ BK601.out)) : gb606 ≠ gb601)); replace BK601 := kl_ BK601 hb; clear hb hbox hg; have hnb59 := NB606_601.out; have hnc59 := NB601_606.out; have hz60 := cz3_ BK606) | ((with_reducible refine gk_ 109 ?_); refine gl_ 46 Try.func109 #[.pointer (some ⟨gb606, 0, none⟩)] ?_; refine IsS126.called (w0 := w) (g := gb606) (f0 := (l0.take ((wrap64 (t603 + t602)) : Int).toNat).drop (t603 : Int).toNat) (f1 := 0) (f2 := false) ⟨_, _, by (rw [show ((l0.take ((wrap64 (t603 + t602)) : Int).toNat).drop (t603 : Int).toNat).length = ((wrap64 (t603 + t602)).toNat - t603.toNat) from (by rw [List.length_drop, List.length_take]; have h_ : ((wrap64 (t603 + t602)) : Int) ≤ (l0.length : Int) := of_decide_eq_true as_; omega)]); refine kb_ ?_; refine blk_put (cs := #[.slice A57 ((wrap64 (t603 + t602)).toNat - t603.toNat) (c0 - t603.toNat), .int .i64 0, .bool false]) ?_ 2 _ rfl; refine kb_ ?_; refine blk_put (cs := #[.slice A57 ((wrap64 (t603 + t602)).toNat - t603.toNat) (c0 - t603.toNat), .int .i64 0, .bool false]) ?_ 1 _ rfl; refine kb_ ?_; refine blk_put (cs := #[.slice none 0 0, .int .i64 0, .bool false]) ?_ 0 _ rfl; refine kb_ ?_; exact BK606.out, GW606.out, HR605.out, HC605.out⟩ (fun HI606 => ?_); (with_reducible refine (impl_getter_num.calls kj3 gb606 ((l0.take ((wrap64 (t603 + t602)) : Int).toNat).drop (t603 : Int).toNat) 0 false t607 t608 t609 w _ ?side1 ?side2 A12.out).mono ?_); (case side1 => repeat (first | (with_reducible first | exact HI606.out | apply IsS126.alloc | apply IsS126.drewN | apply IsS126.drew | apply IsS126.set_1 | apply IsS126.set_2 | refine IsS126.far ?_ NB606_601.out _) | exact HI606.out)); (case side2 => repeat (first | (with_reducible first | exact HB.out | apply below_alloc | apply pw_below_drewN | apply below_drew1 | refine below_set ?_ (IsS126.ge HI606.out) | refine below_set ?_ GE601.out) | exact HB.out)); rintro e w61 ⟨rfl, hi, hb, hk⟩; refine ⟨_, rfl, ?_⟩; replace BK601 := Aside0.mk (KeepBut.blk hk (g' := gb601) (o := .cells #[.int .i64 0, .string (⟨#[]⟩ : ByteArray)] 28 (0, 0)) (kq_ BK601) NB601_606.out (by simp)); replace HB := Aside0.mk hb; replace HI606 := Aside0.mk hi; clear hb hk hi) | ((with_reducible refine gd_ 13 ?_); (try (refine gate_guard (by rfl) ?_; dsimp only)); refine bx_ 13 28 #[.int .i64 0, .string (⟨#[]⟩ : ByteArray)] ?_; intro gb610 hg w62 hbox hb; have BK610 := Aside0.mk hbox; have GW610 := Aside0.mk (gz_ hg (below_size (bs2_ HB (IsS126.ge HI606.out) GE601.out))); have GE610 := Aside0.mk (gz_ hg (below_size (bs2_ HB (IsS126.ge HI606.out) GE601.out))); replace HB := Aside0.mk (below_step (bs2_ HB (IsS126.ge HI606.out) GE601.out) hb); have NB601_610 := Aside0.mk ((by rw [hg]; exact Nat.ne_of_lt (blk_lt (kb_ BK601.out)) : gb601 ≠ gb610)); have NB610_601 := Aside0.mk ((by rw [hg]; exact Nat.ne_of_gt (blk_lt (kb_ BK601.out)) : gb610 ≠ gb601)); replace BK601 := kl_ BK601 hb; have NB606_610 := Aside0.mk ((by rw [hg]; exact Nat.ne_of_lt (IsS126.lt (show IsS126 w _ gb606 ((l0.take ((wrap64 (t603 + t602)) : Int).toNat).drop (t603 : Int).toNat) t608 t609 from by repeat (first | (with_reducible first | exact HI606.out | apply IsS126.alloc | apply IsS126.drewN | apply IsS126.drew | apply IsS126.set_1 | apply IsS126.set_2 | refine IsS126.far ?_ NB606_601.out _) | exact HI606.out))) : gb606 ≠ gb610)); have NB610_606 := Aside0.mk ((by rw [hg]; exact Nat.ne_of_gt (IsS126.lt (show IsS126 w _ gb606 ((l0.take ((wrap64 (t603 + t602)) : Int).toNat).drop (t603 : Int).toNat) t608 t609 from by repeat (first | (with_reducible first | exact HI606.out | apply IsS126.alloc | apply IsS126.drewN | apply IsS126.drew | apply IsS126.set_1 | apply IsS126.set_2 | refine IsS126.far ?_ NB606_601.out _) | exact HI606.out))) : gb610 ≠ gb606)); replace HI606 := Aside0.mk (IsS126.below (by repeat (first | (with_reducible first | exact HI606.out | apply IsS126.alloc | apply IsS126.drewN | apply IsS126.drew | apply IsS126.set_1 | apply IsS126.set_2 | refine IsS126.far ?_ NB606_601.out _) | exact HI606.out)) hb); clear hb hbox hg; have hnb63 := NB610_601.out; have hnc63 := NB601_610.out; have hnb64 := NB610_606.out; have hnc64 := NB606_610.out; have hz65 := cz2_ BK610) | ((with_reducible refine gk_ 110 ?_); refine gl_ 48 Try.func110 #[.pointer (some ⟨gb606, 0, none⟩)] ?_; (with_reducible refine (impl_getter_text.calls kj3 gb606 ((l0.take ((wrap64 (t603 + t602)) : Int).toNat).drop (t603 : Int).toNat) t608 t609 t611 t612 t613 w _ ?side1 ?side2 A13.out).mono ?_); (case side1 => repeat (first | (with_reducible first | exact HI606.out | apply IsS126.alloc | apply IsS126.drewN | apply IsS126.drew | apply IsS126.set_1 | apply IsS126.set_2 | refine IsS126.far ?_ NB606_601.out _ | refine IsS126.far ?_ NB606_610.out _) | exact HI606.out)); (case side2 => repeat (first | (with_reducible first | exact HB.out | apply below_alloc | apply pw_below_drewN | apply below_drew1 | refine below_set ?_ (IsS126.ge HI606.out) | refine below_set ?_ GE601.out | refine below_set ?_ GE610.out) | exact HB.out)); rintro e w66 ⟨rfl, hi, hb, hk⟩; refine ⟨_, rfl, ?_⟩; replace BK601 := Aside0.mk (KeepBut.blk hk (g' := gb601) (o := .cells #[.int .i64 0, .string (⟨#[]⟩ : ByteArray)] 28 (0, 0)) (kq_ BK601) NB601_606.out (by simp)); replace BK610 := Aside0.mk (KeepBut.blk hk (g' := gb610) (o := .cells #[.int .i64 t607, .string (⟨#[]⟩ : ByteArray)] 28 (0, 0)) (kq_ BK610) NB610_606.out (by simp)); replace HB := Aside0.mk hb; replace HI606 := Aside0.mk hi; clear hb hk hi; have hz67 := cz2_ BK610) | ((with_reducible refine gk_ 111 ?_); refine gl_ 50 Try.func111 #[.pointer (some ⟨gb606, 0, none⟩)] ?_; (with_reducible refine (impl_getter_texts.calls kj3 gb606 ((l0.take ((wrap64 (t603 + t602)) : Int).toNat).drop (t603 : Int).toNat) t612 t613 t614 t617 false w _ ?side1 ?side2 A14.out).mono ?_); (case side1 => repeat (first | (with_reducible first | exact HI606.out | apply IsS126.alloc | apply IsS126.drewN | apply IsS126.drew | apply IsS126.set_1 | apply IsS126.set_2 | refine IsS126.far ?_ NB606_601.out _ | refine IsS126.far ?_ NB606_610.out _) | exact HI606.out)); (case side2 => repeat (first | (with_reducible first | exact HB.out | apply below_alloc | apply pw_below_drewN | apply below_drew1 | refine below_set ?_ (IsS126.ge HI606.out) | refine below_set ?_ GE601.out | refine below_set ?_ GE610.out) | exact HB.out)); rintro e w68 ⟨v615, rfl, ho0, hi, hb, hk⟩; refine ⟨_, rfl, ?_⟩; replace BK601 := Aside0.mk (KeepBut.blk hk (g' := gb601) (o := .cells #[.int .i64 0, .string (⟨#[]⟩ : ByteArray)] 28 (0, 0)) (kq_ BK601) NB601_606.out (by simp)); replace BK610 := Aside0.mk (KeepBut.blk hk (g' := gb610) (o := .cells #[.int .i64 t607, .string t611] 28 (0, 0)) (kq_ BK610) NB610_606.out (by simp)); have HO616 := Aside0.mk (Kd.R_lower ho0 (below_size (bs3_ HB (IsS126.ge HI606.out) GE601.out GE610.out))); replace HB := Aside0.mk hb; replace HI606 := Aside0.mk hi; clear hb hk hi ho0))
      obtain ⟨Aq69_0, cq69_0, hb_, hg_, hrq69_0, hqq69_0⟩ := HI606.out
      have BK606 := Aside0.mk hb_
      have HRq69_0 := Aside0.mk hrq69_0
      have HCq69_0 := Aside0.mk hqq69_0
      clear hb_ hg_ hrq69_0 hqq69_0 HI606
      replace HO616 := Aside0.mk (Kd.R_drew HO616.out)
      replace BK601 := Aside0.mk (blk_drew BK601.out)
      replace BK606 := Aside0.mk (blk_drew BK606.out)
      replace BK610 := Aside0.mk (blk_drew BK610.out)
      replace HB := Aside0.mk (below_drew1 HB.out)
      obtain ⟨i071, hi071, _, hsz71, _⟩ := info_parts info5
      obtain ⟨A71, hcut71, hA71, hC71⟩ := print_mid_of (P := Try.prog) (Value.int .u8) 0 22 5 .i64 .i64 Try.underlying22 hi071 hsz71 A0 c0 l0 a1 (wrap64 ((wrap64 (t603 + t602)) + 4)) (of_decide_eq_true as_) (by first | omega | exact of_decide_eq_true as_) (of_decide_eq_true as_) HC0.out
      have HR622 := Aside0.mk (Kd.C_of_reads (h1 := fun _ => rfl) (hA71 _ (Kd.reads_of_C HR0.out)))
      have HC622 := Aside0.mk hC71
      clear hA71 hC71 hi071 hsz71
      obtain ⟨Ao72, co72, eo72⟩ := Kd.R_slice HO616.out
      (first | subst eo72 | (injection eo72 with f1_ f2_ f3_; have f4_ := f1_.symm; have f5_ := f3_.symm; clear f1_ f2_ f3_; subst f4_; subst f5_))
      refine start_ (n := 13) (S := fun w' => w'.cell? ⟨gb606, 0, none⟩ = some (.slice Aq69_0 ((l0.take ((wrap64 (t603 + t602)) : Int).toNat).drop (t603 : Int).toNat).length cq69_0) ∧ w'.cell? ⟨gb606, 1, none⟩ = some (.int .i64 t617) ∧ w'.cell? ⟨gb606, 2, none⟩ = some (.bool false) ∧ w'.cell? ⟨gb610, 0, none⟩ = some (.int .i64 t607) ∧ w'.cell? ⟨gb610, 1, none⟩ = some (.string t611)) (ds := []) (lz_ 13 0) (by kernel_rfl) rfl rfl ⟨bc0_ BK606.out, bc1_ BK606.out, bc2_ BK606.out, bc0_ BK610.out, bc1_ BK610.out⟩ (fun hHeld => ?_); refine with_tabW impl_GetCommit.tab9 impl_GetCommit.bits9 (fun HT_ HW_ => ?_)
      generalize w68.drew = w70 at HO616 BK601 BK606 BK610 HB HR622 hHeld ⊢
      refine pt_ 0 51 1 ?_
      refine tt_ 1 52 3 ?_
      refine pt_ 2 53 7 ?_
      refine pt_ 4 55 23 ?_
      refine pt_ 6 57 87 ?_
      refine pt_ 7 58 215 ?_
      refine pt_ 8 59 471 ?_
      refine pt_ 9 60 983 ?_
      refine tt_ 3 54 991 ?_
      refine one_ (i := 5) (N := some 56) (lz_ 13 1023) rfl rfl (one_of HT_.out (by kernel_rfl)) (by decide) (fun K hK => ?_)
      refine gf_ Try.func107 (impl_PutCommit.calls kj3 t607 t611 _ _ t614 t619 _ (ch_ HO616) (cl_ HO616) A31.out) ?_
      rintro e w73 ⟨v620, rfl, ho0, hb⟩
      refine ⟨_, rfl, ?_⟩
      replace HO616 := rb_ HO616 hb
      have HO621 := Aside0.mk (Kd.R_lower ho0 (sz_ HB))
      replace BK601 := kl_ BK601 hb
      replace BK606 := kl_ BK606 hb
      replace BK610 := kl_ BK610 hb
      replace HB := ss_ HB hb
      clear hb ho0
      obtain ⟨Ao74, co74, eo74⟩ := Kd.R_slice HO621.out
      (first | subst eo74 | (injection eo74 with f1_ f2_ f3_; have f4_ := f1_.symm; have f5_ := f3_.symm; clear f1_ f2_ f3_; subst f4_; subst f5_))
      refine hK.out _ _ ⟨bc0_ BK606.out, bc1_ BK606.out, bc2_ BK606.out, bc0_ BK610.out, bc1_ BK610.out⟩ (fun hHeld => ?_)
      clear hK K
      refine no_ 56 ?_
      refine one_ (i := 10) (N := some 61) (lz_ 13 2047) rfl rfl (one_of HT_.out (by kernel_rfl)) (by decide) (fun K hK => ?_)
      refine goes_ Try.func112 (by kernel_rfl) rfl #[.slice Ao74 t619.length co74, .slice A71 ((l0.take ((wrap64 ((wrap64 (t603 + t602)) + 4)) : Int).toNat).drop (a1 : Int).toNat).length (c0 - a1.toNat)] (by rfl) rfl rfl (by (try simp only [List.map_toArray, List.map_cons, List.map_nil]); first | done | (rw [show ((l0.take ((wrap64 ((wrap64 (t603 + t602)) + 4)) : Int).toNat).drop (a1 : Int).toNat).length = ((wrap64 ((wrap64 (t603 + t602)) + 4)).toNat - a1.toNat) from (by rw [List.length_drop, List.length_take]; have h_ : ((wrap64 ((wrap64 (t603 + t602)) + 4)) : Int) ≤ (l0.length : Int) := of_decide_eq_true as_; omega)] <;> rfl) | rfl | (simp only [List.length_drop, List.length_take]; rfl)) ?_
      with_reducible refine (bytes_Equal.calls _ _ t619 _ _ ((l0.take ((wrap64 ((wrap64 (t603 + t602)) + 4)) : Int).toNat).drop (a1 : Int).toNat) false _ ?side1 ?side2 ?side3 ?side4 A35.out).mono ?_
      (case side1 => exact ch_ HO621)
      (case side2 => exact (cl_ HO621))
      (case side3 => exact cb_ HR622 HB)
      (case side4 => exact HC622.out)
      rintro e w' ⟨rfl, ⟨nd, rfl⟩⟩
      refine ⟨_, rfl, ?_⟩
      refine hK.out _ _ ⟨bc0_ BK606.out, bc1_ BK606.out, bc2_ BK606.out, bc0_ BK610.out, bc1_ BK610.out⟩ (fun hHeld => ?_)
      clear hK K
      refine no_ 61 ?_
      refine pt_ 11 62 4095 ?_
      refine pt_ 12 63 8191 ?_
      refine done_ (done_of HT_.out (by kernel_rfl)) ?_
      have hz75 := cz2_ BK601
      try go_wp2
      refine bodyPost_ret (results_list (rs := [.cell 4 28, .tmp 5, .tmp 6, .tmp 7]) rfl (by simp) (.cell gb601 28 #[.int .i64 0, .string (⟨#[]⟩ : ByteArray)] (0, 0) _ rfl (by exact kq_ BK601) Try.underlying28 rfl (by kernel_rfl) (.tmp (.tmp (.tmp .nil))))) rfl ?_
      exact ⟨_, e2_, by first | exact Kd.R_nil _ _ _ _ _ | exact Kd.N_nil _ _ _ _ _ | exact Kd.V_nil _ _ _ _ _ | exact Kd.Q_nil _ _ _ _ _ | exact Kd.S_nil _ _ _ _ _, bw_ HB⟩
end Go.Proofs.Ytjnnglphdaemaaa.Q
end

section
/- The program's GetCommit: what it reads is what was put, and it reads that. Plain. -/
namespace Go.Proofs.Ytjnnglphdaemaaa.Q
open Go.RowKit Go.Proofs.Ytjnnglphdaemaaa.B Go.Proofs.YtjnnglphdaemaaaW.PrintWords Go.Proofs.YtjnnglphdaemaaaW.PrintMore
set_option linter.unusedVariables false
set_option linter.unusedSimpArgs false

theorem commitB_length (n : Nat) (s : ByteArray) (t : List ByteArray) : (commitB n s t).length = (num (bodyB n s t).length).length + (bodyB n s t).length + 4 := by
  unfold commitB
  rw [List.length_append, List.length_append, sumB_length]
  omega
/-- What is read of a commit at a place. -/
def CommitOf (b : List Int) (at_ n : Int) (s : ByteArray) (t : List ByteArray) (nx : Int) (ok : Bool) : Prop :=
  (ok = true → ∃ a N : Nat, at_ = (a : Int) ∧ n = (N : Int) ∧ headOk n s = true ∧ 1 ≤ t.length ∧ b.drop a = commitB N s t ++ b.drop (a + (commitB N s t).length) ∧ nx = ((a + (commitB N s t).length : Nat) : Int) ∧ a + (commitB N s t).length ≤ b.length) ∧
  (ok = false → n = 0 ∧ s = ⟨#[]⟩ ∧ t = [] ∧ nx = at_ ∧ ∀ (a N : Nat) (s' : ByteArray) (t' : List ByteArray) r, at_ = (a : Int) → b.drop a = commitB N s' t' ++ r → headOk (N : Int) s' = true → 1 ≤ t'.length → t'.length ≤ 200 → (∀ x ∈ t', x.size ≤ 1000000000) → False)
set_option maxHeartbeats 1000000 in
theorem getCommitI (b : List Int) (hb : InB b) (hl : b.length ≤ 10000000) (at_ : Int) (h0 : -9223372036854775808 ≤ at_) (h1 : at_ ≤ 9223372036854775807) :
    ∃ n s t nx ok, Ev (fun q => impl_GetCommit.f q b at_) (n, s, t, nx, ok) ∧ t.length ≤ 200 ∧ CommitOf b at_ n s t nx ok := by
  obtain ⟨m, x, ok, _, e2, hN⟩ := getNum_both b hb (by omega) at_ h0 h1
  have jT : ∀ m x : Int, Ev (fun q => impl_GetCommit.j0 q b at_ m x true) (0, (⟨#[]⟩ : ByteArray), ([] : List ByteArray), at_, false) := fun m x => by
    refine Ev.step (fun q => by simp only [impl_GetCommit.j0]; rfl) ?_
    exact Ev.pos trivial (Ev.now _)
  have bad : ∀ P : Prop, (∀ (a N : Nat) (s' : ByteArray) (t' : List ByteArray) r, at_ = (a : Int) → b.drop a = commitB N s' t' ++ r → headOk (N : Int) s' = true → 1 ≤ t'.length → t'.length ≤ 200 → (∀ x ∈ t', x.size ≤ 1000000000) → False) → CommitOf b at_ 0 ⟨#[]⟩ [] at_ false := fun _ h => ⟨fun q => (by cases q), fun _ => ⟨rfl, rfl, rfl, rfl, h⟩⟩
  unfold impl_GetCommit.f
  cases ok with
  | false =>
    obtain ⟨rfl, rfl, h3⟩ := hN.1 rfl
    refine ⟨0, ⟨#[]⟩, [], at_, false, Ev.bind e2 (Ev.neg (by simp) (jT _ _)), by simp, bad True fun a N s' t' r ha hr _ _ _ _ => ?_⟩
    unfold commitB at hr
    rw [List.append_assoc] at hr
    refine h3 a _ _ ha hr ?_
    have := congrArg List.length hr
    simp only [List.length_append, List.length_drop] at this
    omega
  | true =>
    obtain ⟨a, m, rfl, rfl, hm, hd, rfl, hle⟩ := hN.2 rfl
    have hp1 := num_pos m
    obtain ⟨p, hp⟩ : ∃ p, a + (num m).length = p := ⟨_, rfl⟩
    rw [hp] at e2 hd hle
    clear hN
    have cut : ∀ (N : Nat) (s' : ByteArray) (t' : List ByteArray) r, b.drop a = commitB N s' t' ++ r → m = (bodyB N s' t').length ∧ b.drop p = bodyB N s' t' ++ (sumB (bodyB N s' t') ++ r) := fun N s' t' r hr => by
      unfold commitB at hr
      rw [hd, List.append_assoc, List.append_assoc] at hr
      exact num_inj _ _ _ _ hr
    have w1 : wrap64 ((b.length : Int) - (p : Int)) = (b.length : Int) - (p : Int) := w64 (by omega) (by omega)
    have w2 : wrap64 ((b.length : Int) - (p : Int) - 4) = (b.length : Int) - (p : Int) - 4 := w64 (by omega) (by omega)
    by_cases hg : (m : Int) > (b.length : Int) - (p : Int) - 4
    · refine ⟨0, ⟨#[]⟩, [], (a : Int), false, ?_, by simp, bad True fun a' N s' t' r ha hr _ _ _ _ => ?_⟩
      · refine Ev.bind e2 (Ev.pos rfl ?_)
        simp only [w1, w2, decide_eq_true hg]
        exact jT _ _
      · obtain rfl : a = a' := by omega
        obtain ⟨k1, k2⟩ := cut N s' t' r hr
        have := congrArg List.length k2
        simp only [List.length_append, List.length_drop, sumB_length] at this
        omega
    · have w3 : wrap64 ((p : Int) + (m : Int)) = ((p + m : Nat) : Int) := by
        rw [w64 (by omega) (by omega)]
        omega
      have w4 : wrap64 (((p + m : Nat) : Int) + 4) = ((p + m + 4 : Nat) : Int) := by
        rw [w64 (by omega) (by omega)]
        omega
      have t1 : ((p + m : Nat) : Int).toNat = p + m := Int.toNat_natCast _
      have t2 : (p : Int).toNat = p := Int.toNat_natCast _
      have t3 : ((p + m + 4 : Nat) : Int).toNat = p + m + 4 := Int.toNat_natCast _
      have t4 : (a : Int).toNat = a := Int.toNat_natCast _
      obtain ⟨B, hB⟩ : ∃ B, (b.take (p + m)).drop p = B := ⟨_, rfl⟩
      have hB2 : B = (b.drop p).take m := by
        rw [← hB, List.drop_take]
        congr 1
        omega
      have hBl : B.length = m := by
        rw [hB2, List.length_take, List.length_drop]
        omega
      have hBb : InB B := by
        rw [hB2]
        exact inB_take (inB_drop hb p) m
      have cutB : ∀ (N : Nat) (s' : ByteArray) (t' : List ByteArray) r, b.drop a = commitB N s' t' ++ r → B = bodyB N s' t' := fun N s' t' r hr => by
        obtain ⟨k1, k2⟩ := cut N s' t' r hr
        rw [hB2, k2, k1, List.take_left]
      obtain ⟨E, hE⟩ : ∃ E, (b.take (p + m + 4)).drop a = E := ⟨_, rfl⟩
      have start : ∀ r, Ev (fun q => (impl_getter_num.f q B 0 false).bind fun bt607 => ((impl_getter_text.f q B bt607.2.1 bt607.2.2).bind fun bt611 => ((impl_getter_texts.f q B bt611.2.1 bt611.2.2).bind fun bt614 => (if bt614.2.2 = true then (some (0, (⟨#[]⟩ : ByteArray), ([] : List ByteArray), (a : Int), false)) else ((impl_PutCommit.f q bt607.1 bt611.1 bt614.1).bind fun t619 => ((bytes_Equal.f t619 E).bind fun t623 => (if t623 = true then (some (bt607.1, bt611.1, bt614.1, ((p + m + 4 : Nat) : Int), true)) else (some (0, (⟨#[]⟩ : ByteArray), ([] : List ByteArray), (a : Int), false))))))))) r → Ev (fun q => (impl_GetNum.f q b (a : Int)).bind fun bt602 => (if bt602.2.2 = true then (impl_GetCommit.j0 q b (a : Int) bt602.1 bt602.2.1 (decide (bt602.1 > (wrap64 ((wrap64 ((b.length : Int) - bt602.2.1)) - 4))))) else (impl_GetCommit.j0 q b (a : Int) bt602.1 bt602.2.1 true))) r := fun r hr => by
        refine Ev.bind e2 (Ev.pos rfl ?_)
        simp only [w1, w2, decide_eq_false hg]
        refine Ev.step (fun q => by simp only [impl_GetCommit.j0, w3, w4, t1, t2, t3, t4, hB, hE]; rfl) ?_
        refine Ev.neg (by simp) (Ev.pos (by omega) (Ev.pos (by omega) (Ev.pos (by omega) ?_)))
        have i1 : (0 : Int) ≤ (a : Int) := by omega
        have i2 : (a : Int) ≤ ((p + m + 4 : Nat) : Int) := by omega
        have i3 : ((p + m + 4 : Nat) : Int) ≤ (b.length : Int) := by omega
        simp only [if_pos i1, if_pos i2, if_pos i3]
        exact hr
      rcases num_step B hBb (by omega) 0 (by omega) with ⟨_, g0, z0⟩ | ⟨v0, p1, q0, l0, y0, r0, _, g0⟩
      · refine ⟨0, ⟨#[]⟩, [], (a : Int), false, start _ (Ev.bind g0 (Ev.bind (gtext_bad B hBb (by omega) 0 (by omega) (by omega)) (Ev.bind (gtexts_bad B hBb (by omega) 0 (by omega) (by omega)) (Ev.pos rfl (Ev.now _))))), by simp, bad True fun a' N s' t' r ha hr hk c1 c2 c3 => ?_⟩
        obtain rfl : a = a' := by omega
        have hh := headOk_parts hk
        exact z0 N _ (show B.drop 0 = num N ++ (textB s' ++ textsB t') from cutB N s' t' r hr) (by omega)
      · rcases text_step B hBb (by omega) p1 (by omega) with ⟨_, g1, z1⟩ | ⟨v1, p2, q1, l1, y1, r1, _, g1⟩
        · refine ⟨0, ⟨#[]⟩, [], (a : Int), false, start _ (Ev.bind g0 (Ev.bind g1 (Ev.bind (gtexts_bad B hBb (by omega) (p1 : Int) (by omega) (by omega)) (Ev.pos rfl (Ev.now _))))), by simp, bad True fun a' N s' t' r ha hr hk c1 c2 c3 => ?_⟩
          obtain rfl : a = a' := by omega
          have hh := headOk_parts hk
          have d0 : B.drop 0 = num N ++ (textB s' ++ textsB t') := cutB N s' t' r hr
          have d1 := (num_inj _ _ _ _ (y0.symm.trans d0)).2
          exact z1 s' _ d1 (by omega)
        · rcases texts_step B hBb (by omega) p2 (by omega) with ⟨_, g2, z2⟩ | ⟨v2, p3, q2, s2, l2, y2, r2, _, g2⟩
          · refine ⟨0, ⟨#[]⟩, [], (a : Int), false, start _ (Ev.bind g0 (Ev.bind g1 (Ev.bind g2 (Ev.pos rfl (Ev.now _))))), by simp, bad True fun a' N s' t' r ha hr hk c1 c2 c3 => ?_⟩
            obtain rfl : a = a' := by omega
            have d0 : B.drop 0 = num N ++ (textB s' ++ textsB t') := cutB N s' t' r hr
            have d1 := (num_inj _ _ _ _ (y0.symm.trans d0)).2
            have d2 := (textB_inj (y1.symm.trans d1)).2
            exact z2 t' [] (by rw [List.append_nil]; exact d2) c2 c3
          · have hBB : B = bodyB v0 v1 v2 ++ B.drop p3 := by
              have e : B.drop 0 = num v0 ++ (textB v1 ++ (textsB v2 ++ B.drop p3)) := by rw [y0, y1, y2]
              unfold bodyB
              simp only [List.append_assoc]
              exact e
            have hge := bodyB_ge v0 v1 v2
            have hBBl : (bodyB v0 v1 v2).length ≤ m := by
              have := congrArg List.length hBB
              rw [List.length_append] at this
              omega
            have ht0 := total_nonneg v2
            have hP := PutCommit_val (v0 : Int) v1 v2 (by omega) (by omega) s2
            rw [Int.toNat_natCast] at hP
            have hEb : InB E := by
              rw [← hE]
              exact inB_drop (inB_take hb _) _
            have hEl : E.length = (num m).length + m + 4 := by
              rw [← hE, List.length_drop, List.length_take]
              omega
            have hEd : b.drop a = E ++ b.drop (p + m + 4) := by
              have e3 : b.drop a = (b.drop a).take (p + m + 4 - a) ++ (b.drop a).drop (p + m + 4 - a) := (List.take_append_drop _ _).symm
              rw [List.drop_drop, ← List.drop_take, show a + (p + m + 4 - a) = p + m + 4 by omega, hE] at e3
              exact e3
            obtain ⟨W, hW⟩ : ∃ W, (if headOk (v0 : Int) v1 = true ∧ 1 ≤ v2.length ∧ v2.length ≤ 200 then commitB v0 v1 v2 else []) = W := ⟨_, rfl⟩
            rw [hW] at hP
            have hWb : InB W := by
              rw [← hW]
              split
              · exact commitB_inB _ _ _
              · exact inB_nil
            have hQ : bytes_Equal.f W E = some (decide (W = E)) := by
              unfold bytes_Equal.f
              rw [nums_eq hWb hEb]
            by_cases he : W = E
            · have hc : headOk (v0 : Int) v1 = true ∧ 1 ≤ v2.length ∧ v2.length ≤ 200 := Classical.byContradiction fun hn => by
                rw [if_neg hn] at hW
                rw [← hW] at he
                have := congrArg List.length he
                rw [hEl] at this
                simp only [List.length_nil] at this
                omega
              rw [if_pos hc] at hW
              have hlen : (commitB v0 v1 v2).length = (num m).length + m + 4 := by rw [hW, he, hEl]
              refine ⟨(v0 : Int), v1, v2, ((p + m + 4 : Nat) : Int), true, start _ (Ev.bind g0 (Ev.bind g1 (Ev.bind g2 (Ev.neg (by simp) (Ev.bind hP (Ev.bind (Ev.const hQ) (Ev.pos (decide_eq_true he) (Ev.now _)))))))), q2, fun _ => ⟨a, v0, rfl, rfl, hc.1, hc.2.1, ?_, ?_, ?_⟩, fun h => (by cases h)⟩
              · rw [hlen, hW, he, show a + ((num m).length + m + 4) = p + m + 4 by omega]
                exact hEd
              · rw [hlen]
                congr 1
                omega
              · rw [hlen]
                omega
            · refine ⟨0, ⟨#[]⟩, [], (a : Int), false, start _ (Ev.bind g0 (Ev.bind g1 (Ev.bind g2 (Ev.neg (by simp) (Ev.bind hP (Ev.bind (Ev.const hQ) (Ev.neg (by rw [decide_eq_false he]; simp) (Ev.now _)))))))), by simp, bad True fun a' N s' t' r ha hr hk c1 c2 c3 => ?_⟩
              obtain rfl : a = a' := by omega
              have hb2 := cutB N s' t' r hr
              obtain ⟨k1, k2⟩ := cut N s' t' r hr
              obtain ⟨rfl, rfl, rfl, _⟩ := bodyB_inj (show bodyB v0 v1 v2 ++ B.drop p3 = bodyB N s' t' ++ [] by rw [List.append_nil, ← hBB, hb2])
              rw [if_pos ⟨hk, c1, c2⟩] at hW
              apply he
              rw [← hW]
              have hcl := commitB_length v0 v1 v2
              rw [← k1] at hcl
              exact (List.append_inj (hr.symm.trans hEd) (by rw [hcl, hEl])).1
end Go.Proofs.Ytjnnglphdaemaaa.Q
end

section
-- Written by a program of this session (wip/tools/pp.sh) over the print of the kit.
namespace Go.Proofs.Ytjnnglphdaemaaa.Q
open Go.RowKit Go.Proofs.YtjnnglphdaemaaaW.PrintWords Go.Proofs.YtjnnglphdaemaaaW.PrintLast Go.Proofs.YtjnnglphdaemaaaW.PrintMore
attribute [local go_sem] max2_int min2_int max_two min_two max_three min_three max_four min_four   -- for this text's walks alone
set_option linter.unusedVariables false
set_option linter.unusedSimpArgs false
def spec_GetCommit.j0 : Nat → List Int → Int → Int → Int → Bool → Option (Int × ByteArray × List ByteArray × Int × Bool)
 | 0, _, _, _, _, _ => none
 | k + 1, x0, x1, x8, x9, x39 => if x39 = true then (some (0, (⟨#[]⟩ : ByteArray), (([] : List ByteArray)), x1, false)) else (if 0 ≤ x9 then (if x9 ≤ (wrap64 (x9 + x8)) then (if (wrap64 (x9 + x8)) ≤ (x0.length : Int) then ((spec_GetNum.f k ((x0.take ((wrap64 (x9 + x8)) : Int).toNat).drop (x9 : Int).toNat) 0).bind fun bt609 => ((spec_GetText.f k ((x0.take ((wrap64 (x9 + x8)) : Int).toNat).drop (x9 : Int).toNat) bt609.2.1).bind fun bt612 => ((spec_GetTexts.f k ((x0.take ((wrap64 (x9 + x8)) : Int).toNat).drop (x9 : Int).toNat) bt612.2.1).bind fun bt615 => (if bt609.2.2 = true then (if bt612.2.2 = true then (if bt615.2.2 = true then (if bt615.2.1 = (((x0.take ((wrap64 (x9 + x8)) : Int).toNat).drop (x9 : Int).toNat).length : Int) then ((spec_HeadOk.f bt609.1 bt612.1).bind fun t621 => (if t621 = true then (if (bt615.1.length : Int) = 0 then (some (0, (⟨#[]⟩ : ByteArray), (([] : List ByteArray)), x1, false)) else (if 0 ≤ (wrap64 (x9 + x8)) then (if (wrap64 (x9 + x8)) ≤ (wrap64 ((wrap64 (x9 + x8)) + 4)) then (if (wrap64 ((wrap64 (x9 + x8)) + 4)) ≤ (x0.length : Int) then ((spec_Digest.f k ((x0.take ((wrap64 (x9 + x8)) : Int).toNat).drop (x9 : Int).toNat)).bind fun t626 => (if 0 ≤ 4 then (if 4 ≤ (t626.size : Int) then (if (strOfNums ((x0.take ((wrap64 ((wrap64 (x9 + x8)) + 4)) : Int).toNat).drop ((wrap64 (x9 + x8)) : Int).toNat)).toList = (t626.extract 0 4).toList then (some (bt609.1, bt612.1, bt615.1, wrap64 ((wrap64 (x9 + x8)) + 4), true)) else (some (0, (⟨#[]⟩ : ByteArray), (([] : List ByteArray)), x1, false))) else (none)) else (none))) else (none)) else (none)) else (none))) else (some (0, (⟨#[]⟩ : ByteArray), (([] : List ByteArray)), x1, false)))) else (some (0, (⟨#[]⟩ : ByteArray), (([] : List ByteArray)), x1, false))) else (some (0, (⟨#[]⟩ : ByteArray), (([] : List ByteArray)), x1, false))) else (some (0, (⟨#[]⟩ : ByteArray), (([] : List ByteArray)), x1, false))) else (some (0, (⟨#[]⟩ : ByteArray), (([] : List ByteArray)), x1, false)))))) else (none)) else (none)) else (none))
def spec_GetCommit.f (k : Nat) (l0 : List Int) (a1 : Int) : Option (Int × ByteArray × List ByteArray × Int × Bool) := (spec_GetNum.f k l0 a1).bind fun bt602 => (if bt602.2.2 = true then (spec_GetCommit.j0 k l0 a1 bt602.1 bt602.2.1 (decide (bt602.1 > (wrap64 ((wrap64 ((l0.length : Int) - bt602.2.1)) - 4))))) else (spec_GetCommit.j0 k l0 a1 bt602.1 bt602.2.1 true))
theorem spec_GetCommit.mono_l : ∀ k, (∀ y0 y1 y2 y3 y4, LeO (spec_GetCommit.j0 k y0 y1 y2 y3 y4) (spec_GetCommit.j0 (k + 1) y0 y1 y2 y3 y4))
 | 0 => fun _ _ _ _ _ r h => by simp [spec_GetCommit.j0] at h
 | k + 1 => by
  have ih0 := spec_GetCommit.mono_l k
  ·intro y0 y1 y2 y3 y4
   unfold spec_GetCommit.j0
   repeat' (with_reducible first | exact LeO.refl _ | exact LeO.none _ | apply ih0 | apply spec_Digest.mono | apply spec_GetNum.mono | apply spec_GetText.mono | apply spec_GetTexts.mono | apply LeO.ite | refine LeO.bind ?_ fun _ => ?_)
theorem spec_GetCommit.mono : ∀ a0 a1 k, LeO (spec_GetCommit.f k a0 a1) (spec_GetCommit.f (k + 1) a0 a1) := by
 intro a0 a1 k
 have ih0 := spec_GetCommit.mono_l k
 unfold spec_GetCommit.f
 repeat' (with_reducible first | exact LeO.refl _ | exact LeO.none _ | apply ih0 | apply spec_Digest.mono | apply spec_GetNum.mono | apply spec_GetText.mono | apply spec_GetTexts.mono | apply LeO.ite | refine LeO.bind ?_ fun _ => ?_)
def spec_GetCommit.T9 : Bool × List (List Nat × List Nat) := (true, [([], []), ([0], [0]), ([1], [1]), ([2], [2]), ([3, 2], [2, 3]), ([2, 4], [2, 4]), ([5, 2], [5]), ([6], [6]), ([7, 6], [6, 7]), ([6, 8], [6, 8]), ([9, 6], [9]), ([10], [10]), ([10], [10]), ([12, 10], [10, 12]), ([11, 13, 10], [10, 11, 13]), ([10, 14], [10, 14]), ([15, 10], [15]), ([16], [16]), ([17, 16, 16], [16, 17]), ([18, 16], [16, 18]), ([16, 19], [16, 19]), ([20, 18], [20]), ([21], [21]), ([22, 21], [21, 22]), ([23, 21], [21, 23]), ([21, 24], [21, 24]), ([25, 21], [25]), ([26], [26]), ([26], [26]), ([26], [26]), ([28, 29, 26], [26, 28, 29]), ([26], [26]), ([26], [26]), ([31, 32, 26], [26, 31, 32]), ([33, 26], [26, 33]), ([27, 30, 34, 26], [26, 27, 30, 34]), ([35, 26], [26, 35]), ([26], [26]), ([37, 26, 26], [26, 37]), ([38, 26], [26, 38]), ([36, 39, 26], [26, 36, 39]), ([26, 40], [26, 40])])
def spec_GetCommit.B9 : List Nat := [0, 1, 3, 7, 15, 31, 63, 127, 255, 511, 1023, 2047, 2047, 6143, 16383, 32767, 65535, 131071, 262143, 524287, 1048575, 2097151, 4194303, 8388607, 16777215, 33554431, 67108863, 134217727, 134217727, 134217727, 939524095, 134217727, 134217727, 6576668671, 15166603263, 34359738367, 68719476735, 134217727, 137573171199, 412451078143, 1099511627775, 2199023255551]
theorem spec_GetCommit.tab9 : rtab .any (opsOf Try.f96 9) = spec_GetCommit.T9 := by kernel_rfl
theorem spec_GetCommit.bits9 : waitsOk spec_GetCommit.T9.2 spec_GetCommit.B9 = true := by kernel_rfl
def lb (m : Nat) : Array Bool := ((List.range 42).map fun i => Nat.testBit m i).toArray
theorem sT {α : Type} {l : List α} {i : Nat} {a : α} : l.toArray.setIfInBounds i a = (l.set i a).toArray := by simp
theorem sZ {α : Type} {x : α} {l : List α} {a : α} : (x :: l).set 0 a = a :: l := rfl
theorem sS {α : Type} {x : α} {l : List α} {i : Nat} {a : α} : (x :: l).set (i + 1) a = x :: l.set i a := rfl
set_option maxHeartbeats 8000000 in
set_option maxRecDepth 100000 in
theorem spec_GetCommit.calls (k : Nat) (A0 : Option Addr) (c0 : Nat) (l0 : List Int) (a1 : Int) (r1 : Int) (r2 : ByteArray) (r3 : List ByteArray) (r4 : Int) (r5 : Bool) (w : World) (hr0 : Kd.C (Kd.int .u8) w A0 l0.length l0) (hc0 : l0.length ≤ c0) (h : spec_GetCommit.f k l0 a1 = some (r1, r2, r3, r4, r5)) :
  Calls Try.prog 96 #[.slice A0 l0.length c0, .int .i64 a1] w fun e w' => ∃ v2_ : Value, e = .returned (.tuple #[.agg #[.int .i64 r1, .string r2], v2_, .int .i64 r4, .bool r5]) ∧ Kd.R Kd.string 9 w' w.heap.size (fun _ => True) v2_ r3 ∧ Below w.heap.size w w' := by
 have hu28 := Try.underlying28
 have HR0 := Aside0.mk hr0
 have HC0 := Aside0.mk hc0
 clear hr0 hc0
 have HB := Aside0.mk (Below.refl w.heap.size w)
 have H : ((spec_GetNum.f k l0 a1).bind fun bt602 => (if bt602.2.2 = true then (spec_GetCommit.j0 k l0 a1 bt602.1 bt602.2.1 (decide (bt602.1 > (wrap64 ((wrap64 ((l0.length : Int) - bt602.2.1)) - 4))))) else (spec_GetCommit.j0 k l0 a1 bt602.1 bt602.2.1 true))) = some (r1, r2, r3, r4, r5) := h
 clear h
 replace H := bi_ H; obtain ⟨⟨t602, t603, t604⟩, A3, H⟩ := H
 dsimp only at H
 have HC4 := Aside0.mk H
 clear H
 go_enter Try.func96, Try.ntmps96
 go_upto_region 2 with (first | ((with_reducible refine gd_ 4 ?_); (try (refine gate_guard (by rfl) ?_; dsimp only)); refine bx_ 4 28 #[.int .i64 0, .string (⟨#[]⟩ : ByteArray)] ?_; intro gb601 hg w5 hbox hb; have BK601 := Aside0.mk hbox; have GW601 := gg_ hg HB; have GE601 := GW601; replace HB := ss_ HB hb; clear hb hbox hg) | ((with_reducible refine gq_ 119 25 ?_); refine gc_ 25 Try.func119 (spec_GetNum.calls k _ _ l0 a1 t602 t603 t604 _ (cb_ HR0 HB) HC0.out A3.out) ?_; rintro e w' ⟨rfl, ⟨nd, rfl⟩⟩; refine ⟨_, rfl, ?_⟩))
 (try simp only [Act.put, List.setIfInBounds_toArray, List.set_cons_zero, List.set_cons_succ])
 go_cut [39] (fun v39 wc => ∃ (kq : Nat) (x39_3 : Bool), v39 = .bool x39_3 ∧ Aside0 (spec_GetCommit.j0 kq l0 a1 t602 t603 x39_3 = some (r1, r2, r3, r4, r5)) ∧ Aside0 (kq ≤ k) ∧ Aside0 (wc.heap[gb601]? = some (.cells #[.int .i64 0, .string (⟨#[]⟩ : ByteArray)] 28 (0, 0))) ∧ Aside0 (Below w.heap.size w wc))
 case first =>
  have H := HC4.out
  clear HC4
  replace H := itb_ H; obtain ⟨rfl, H⟩ | ⟨rfl, H⟩ := H
  ·have H' := Aside0.mk H
   clear H
   go_wp2
   go_meet
   case rel => exact ⟨_, (decide (t602 > (wrap64 ((wrap64 ((l0.length : Int) - t603)) - 4)))), e1_, H', ⟨le_⟩, ⟨kb_ BK601.out⟩, ⟨bw_ HB⟩⟩
  ·have H' := Aside0.mk H
   clear H
   go_wp2
   go_meet
   case rel => exact ⟨_, (true), e1_, H', ⟨le_⟩, ⟨kb_ BK601.out⟩, ⟨bw_ HB⟩⟩
 case rest =>
  clear HC4
  obtain ⟨kq, x39_3, rfl, HA, HJ3, BK601, HB⟩ := hcut
  cases kq with
  | zero => exact absurd HA.out (by simp [spec_GetCommit.j0])
  | succ kj3 =>
   have H := HA.out
   clear HA
   simp only [spec_GetCommit.j0] at H
   replace H := itb_ H; obtain ⟨rfl, H⟩ | ⟨rfl, H⟩ := H
   ·obtain ⟨y605, hy605⟩ : ∃ y_ : List ByteArray, y_ = (([] : List ByteArray)) := ⟨_, rfl⟩
    replace H : (some (0, (⟨#[]⟩ : ByteArray), y605, a1, false)) = some (r1, r2, r3, r4, r5) := yh_ hy605 H
    have Ny605 := Aside0.mk hy605
    clear hy605
    replace H := so5_ H; obtain ⟨rfl, rfl, rfl, rfl, rfl⟩ := H
    go_wp2_with (first | ((with_reducible refine gd_ 41 ?_); (try (refine gate_guard (by rfl) ?_; dsimp only)); refine rl_ Kd.string 9 41 ([] : List ByteArray) [] ?_; intro v606 w8 ho9 hb hg_ hnew_; clear hg_ hnew_; (first | rw [← Ny605.out] at ho9 | (simp only [Int.reduceToNat] at ho9; rw [← Ny605.out] at ho9)); have HO607 := Aside0.mk (Kd.R_lower ho9 (sz_ HB)); replace BK601 := kl_ BK601 hb; replace HB := ss_ HB hb; clear hb ho9; have hz10 := cz2_ BK601))
    refine bodyPost_ret (results_list (rs := [.cell 4 28, .tmp 5, .tmp 6, .tmp 7]) rfl (by simp) (.cell gb601 28 #[.int .i64 0, .string (⟨#[]⟩ : ByteArray)] (0, 0) _ rfl (by exact kq_ BK601) Try.underlying28 rfl (by kernel_rfl) (.tmp (.tmp (.tmp .nil))))) rfl ?_
    exact ⟨_, e2_, by (with_reducible repeat (first | apply Kd.R_alloc | apply Kd.R_drewN | apply Kd.R_drew)); exact Kd.R_mono (Kd.R_far (p := ⟨gb601, 1, none⟩) (Kd.R_far (p := ⟨gb601, 0, none⟩) (Kd.R_types HO607.out BK601.out (by decide)) (fun _ hk => hk.2) (.int .i64 0)) (fun _ hk => hk.2) (.string (⟨#[]⟩ : ByteArray))) (fun _ hk => trivial), bw_ HB⟩
   ·replace H := ip_ H; obtain ⟨c11, H⟩ := H
    have c11b0 := eq_true c11
    have c11b1 := decide_eq_true c11
    clear c11
    replace H := ip_ H; obtain ⟨c12, H⟩ := H
    have c12b0 := eq_true c12
    have c12b1 := decide_eq_true c12
    replace H := ip_ H; obtain ⟨c13, H⟩ := H
    have c13b0 := eq_true c13
    have c13b1 := decide_eq_true c13
    replace H := bi_ H; obtain ⟨⟨t609, t610, t611⟩, A14, H⟩ := H
    dsimp only at H
    replace H := bi_ H; obtain ⟨⟨t612, t613, t614⟩, A15, H⟩ := H
    dsimp only at H
    replace H := bi_ H; obtain ⟨⟨t615, t616, t617⟩, A16, H⟩ := H
    dsimp only at H
    obtain ⟨i0116, hi0116, _, hsz116, _⟩ := info_parts info5
    obtain ⟨A116, hcut116, hA116, hC116⟩ := print_mid_of (P := Try.prog) (Value.int .u8) 0 22 5 .i64 .i64 Try.underlying22 hi0116 hsz116 A0 c0 l0 t603 (wrap64 (t603 + t602)) (of_decide_eq_true as_) (by first | omega | exact of_decide_eq_true as_) (of_decide_eq_true as_) HC0.out
    have HR608 := Aside0.mk (Kd.C_of_reads (h1 := fun _ => rfl) (hA116 _ (Kd.reads_of_C HR0.out)))
    have HC608 := Aside0.mk hC116
    clear hA116 hC116 hi0116 hsz116
    try go_wp2_with (first | ((with_reducible refine gk_ 119 ?_); refine gl_ 51 Try.func119 #[.slice A116 ((l0.take ((wrap64 (t603 + t602)) : Int).toNat).drop (t603 : Int).toNat).length (c0 - t603.toNat), .int .i64 0] ?_ (hargs := (by (try simp only [List.map_toArray, List.map_cons, List.map_nil]); first | done | (rw [show ((l0.take ((wrap64 (t603 + t602)) : Int).toNat).drop (t603 : Int).toNat).length = ((wrap64 (t603 + t602)).toNat - t603.toNat) from (by rw [List.length_drop, List.length_take]; have h_ : ((wrap64 (t603 + t602)) : Int) ≤ (l0.length : Int) := of_decide_eq_true as_; omega)] <;> rfl) | rfl | (simp only [List.length_drop, List.length_take]; rfl))); (with_reducible refine (spec_GetNum.calls kj3 _ _ ((l0.take ((wrap64 (t603 + t602)) : Int).toNat).drop (t603 : Int).toNat) 0 t609 t610 t611 _ ?side1 ?side2 A14.out).mono ?_); (case side1 => exact cb_ HR608 HB); (case side2 => exact HC608.out); rintro e w' ⟨rfl, ⟨nd, rfl⟩⟩; refine ⟨_, rfl, ?_⟩; (try (rw [drewN_self wc]; generalize hq_ : World.drewN wc _ = wc; have n0_ : Aside0 (wc.heap[gb601]? = some (.cells #[.int .i64 0, .string (⟨#[]⟩ : ByteArray)] 28 (0, 0))) := ⟨by rw [← hq_]; exact (kb_ BK601.out)⟩; have n1_ : Aside0 (Below w.heap.size w wc) := ⟨by rw [← hq_]; exact (bw_ HB)⟩; clear BK601 HB hq_; have BK601 := n0_; have HB := n1_; clear n0_ n1_))) | ((with_reducible refine gk_ 120 ?_); refine gl_ 58 Try.func120 #[.slice A116 ((l0.take ((wrap64 (t603 + t602)) : Int).toNat).drop (t603 : Int).toNat).length (c0 - t603.toNat), .int .i64 t610] ?_ (hargs := (by (try simp only [List.map_toArray, List.map_cons, List.map_nil]); first | done | (rw [show ((l0.take ((wrap64 (t603 + t602)) : Int).toNat).drop (t603 : Int).toNat).length = ((wrap64 (t603 + t602)).toNat - t603.toNat) from (by rw [List.length_drop, List.length_take]; have h_ : ((wrap64 (t603 + t602)) : Int) ≤ (l0.length : Int) := of_decide_eq_true as_; omega)] <;> rfl) | rfl | (simp only [List.length_drop, List.length_take]; rfl))); (with_reducible refine (spec_GetText.calls kj3 _ _ ((l0.take ((wrap64 (t603 + t602)) : Int).toNat).drop (t603 : Int).toNat) t610 t612 t613 t614 _ ?side1 ?side2 A15.out).mono ?_); (case side1 => exact cb_ HR608 HB); (case side2 => exact HC608.out); rintro e w' ⟨rfl, ⟨nd, rfl⟩⟩; refine ⟨_, rfl, ?_⟩; (try (rw [drewN_self wc]; generalize hq_ : World.drewN wc _ = wc; have n0_ : Aside0 (wc.heap[gb601]? = some (.cells #[.int .i64 0, .string (⟨#[]⟩ : ByteArray)] 28 (0, 0))) := ⟨by rw [← hq_]; exact (kb_ BK601.out)⟩; have n1_ : Aside0 (Below w.heap.size w wc) := ⟨by rw [← hq_]; exact (bw_ HB)⟩; clear BK601 HB hq_; have BK601 := n0_; have HB := n1_; clear n0_ n1_))) | ((with_reducible refine gk_ 121 ?_); refine gl_ 65 Try.func121 #[.slice A116 ((l0.take ((wrap64 (t603 + t602)) : Int).toNat).drop (t603 : Int).toNat).length (c0 - t603.toNat), .int .i64 t613] ?_ (hargs := (by (try simp only [List.map_toArray, List.map_cons, List.map_nil]); first | done | (rw [show ((l0.take ((wrap64 (t603 + t602)) : Int).toNat).drop (t603 : Int).toNat).length = ((wrap64 (t603 + t602)).toNat - t603.toNat) from (by rw [List.length_drop, List.length_take]; have h_ : ((wrap64 (t603 + t602)) : Int) ≤ (l0.length : Int) := of_decide_eq_true as_; omega)] <;> rfl) | rfl | (simp only [List.length_drop, List.length_take]; rfl))); (with_reducible refine (spec_GetTexts.calls kj3 _ _ ((l0.take ((wrap64 (t603 + t602)) : Int).toNat).drop (t603 : Int).toNat) t613 t615 t616 t617 _ ?side1 ?side2 A16.out).mono ?_); (case side1 => exact cb_ HR608 HB); (case side2 => exact HC608.out); rintro e w117 ⟨v618, rfl, ho0, hb⟩; refine ⟨_, rfl, ?_⟩; have HO619 := Aside0.mk (Kd.R_lower ho0 (sz_ HB)); replace BK601 := kl_ BK601 hb; replace HB := ss_ HB hb; clear hb ho0) | ((with_reducible refine gd_ 21 ?_); (try (refine gate_guard (by rfl) ?_; dsimp only)); refine bx_ 21 28 #[.int .i64 0, .string (⟨#[]⟩ : ByteArray)] ?_; intro gb620 hg w118 hbox hb; replace HO619 := rb_ HO619 hb; have BK620 := Aside0.mk hbox; have GW620 := gg_ hg HB; have GE620 := GW620; replace HB := ss_ HB hb; have NB601_620 := Aside0.mk ((by rw [hg]; exact Nat.ne_of_lt (blk_lt (kb_ BK601.out)) : gb601 ≠ gb620)); have NB620_601 := Aside0.mk ((by rw [hg]; exact Nat.ne_of_gt (blk_lt (kb_ BK601.out)) : gb620 ≠ gb601)); replace BK601 := kl_ BK601 hb; clear hb hbox hg; have hnb119 := NB620_601.out; have hnc119 := NB601_620.out; have hz120 := cz2_ BK620))
    have n0_ : Aside0 (Kd.R Kd.string 9 ((w118.setCell ⟨gb620, 0, none⟩ (.int .i64 t609)).setCell ⟨gb620, 1, none⟩ (.string t612)) w.heap.size (fun _ => True) v618 t615) := ⟨by (with_reducible repeat (first | apply Kd.R_alloc | apply Kd.R_drewN | apply Kd.R_drew)); exact Kd.R_mono (Kd.R_far (p := ⟨gb620, 1, none⟩) (Kd.R_far (p := ⟨gb620, 0, none⟩) (Kd.R_types HO619.out BK620.out (by decide)) (fun _ hk => hk.2) (.int .i64 t609)) (fun _ hk => hk.2) (.string t612)) (fun _ hk => trivial)⟩
    have n1_ : Aside0 (((w118.setCell ⟨gb620, 0, none⟩ (.int .i64 t609)).setCell ⟨gb620, 1, none⟩ (.string t612)).heap[gb601]? = some (.cells #[.int .i64 0, .string (⟨#[]⟩ : ByteArray)] 28 (0, 0))) := ⟨kq_ BK601⟩
    have n2_ : Aside0 (((w118.setCell ⟨gb620, 0, none⟩ (.int .i64 t609)).setCell ⟨gb620, 1, none⟩ (.string t612)).heap[gb620]? = some (.cells #[.int .i64 t609, .string t612] 28 (0, 0))) := ⟨kq_ BK620⟩
    have n3_ : Aside0 (Below w.heap.size w ((w118.setCell ⟨gb620, 0, none⟩ (.int .i64 t609)).setCell ⟨gb620, 1, none⟩ (.string t612))) := ⟨bw_ HB⟩
    generalize ((w118.setCell ⟨gb620, 0, none⟩ (.int .i64 t609)).setCell ⟨gb620, 1, none⟩ (.string t612)) = w121 at n0_ n1_ n2_ n3_ ⊢
    have HO619 := n0_
    have BK601 := n1_
    have BK620 := n2_
    have HB := n3_
    clear n0_ n1_ n2_ n3_
    replace HO619 := Aside0.mk (Kd.R_drew HO619.out)
    replace BK601 := Aside0.mk (blk_drew BK601.out)
    replace BK620 := Aside0.mk (blk_drew BK620.out)
    replace HB := Aside0.mk (below_drew1 HB.out)
    obtain ⟨Ao52, co52, eo52⟩ := Kd.R_slice HO619.out
    subst eo52
    have hlenq : ((l0.take ((wrap64 (t603 + t602)) : Int).toNat).drop (t603 : Int).toNat).length = ((wrap64 (t603 + t602)).toNat - t603.toNat) := (by rw [List.length_drop, List.length_take]; have h_ : ((wrap64 (t603 + t602)) : Int) ≤ (l0.length : Int) := of_decide_eq_true as_; omega)
    refine start_ (n := 42) (S := fun w' => w'.cell? ⟨gb620, 0, none⟩ = some (.int .i64 t609) ∧ w'.cell? ⟨gb620, 1, none⟩ = some (.string t612) ∧ Kd.C (Kd.int .u8) w' A0 l0.length l0) (ds := []) (lz_ 42 0) (by kernel_rfl) rfl rfl ⟨bc0_ BK620.out, bc1_ BK620.out, Kd.C_below HR0.out HB.out⟩ (fun hHeld => ?_); refine with_tabW spec_GetCommit.tab9 spec_GetCommit.bits9 (fun HT_ HW_ => ?_)
    generalize w121.drew = w122 at HO619 BK601 BK620 HB hHeld ⊢
    refine join_ (σ := List Value) 0 (lz_ 42 4398046511103) (fun s => [(72, s.getD 0 undef), (73, s.getD 1 undef), (74, s.getD 2 undef), (75, s.getD 3 undef), (76, s.getD 4 undef), (77, s.getD 5 undef), (78, s.getD 6 undef), (79, s.getD 7 undef), (80, s.getD 8 undef), (81, s.getD 9 undef), (82, s.getD 10 undef), (83, s.getD 11 undef), (84, s.getD 12 undef), (85, s.getD 13 undef), (86, s.getD 14 undef), (87, s.getD 15 undef), (88, s.getD 16 undef), (89, s.getD 17 undef), (90, s.getD 18 undef), (91, s.getD 19 undef), (92, s.getD 20 undef), (93, s.getD 21 undef), (94, s.getD 22 undef), (95, s.getD 23 undef), (96, s.getD 24 undef), (97, s.getD 25 undef), (98, s.getD 26 undef), (99, s.getD 27 undef), (100, s.getD 28 undef), (101, s.getD 29 undef), (102, s.getD 30 undef), (103, s.getD 31 undef), (104, s.getD 32 undef), (105, s.getD 33 undef), (106, s.getD 34 undef), (107, s.getD 35 undef), (108, s.getD 36 undef), (109, s.getD 37 undef), (110, s.getD 38 undef), (111, s.getD 39 undef), (112, s.getD 40 undef), (113, .bool true)]) (fun (s : List Value) (w' : World) => some ((0 : Int), (⟨#[]⟩ : ByteArray), ([] : List ByteArray), a1, false) = some (r1, r2, r3, r4, r5) ∧ Kd.R Kd.string 9 w' w.heap.size (fun _ => True) (.slice Ao52 t615.length co52) t615 ∧ w'.heap[gb601]? = some (.cells #[.int .i64 0, .string (⟨#[]⟩ : ByteArray)] 28 (0, 0)) ∧ w'.heap[gb620]? = some (.cells #[.int .i64 t609, .string t612] 28 (0, 0)) ∧ Below w.heap.size w w') ?_ ?_
    rotate_left
    ·intro hJ41
     refine join_ (σ := List Value) 16 (lz_ 42 67108863) (fun s => [(72, s.getD 0 undef), (73, s.getD 1 undef), (74, s.getD 2 undef), (75, s.getD 3 undef), (76, s.getD 4 undef), (77, s.getD 5 undef), (78, s.getD 6 undef), (79, s.getD 7 undef), (80, s.getD 8 undef), (81, s.getD 9 undef), (82, s.getD 10 undef), (83, s.getD 11 undef), (84, s.getD 12 undef), (85, s.getD 13 undef), (86, s.getD 14 undef), (87, s.getD 15 undef), (88, s.getD 16 undef), (89, s.getD 17 undef), (90, s.getD 18 undef), (91, s.getD 19 undef), (92, s.getD 20 undef), (93, s.getD 21 undef), (94, s.getD 22 undef), (95, s.getD 23 undef), (96, s.getD 24 undef), (97, .bool true)]) (fun (s : List Value) (w' : World) => some ((0 : Int), (⟨#[]⟩ : ByteArray), ([] : List ByteArray), a1, false) = some (r1, r2, r3, r4, r5) ∧ Kd.R Kd.string 9 w' w.heap.size (fun _ => True) (.slice Ao52 t615.length co52) t615 ∧ w'.heap[gb601]? = some (.cells #[.int .i64 0, .string (⟨#[]⟩ : ByteArray)] 28 (0, 0)) ∧ w'.heap[gb620]? = some (.cells #[.int .i64 t609, .string t612] 28 (0, 0)) ∧ Below w.heap.size w w') ?_ ?_
     rotate_left
     ·intro hJ25
      refine join_ (σ := List Value) 21 (lz_ 42 2097151) (fun s => [(72, s.getD 0 undef), (73, s.getD 1 undef), (74, s.getD 2 undef), (75, s.getD 3 undef), (76, s.getD 4 undef), (77, s.getD 5 undef), (78, s.getD 6 undef), (79, s.getD 7 undef), (80, s.getD 8 undef), (81, s.getD 9 undef), (82, s.getD 10 undef), (83, s.getD 11 undef), (84, s.getD 12 undef), (85, s.getD 13 undef), (86, s.getD 14 undef), (87, s.getD 15 undef), (88, s.getD 16 undef), (89, s.getD 17 undef), (90, s.getD 18 undef), (91, s.getD 19 undef), (92, .bool true)]) (fun (s : List Value) (w' : World) => some ((0 : Int), (⟨#[]⟩ : ByteArray), ([] : List ByteArray), a1, false) = some (r1, r2, r3, r4, r5) ∧ Kd.R Kd.string 9 w' w.heap.size (fun _ => True) (.slice Ao52 t615.length co52) t615 ∧ w'.heap[gb601]? = some (.cells #[.int .i64 0, .string (⟨#[]⟩ : ByteArray)] 28 (0, 0)) ∧ w'.heap[gb620]? = some (.cells #[.int .i64 t609, .string t612] 28 (0, 0)) ∧ Below w.heap.size w w') ?_ ?_
      rotate_left
      ·intro hJ20
       refine join_ (σ := List Value) 26 (lz_ 42 65535) (fun s => [(72, s.getD 0 undef), (73, s.getD 1 undef), (74, s.getD 2 undef), (75, s.getD 3 undef), (76, s.getD 4 undef), (77, s.getD 5 undef), (78, s.getD 6 undef), (79, s.getD 7 undef), (80, s.getD 8 undef), (81, s.getD 9 undef), (82, s.getD 10 undef), (83, s.getD 11 undef), (84, s.getD 12 undef), (85, s.getD 13 undef), (86, s.getD 14 undef), (87, .bool true)]) (fun (s : List Value) (w' : World) => some ((0 : Int), (⟨#[]⟩ : ByteArray), ([] : List ByteArray), a1, false) = some (r1, r2, r3, r4, r5) ∧ Kd.R Kd.string 9 w' w.heap.size (fun _ => True) (.slice Ao52 t615.length co52) t615 ∧ w'.heap[gb601]? = some (.cells #[.int .i64 0, .string (⟨#[]⟩ : ByteArray)] 28 (0, 0)) ∧ w'.heap[gb620]? = some (.cells #[.int .i64 t609, .string t612] 28 (0, 0)) ∧ Below w.heap.size w w') ?_ ?_
       rotate_left
       ·intro hJ15
        refine join_ (σ := List Value) 32 (lz_ 42 1023) (fun s => [(72, s.getD 0 undef), (73, s.getD 1 undef), (74, s.getD 2 undef), (75, s.getD 3 undef), (76, s.getD 4 undef), (77, s.getD 5 undef), (78, s.getD 6 undef), (79, s.getD 7 undef), (80, s.getD 8 undef), (81, .bool true)]) (fun (s : List Value) (w' : World) => some ((0 : Int), (⟨#[]⟩ : ByteArray), ([] : List ByteArray), a1, false) = some (r1, r2, r3, r4, r5) ∧ Kd.R Kd.string 9 w' w.heap.size (fun _ => True) (.slice Ao52 t615.length co52) t615 ∧ w'.heap[gb601]? = some (.cells #[.int .i64 0, .string (⟨#[]⟩ : ByteArray)] 28 (0, 0)) ∧ w'.heap[gb620]? = some (.cells #[.int .i64 t609, .string t612] 28 (0, 0)) ∧ Below w.heap.size w w') ?_ ?_
        rotate_left
        ·intro hJ9
         refine join_ (σ := List Value) 36 (lz_ 42 63) (fun s => [(72, s.getD 0 undef), (73, s.getD 1 undef), (74, s.getD 2 undef), (75, s.getD 3 undef), (76, s.getD 4 undef), (77, .bool true)]) (fun (s : List Value) (w' : World) => some ((0 : Int), (⟨#[]⟩ : ByteArray), ([] : List ByteArray), a1, false) = some (r1, r2, r3, r4, r5) ∧ Kd.R Kd.string 9 w' w.heap.size (fun _ => True) (.slice Ao52 t615.length co52) t615 ∧ w'.heap[gb601]? = some (.cells #[.int .i64 0, .string (⟨#[]⟩ : ByteArray)] 28 (0, 0)) ∧ w'.heap[gb620]? = some (.cells #[.int .i64 t609, .string t612] 28 (0, 0)) ∧ Below w.heap.size w w') ?_ ?_
         rotate_left
         ·intro hJ5
          cases t611 with
          | false =>
           rw [if_neg (by decide)] at H
           refine pts_ 0 72 1 ?_
           refine pts_ 1 73 3 ?_
           refine pts_ 2 74 7 ?_
           refine uts_ 3 75 15 ?_
           refine uts_ 4 76 31 ?_
           refine pts_ 5 77 63 ?_
           exact njs_ (hJ5 [_, _, _, _, _] _ ⟨H, (kr_ HO619.out), (kb_ BK601.out), (kb_ BK620.out), (bw_ HB)⟩)
          | true =>
           rw [if_pos rfl] at H
           refine pts_ 0 72 1 ?_
           refine pts_ 1 73 3 ?_
           refine pts_ 2 74 7 ?_
           cases t614 with
           | false =>
            rw [if_neg (by decide)] at H
            refine pts_ 3 75 15 ?_
            refine pts_ 4 76 31 ?_
            refine pts_ 5 77 63 ?_
            exact njs_ (hJ5 [_, _, _, _, _] _ ⟨H, (kr_ HO619.out), (kb_ BK601.out), (kb_ BK620.out), (bw_ HB)⟩)
           | true =>
            rw [if_pos rfl] at H
            refine pts_ 3 75 15 ?_
            refine pts_ 4 76 31 ?_
            refine pts_ 5 77 63 ?_
            cases t617 with
            | false =>
             rw [if_neg (by decide)] at H
             refine pts_ 6 78 127 ?_
             refine pts_ 7 79 255 ?_
             refine pts_ 8 80 511 ?_
             refine pts_ 9 81 1023 ?_
             exact njs_ (hJ9 [_, _, _, _, _, _, _, _, _] _ ⟨H, (kr_ HO619.out), (kb_ BK601.out), (kb_ BK620.out), (bw_ HB)⟩)
            | true =>
             rw [if_pos rfl] at H
             refine pts_ 6 78 127 ?_
             refine pts_ 7 79 255 ?_
             refine pts_ 8 80 511 ?_
             refine pts_ 9 81 1023 ?_
             refine pts_ 10 82 2047 ?_
             replace H := it_ H; obtain ⟨c20, H⟩ | ⟨c20, H⟩ := H
             ·have c20b0 : (t616 == (((l0.take ((wrap64 (t603 + t602)) : Int).toNat).drop (t603 : Int).toNat).length : Int)) = true := beq_iff_eq.mpr c20
              have c20b1 : (t616 != (((l0.take ((wrap64 (t603 + t602)) : Int).toNat).drop (t603 : Int).toNat).length : Int)) = false := bne_eq_false_iff_eq.mpr c20
              have c20n0 := c20b0
              rw [hlenq] at c20n0
              have c20n1 := c20b1
              rw [hlenq] at c20n1
              refine pts_ 11 83 4095 ?_
              refine pts_ 12 84 8191 ?_
              refine pts_ 13 85 16383 ?_
              refine pts_ 14 86 32767 ?_
              refine pts_ 15 87 65535 ?_
              refine pts_ 16 88 131071 ?_
              replace H := bi_ H; obtain ⟨t621, A21, H⟩ := H
              refine tts_ 17 89 262143 ?_
              refine one_ (i := 18) (N := some 90) (lz_ 42 524287) rfl rfl (one_of HT_.out (by kernel_rfl)) (by decide) (fun K hK => ?_)
              refine goes_ Try.func78 (by kernel_rfl) rfl #[.agg #[.int .i64 t609, .string t612]] (by rfl) rfl rfl (by (try simp only [List.map_toArray, List.map_cons, List.map_nil]); first | done | (rw [hlenq] <;> rfl) | rfl) ?_
              with_reducible refine (spec_HeadOk.calls t609 t612 t621 _ A21.out).mono ?_
              rintro e w51 ⟨rfl, hb⟩
              refine ⟨_, rfl, ?_⟩
              have n0_ := rb_ HO619 hb
              have n1_ := Aside0.mk (blk_below BK601.out hb)
              have n2_ := Aside0.mk (blk_below BK620.out hb)
              have n3_ := Aside0.mk (below_step HB.out hb)
              clear HO619 BK601 BK620 HB
              have HO619 := n0_
              have BK601 := n1_
              have BK620 := n2_
              have HB := n3_
              clear n0_ n1_ n2_ n3_
              clear hb
              refine hK.out _ _ ⟨bc0_ BK620.out, bc1_ BK620.out, Kd.C_below HR0.out HB.out⟩ (fun hHeld => ?_)
              clear hK K
              refine nos_ 90 ?_
              cases t621 with
              | false =>
               rw [if_neg (by decide)] at H
               refine pts_ 19 91 1048575 ?_
               refine pts_ 20 92 2097151 ?_
               exact njs_ (hJ20 [_, _, _, _, _, _, _, _, _, _, _, _, _, _, _, _, _, _, _, _] _ ⟨H, (kr_ HO619.out), (kb_ BK601.out), (kb_ BK620.out), (bw_ HB)⟩)
              | true =>
               rw [if_pos rfl] at H
               refine pts_ 19 91 1048575 ?_
               refine pts_ 20 92 2097151 ?_
               refine pts_ 21 93 4194303 ?_
               replace H := it_ H; obtain ⟨c23, H⟩ | ⟨c23, H⟩ := H
               ·have c23b0 : ((t615.length : Int) == 0) = true := beq_iff_eq.mpr c23
                have c23b1 : ((t615.length : Int) != 0) = false := bne_eq_false_iff_eq.mpr c23
                have c23b2 : t615 = [] := List.eq_nil_of_length_eq_zero (by omega)
                refine pts_ 22 94 8388607 ?_
                refine pts_ 23 95 16777215 ?_
                refine pts_ 24 96 33554431 ?_
                refine pts_ 25 97 67108863 ?_
                exact njs_ (hJ25 [_, _, _, _, _, _, _, _, _, _, _, _, _, _, _, _, _, _, _, _, _, _, _, _, _] _ ⟨H, (kr_ HO619.out), (kb_ BK601.out), (kb_ BK620.out), (bw_ HB)⟩)
               ·have c23b0 : ((t615.length : Int) == 0) = false := beq_eq_false_iff_ne.mpr c23
                have c23b1 : ((t615.length : Int) != 0) = true := bne_iff_ne.mpr c23
                have c23b2 : ¬ (t615 = []) := fun h_ => c23 (by rw [h_]; rfl)
                refine pts_ 22 94 8388607 ?_
                refine pts_ 23 95 16777215 ?_
                refine pts_ 24 96 33554431 ?_
                refine pts_ 25 97 67108863 ?_
                refine pts_ 26 98 134217727 ?_
                replace H := ip_ H; obtain ⟨c37, H⟩ := H
                have c37b0 := eq_true c37
                have c37b1 := decide_eq_true c37
                replace H := ip_ H; obtain ⟨c38, H⟩ := H
                have c38b0 := eq_true c38
                have c38b1 := decide_eq_true c38
                replace H := ip_ H; obtain ⟨c39, H⟩ := H
                have c39b0 := eq_true c39
                have c39b1 := decide_eq_true c39
                obtain ⟨t626, A400, H⟩ := Option.bind_eq_some_iff.mp H
                have A40 := Aside0.mk A400
                clear A400
                rw [if_pos (by decide)] at H
                replace H := ip_ H; obtain ⟨c42, H⟩ := H
                have c41b0 := eq_true (show (0 : Int) ≤ 4 by decide)
                have c41b1 : decide ((0 : Int) ≤ 4) = true := by decide
                have c42b0 := eq_true c42
                have c42b1 := decide_eq_true c42
                obtain ⟨i053, hi053, _, hsz53, _⟩ := info_parts info5
                obtain ⟨A53, hcut53, hA53, hC53⟩ := print_mid_of (P := Try.prog) (Value.int .u8) 0 22 5 .i64 .i64 Try.underlying22 hi053 hsz53 A0 c0 l0 (wrap64 (t603 + t602)) (wrap64 ((wrap64 (t603 + t602)) + 4)) c37 c38 c39 HC0.out
                have hleno : ((l0.take ((wrap64 ((wrap64 (t603 + t602)) + 4)) : Int).toNat).drop ((wrap64 (t603 + t602)) : Int).toNat).length = ((wrap64 ((wrap64 (t603 + t602)) + 4)).toNat - (wrap64 (t603 + t602)).toNat) := by rw [List.length_drop, List.length_take]; omega
                have hcut54 := hcut53
                simp only [hleno] at hcut54
                clear hi053 hsz53 hC53
                refine pts_ 27 99 268435455 ?_
                refine pts_ 28 100 536870911 ?_
                refine pts_ 29 101 1073741823 ?_
                refine pts_ 30 102 2147483647 ?_
                refine pts_ 31 103 4294967295 ?_
                refine pts_ 32 104 8589934591 ?_
                refine pts_ 33 105 17179869183 ?_
                refine pts_ 34 106 34359738367 ?_
                refine pts_ 35 107 68719476735 ?_
                refine take_ (i := 36) (N := some 108) (v := ?_) (a' := ?_) (lz_ 42 137438953471) rfl rfl (take_ofW HT_.out HW_.out (by kernel_rfl)) (fun _ _ _ h => h) (Or.inl ⟨by rfl, ?_⟩) hHeld ?_ ?_
                rotate_left
                ·rintro w' ⟨s0, s1, s2⟩
                 have hcv := Kd.C_string (P := Try.prog) (A := A53) (c := (c0 - (wrap64 (t603 + t602)).toNat)) Try.underlying22 Try.underlying5 Try.underlying9 (Kd.C_of_reads (h1 := fun _ => rfl) (hA53 _ (Kd.reads_of_C s2)))
                 have hcw := hcv
                 rw [hleno] at hcw
                 go_simp
                 with_reducible rfl
                rotate_left
                ·simp only [Act.put, sT, sZ, sS, i64_w, i32_w]
                 rfl
                refine pts_ 37 109 274877906943 ?_
                refine one_ (i := 38) (N := some 110) (lz_ 42 549755813887) rfl rfl (one_of HT_.out (by kernel_rfl)) (by decide) (fun K hK => ?_)
                refine goes_ Try.func114 (by kernel_rfl) rfl #[.slice A116 ((l0.take ((wrap64 (t603 + t602)) : Int).toNat).drop (t603 : Int).toNat).length (c0 - t603.toNat)] (by rfl) rfl rfl (by (try simp only [List.map_toArray, List.map_cons, List.map_nil]); first | done | (rw [hlenq] <;> rfl) | rfl) ?_
                with_reducible refine (spec_Digest.calls kj3 _ _ ((l0.take ((wrap64 (t603 + t602)) : Int).toNat).drop (t603 : Int).toNat) t626 _ ?side1 ?side2 A40.out).mono ?_
                (case side1 => exact cb_ HR608 HB)
                (case side2 => exact HC608.out)
                rintro e w55 ⟨rfl, hb⟩
                refine ⟨_, rfl, ?_⟩
                have n0_ := rb_ HO619 hb
                have n1_ := Aside0.mk (blk_below BK601.out hb)
                have n2_ := Aside0.mk (blk_below BK620.out hb)
                have n3_ := Aside0.mk (below_step HB.out hb)
                clear HO619 BK601 BK620 HB
                have HO619 := n0_
                have BK601 := n1_
                have BK620 := n2_
                have HB := n3_
                clear n0_ n1_ n2_ n3_
                clear hb
                refine hK.out _ _ ⟨bc0_ BK620.out, bc1_ BK620.out, Kd.C_below HR0.out HB.out⟩ (fun hHeld => ?_)
                clear hK K
                refine nos_ 110 ?_
                replace H := it_ H; obtain ⟨c43, H⟩ | ⟨c43, H⟩ := H
                ·have c43b0 : ((strOfNums ((l0.take ((wrap64 ((wrap64 (t603 + t602)) + 4)) : Int).toNat).drop ((wrap64 (t603 + t602)) : Int).toNat)).toList == (t626.extract 0 4).toList) = true := beq_iff_eq.mpr c43
                 have c43b1 : ((strOfNums ((l0.take ((wrap64 ((wrap64 (t603 + t602)) + 4)) : Int).toNat).drop ((wrap64 (t603 + t602)) : Int).toNat)).toList != (t626.extract 0 4).toList) = false := bne_eq_false_iff_eq.mpr c43
                 clear c43
                 replace H := so5_ H; obtain ⟨rfl, rfl, rfl, rfl, rfl⟩ := H
                 refine pts_ 39 111 1099511627775 ?_
                 refine pts_ 40 112 2199023255551 ?_
                 refine pts_ 41 113 4398046511103 ?_
                 refine done_ (done_of HT_.out (by kernel_rfl)) ?_
                 have hz57 := cz2_ BK620
                 have hz58 := cz2_ BK601
                 try go_wp2
                 refine bodyPost_ret (results_list (rs := [.cell 4 28, .tmp 5, .tmp 6, .tmp 7]) rfl (by simp) (.cell gb601 28 #[.int .i64 t609, .string t612] (0, 0) _ rfl (by exact kq_ BK601) Try.underlying28 rfl (by kernel_rfl) (.tmp (.tmp (.tmp .nil))))) rfl ?_
                 exact ⟨_, by first | rfl | (simp [errW_none, errW_some] <;> rfl) | (first | rfl | (simp [errW_none, errW_some] <;> rfl)) | (simp [*, errW_none, errW_some] <;> rfl), by (with_reducible repeat (first | apply Kd.R_alloc | apply Kd.R_drewN | apply Kd.R_drew)); exact Kd.R_mono (Kd.R_far (p := ⟨gb601, 1, none⟩) (Kd.R_far (p := ⟨gb601, 0, none⟩) (Kd.R_types HO619.out BK601.out (by decide)) (fun _ hk => hk.2) (.int .i64 t609)) (fun _ hk => hk.2) (.string t612)) (fun _ hk => trivial), bw_ HB⟩
                ·have c43b0 : ((strOfNums ((l0.take ((wrap64 ((wrap64 (t603 + t602)) + 4)) : Int).toNat).drop ((wrap64 (t603 + t602)) : Int).toNat)).toList == (t626.extract 0 4).toList) = false := beq_eq_false_iff_ne.mpr c43
                 have c43b1 : ((strOfNums ((l0.take ((wrap64 ((wrap64 (t603 + t602)) + 4)) : Int).toNat).drop ((wrap64 (t603 + t602)) : Int).toNat)).toList != (t626.extract 0 4).toList) = true := bne_iff_ne.mpr c43
                 refine pts_ 39 111 1099511627775 ?_
                 refine pts_ 40 112 2199023255551 ?_
                 refine pts_ 41 113 4398046511103 ?_
                 exact njs_ (hJ41 [_, _, _, _, _, _, _, _, _, _, _, _, _, _, _, _, _, _, _, _, _, _, _, _, _, _, _, _, _, _, _, _, _, _, _, _, _, _, _, _, _] _ ⟨H, (kr_ HO619.out), (kb_ BK601.out), (kb_ BK620.out), (bw_ HB)⟩)
             ·have c20b0 : (t616 == (((l0.take ((wrap64 (t603 + t602)) : Int).toNat).drop (t603 : Int).toNat).length : Int)) = false := beq_eq_false_iff_ne.mpr c20
              have c20b1 : (t616 != (((l0.take ((wrap64 (t603 + t602)) : Int).toNat).drop (t603 : Int).toNat).length : Int)) = true := bne_iff_ne.mpr c20
              have c20n0 := c20b0
              rw [hlenq] at c20n0
              have c20n1 := c20b1
              rw [hlenq] at c20n1
              refine pts_ 11 83 4095 ?_
              refine pts_ 12 84 8191 ?_
              refine pts_ 13 85 16383 ?_
              refine pts_ 14 86 32767 ?_
              refine pts_ 15 87 65535 ?_
              exact njs_ (hJ15 [_, _, _, _, _, _, _, _, _, _, _, _, _, _, _] _ ⟨H, (kr_ HO619.out), (kb_ BK601.out), (kb_ BK620.out), (bw_ HB)⟩)
         ·rintro s w122 ⟨H, hF0, hF1, hF2, hF3⟩
          have HO619 := Aside0.mk hF0
          have BK601 := Aside0.mk hF1
          have BK620 := Aside0.mk hF2
          have HB := Aside0.mk hF3
          clear hF0 hF1 hF2 hF3
          refine norm_ (a' := ?_) ?_ ?_
          rotate_left
          ·simp only [putAll, Act.put, sT, sZ, sS]
           rfl
          refine pts_ 6 78 127 ?_
          refine uts_ 7 79 255 ?_
          refine uts_ 8 80 511 ?_
          refine pts_ 9 81 1023 ?_
          exact njs_ (hJ9 [_, _, _, _, _, _, _, _, _] _ ⟨H, (kr_ HO619.out), (kb_ BK601.out), (kb_ BK620.out), (bw_ HB)⟩)
        ·rintro s w122 ⟨H, hF0, hF1, hF2, hF3⟩
         have HO619 := Aside0.mk hF0
         have BK601 := Aside0.mk hF1
         have BK620 := Aside0.mk hF2
         have HB := Aside0.mk hF3
         clear hF0 hF1 hF2 hF3
         refine norm_ (a' := ?_) ?_ ?_
         rotate_left
         ·simp only [putAll, Act.put, sT, sZ, sS]
          rfl
         refine pts_ 10 82 2047 ?_
         refine uts_ 11 83 4095 ?_
         refine uts_ 12 84 8191 ?_
         refine uts_ 13 85 16383 ?_
         refine uts_ 14 86 32767 ?_
         refine pts_ 15 87 65535 ?_
         exact njs_ (hJ15 [_, _, _, _, _, _, _, _, _, _, _, _, _, _, _] _ ⟨H, (kr_ HO619.out), (kb_ BK601.out), (kb_ BK620.out), (bw_ HB)⟩)
       ·rintro s w122 ⟨H, hF0, hF1, hF2, hF3⟩
        have HO619 := Aside0.mk hF0
        have BK601 := Aside0.mk hF1
        have BK620 := Aside0.mk hF2
        have HB := Aside0.mk hF3
        clear hF0 hF1 hF2 hF3
        refine norm_ (a' := ?_) ?_ ?_
        rotate_left
        ·simp only [putAll, Act.put, sT, sZ, sS]
         rfl
        refine pts_ 16 88 131071 ?_
        refine uts_ 17 89 262143 ?_
        refine uts_ 18 90 524287 ?_
        refine uts_ 19 91 1048575 ?_
        refine pts_ 20 92 2097151 ?_
        exact njs_ (hJ20 [_, _, _, _, _, _, _, _, _, _, _, _, _, _, _, _, _, _, _, _] _ ⟨H, (kr_ HO619.out), (kb_ BK601.out), (kb_ BK620.out), (bw_ HB)⟩)
      ·rintro s w122 ⟨H, hF0, hF1, hF2, hF3⟩
       have HO619 := Aside0.mk hF0
       have BK601 := Aside0.mk hF1
       have BK620 := Aside0.mk hF2
       have HB := Aside0.mk hF3
       clear hF0 hF1 hF2 hF3
       refine norm_ (a' := ?_) ?_ ?_
       rotate_left
       ·simp only [putAll, Act.put, sT, sZ, sS]
        rfl
       refine pts_ 21 93 4194303 ?_
       refine uts_ 22 94 8388607 ?_
       refine uts_ 23 95 16777215 ?_
       refine uts_ 24 96 33554431 ?_
       refine pts_ 25 97 67108863 ?_
       exact njs_ (hJ25 [_, _, _, _, _, _, _, _, _, _, _, _, _, _, _, _, _, _, _, _, _, _, _, _, _] _ ⟨H, (kr_ HO619.out), (kb_ BK601.out), (kb_ BK620.out), (bw_ HB)⟩)
     ·rintro s w122 ⟨H, hF0, hF1, hF2, hF3⟩
      have HO619 := Aside0.mk hF0
      have BK601 := Aside0.mk hF1
      have BK620 := Aside0.mk hF2
      have HB := Aside0.mk hF3
      clear hF0 hF1 hF2 hF3
      refine norm_ (a' := ?_) ?_ ?_
      rotate_left
      ·simp only [putAll, Act.put, sT, sZ, sS]
       rfl
      refine pts_ 26 98 134217727 ?_
      refine uts_ 27 99 268435455 ?_
      refine uts_ 28 100 536870911 ?_
      refine uts_ 29 101 1073741823 ?_
      refine uts_ 30 102 2147483647 ?_
      refine uts_ 31 103 4294967295 ?_
      refine uts_ 32 104 8589934591 ?_
      refine uts_ 33 105 17179869183 ?_
      refine uts_ 34 106 34359738367 ?_
      refine uts_ 35 107 68719476735 ?_
      refine uts_ 36 108 137438953471 ?_
      refine uts_ 37 109 274877906943 ?_
      refine uts_ 38 110 549755813887 ?_
      refine uts_ 39 111 1099511627775 ?_
      refine uts_ 40 112 2199023255551 ?_
      refine pts_ 41 113 4398046511103 ?_
      exact njs_ (hJ41 [_, _, _, _, _, _, _, _, _, _, _, _, _, _, _, _, _, _, _, _, _, _, _, _, _, _, _, _, _, _, _, _, _, _, _, _, _, _, _, _, _] _ ⟨H, (kr_ HO619.out), (kb_ BK601.out), (kb_ BK620.out), (bw_ HB)⟩)
    ·rintro s w122 ⟨H, hF0, hF1, hF2, hF3⟩
     have HO619 := Aside0.mk hF0
     have BK601 := Aside0.mk hF1
     have BK620 := Aside0.mk hF2
     have HB := Aside0.mk hF3
     clear hF0 hF1 hF2 hF3
     refine norm_ (a' := ?_) ?_ ?_
     rotate_left
     ·simp only [putAll, Act.put, sT, sZ, sS]
      rfl
     obtain ⟨y642, hy642⟩ : ∃ y_ : List ByteArray, y_ = ([] : List ByteArray) := ⟨_, rfl⟩
     rw [← hy642] at H
     have Ny642 := Aside0.mk hy642
     clear hy642
     replace H := so5_ H; obtain ⟨rfl, rfl, rfl, rfl, rfl⟩ := H
     refine done_ (done_of HT_.out (by kernel_rfl)) ?_
     try go_wp2_with (first | ((with_reducible refine gd_ 115 ?_); (try (refine gate_guard (by rfl) ?_; dsimp only)); refine rl_ Kd.string 9 115 ([] : List ByteArray) [] ?_; intro v643 w123 ho124 hb hg_ hnew_; clear hg_ hnew_; (first | rw [← Ny642.out] at ho124 | (simp only [Int.reduceToNat] at ho124; rw [← Ny642.out] at ho124)); have HO644 := Aside0.mk (Kd.R_lower (Kd.R_new' ho124 (lt_ HO619)) (sz_ HB)); replace HO619 := re_ HO619 ho124 hb; replace BK601 := kl_ BK601 hb; replace BK620 := kl_ BK620 hb; replace HB := ss_ HB hb; clear hb ho124; have hz125 := cz2_ BK601))
     refine bodyPost_ret (results_list (rs := [.cell 4 28, .tmp 5, .tmp 6, .tmp 7]) rfl (by simp) (.cell gb601 28 #[.int .i64 0, .string (⟨#[]⟩ : ByteArray)] (0, 0) _ rfl (by exact kq_ BK601) Try.underlying28 rfl (by kernel_rfl) (.tmp (.tmp (.tmp .nil))))) rfl ?_
     exact ⟨_, e2_, by (with_reducible repeat (first | apply Kd.R_alloc | apply Kd.R_drewN | apply Kd.R_drew)); exact Kd.R_mono (Kd.R_far (p := ⟨gb601, 1, none⟩) (Kd.R_far (p := ⟨gb601, 0, none⟩) (Kd.R_types HO644.out BK601.out (by decide)) (fun _ hk => hk.2) (.int .i64 0)) (fun _ hk => hk.2) (.string (⟨#[]⟩ : ByteArray))) (fun _ hk => trivial), bw_ HB⟩
end Go.Proofs.Ytjnnglphdaemaaa.Q
end

section
/- The reference's GetCommit reads the same. Plain. -/
namespace Go.Proofs.Ytjnnglphdaemaaa.Q
open Go.RowKit Go.Proofs.Ytjnnglphdaemaaa.B Go.Proofs.YtjnnglphdaemaaaW.PrintWords Go.Proofs.YtjnnglphdaemaaaW.PrintMore
set_option linter.unusedVariables false
set_option linter.unusedSimpArgs false

theorem nums_bytes (s : ByteArray) : strOfNums (bytesOf s) = s := bytesOf_inj (bytes_nums _ (inB_text s))
theorem sum_iff {G : List Int} (hG : InB G) (B : List Int) : (strOfNums G).toList = ((sha B).extract 0 4).toList ↔ G = sumB B := by
  unfold sumB
  constructor
  · intro h
    rw [← bytes_nums G hG, bytes_ext h]
  · intro h
    rw [h, nums_bytes]
set_option maxHeartbeats 1000000 in
theorem getCommitS (b : List Int) (hb : InB b) (hl : b.length ≤ 10000000) (at_ : Int) (h0 : -9223372036854775808 ≤ at_) (h1 : at_ ≤ 9223372036854775807) :
    ∃ n s t nx ok, Ev (fun q => spec_GetCommit.f q b at_) (n, s, t, nx, ok) ∧ t.length ≤ 200 ∧ CommitOf b at_ n s t nx ok := by
  obtain ⟨m, x, ok, e2, _, hN⟩ := getNum_both b hb (by omega) at_ h0 h1
  have jT : ∀ m x : Int, Ev (fun q => spec_GetCommit.j0 q b at_ m x true) (0, (⟨#[]⟩ : ByteArray), ([] : List ByteArray), at_, false) := fun m x => by
    refine Ev.step (fun q => by simp only [spec_GetCommit.j0]; rfl) ?_
    exact Ev.pos trivial (Ev.now _)
  have bad : ∀ P : Prop, (∀ (a N : Nat) (s' : ByteArray) (t' : List ByteArray) r, at_ = (a : Int) → b.drop a = commitB N s' t' ++ r → headOk (N : Int) s' = true → 1 ≤ t'.length → t'.length ≤ 200 → (∀ x ∈ t', x.size ≤ 1000000000) → False) → CommitOf b at_ 0 ⟨#[]⟩ [] at_ false := fun _ h => ⟨fun q => (by cases q), fun _ => ⟨rfl, rfl, rfl, rfl, h⟩⟩
  unfold spec_GetCommit.f
  cases ok with
  | false =>
    obtain ⟨rfl, rfl, h3⟩ := hN.1 rfl
    refine ⟨0, ⟨#[]⟩, [], at_, false, Ev.bind e2 (Ev.neg (by simp) (jT _ _)), by simp, bad True fun a N s' t' r ha hr _ _ _ _ => ?_⟩
    unfold commitB at hr
    rw [List.append_assoc] at hr
    refine h3 a _ _ ha hr ?_
    have := congrArg List.length hr
    simp only [List.length_append, List.length_drop] at this
    omega
  | true =>
    obtain ⟨a, m, rfl, rfl, hm, hd, rfl, hle⟩ := hN.2 rfl
    have hp1 := num_pos m
    obtain ⟨p, hp⟩ : ∃ p, a + (num m).length = p := ⟨_, rfl⟩
    rw [hp] at e2 hd hle
    clear hN
    have cut : ∀ (N : Nat) (s' : ByteArray) (t' : List ByteArray) r, b.drop a = commitB N s' t' ++ r → m = (bodyB N s' t').length ∧ b.drop p = bodyB N s' t' ++ (sumB (bodyB N s' t') ++ r) := fun N s' t' r hr => by
      unfold commitB at hr
      rw [hd, List.append_assoc, List.append_assoc] at hr
      exact num_inj _ _ _ _ hr
    have w1 : wrap64 ((b.length : Int) - (p : Int)) = (b.length : Int) - (p : Int) := w64 (by omega) (by omega)
    have w2 : wrap64 ((b.length : Int) - (p : Int) - 4) = (b.length : Int) - (p : Int) - 4 := w64 (by omega) (by omega)
    by_cases hg : (m : Int) > (b.length : Int) - (p : Int) - 4
    · refine ⟨0, ⟨#[]⟩, [], (a : Int), false, ?_, by simp, bad True fun a' N s' t' r ha hr _ _ _ _ => ?_⟩
      · refine Ev.bind e2 (Ev.pos rfl ?_)
        simp only [w1, w2, decide_eq_true hg]
        exact jT _ _
      · obtain rfl : a = a' := by omega
        obtain ⟨k1, k2⟩ := cut N s' t' r hr
        have := congrArg List.length k2
        simp only [List.length_append, List.length_drop, sumB_length] at this
        omega
    · have w3 : wrap64 ((p : Int) + (m : Int)) = ((p + m : Nat) : Int) := by
        rw [w64 (by omega) (by omega)]
        omega
      have w4 : wrap64 (((p + m : Nat) : Int) + 4) = ((p + m + 4 : Nat) : Int) := by
        rw [w64 (by omega) (by omega)]
        omega
      have t1 : ((p + m : Nat) : Int).toNat = p + m := Int.toNat_natCast _
      have t2 : (p : Int).toNat = p := Int.toNat_natCast _
      have t3 : ((p + m + 4 : Nat) : Int).toNat = p + m + 4 := Int.toNat_natCast _
      obtain ⟨B, hB⟩ : ∃ B, (b.take (p + m)).drop p = B := ⟨_, rfl⟩
      have hB2 : B = (b.drop p).take m := by
        rw [← hB, List.drop_take]
        congr 1
        omega
      have hBl : B.length = m := by
        rw [hB2, List.length_take, List.length_drop]
        omega
      have hBb : InB B := by
        rw [hB2]
        exact inB_take (inB_drop hb p) m
      obtain ⟨G, hG⟩ : ∃ G, (b.take (p + m + 4)).drop (p + m) = G := ⟨_, rfl⟩
      have hGb : InB G := by
        rw [← hG]
        exact inB_drop (inB_take hb _) _
      have hBG : b.drop p = B ++ (G ++ b.drop (p + m + 4)) := by
        have i1 : b.drop p = (b.drop p).take m ++ (b.drop p).drop m := (List.take_append_drop _ _).symm
        have i2 : b.drop (p + m) = (b.drop (p + m)).take 4 ++ (b.drop (p + m)).drop 4 := (List.take_append_drop _ _).symm
        have i3 : G = (b.drop (p + m)).take 4 := by
          rw [← hG, List.drop_take]
          congr 1
          omega
        rw [List.drop_drop] at i1 i2
        rw [← i3] at i2
        rw [← hB2, i2] at i1
        exact i1
      have cutB : ∀ (N : Nat) (s' : ByteArray) (t' : List ByteArray) r, b.drop a = commitB N s' t' ++ r → B = bodyB N s' t' ∧ G = sumB (bodyB N s' t') := fun N s' t' r hr => by
        obtain ⟨k1, k2⟩ := cut N s' t' r hr
        rw [hBG] at k2
        obtain ⟨k3, k4⟩ := List.append_inj k2 (by rw [hBl, k1])
        refine ⟨k3, (List.append_inj k4 ?_).1⟩
        rw [sumB_length, ← hG, List.length_drop, List.length_take]
        omega
      have start : ∀ r, Ev (fun q => (spec_GetNum.f q B 0).bind fun bt609 => ((spec_GetText.f q B bt609.2.1).bind fun bt612 => ((spec_GetTexts.f q B bt612.2.1).bind fun bt615 => (if bt609.2.2 = true then (if bt612.2.2 = true then (if bt615.2.2 = true then (if bt615.2.1 = (B.length : Int) then ((spec_HeadOk.f bt609.1 bt612.1).bind fun t621 => (if t621 = true then (if (bt615.1.length : Int) = 0 then (some (0, (⟨#[]⟩ : ByteArray), (([] : List ByteArray)), (a : Int), false)) else ((spec_Digest.f q B).bind fun t626 => (if 4 ≤ (t626.size : Int) then (if (strOfNums G).toList = (t626.extract 0 4).toList then (some (bt609.1, bt612.1, bt615.1, ((p + m + 4 : Nat) : Int), true)) else (some (0, (⟨#[]⟩ : ByteArray), (([] : List ByteArray)), (a : Int), false))) else (none)))) else (some (0, (⟨#[]⟩ : ByteArray), (([] : List ByteArray)), (a : Int), false)))) else (some (0, (⟨#[]⟩ : ByteArray), (([] : List ByteArray)), (a : Int), false))) else (some (0, (⟨#[]⟩ : ByteArray), (([] : List ByteArray)), (a : Int), false))) else (some (0, (⟨#[]⟩ : ByteArray), (([] : List ByteArray)), (a : Int), false))) else (some (0, (⟨#[]⟩ : ByteArray), (([] : List ByteArray)), (a : Int), false)))))) r → Ev (fun q => (spec_GetNum.f q b (a : Int)).bind fun bt602 => (if bt602.2.2 = true then (spec_GetCommit.j0 q b (a : Int) bt602.1 bt602.2.1 (decide (bt602.1 > (wrap64 ((wrap64 ((b.length : Int) - bt602.2.1)) - 4))))) else (spec_GetCommit.j0 q b (a : Int) bt602.1 bt602.2.1 true))) r := fun r hr => by
        refine Ev.bind e2 (Ev.pos rfl ?_)
        simp only [w1, w2, decide_eq_false hg]
        have i1 : (0 : Int) ≤ ((p + m : Nat) : Int) := by omega
        have i2 : ((p + m : Nat) : Int) ≤ ((p + m + 4 : Nat) : Int) := by omega
        have i3 : ((p + m + 4 : Nat) : Int) ≤ (b.length : Int) := by omega
        have i4 : (0 : Nat) ≤ 4 := by decide
        refine Ev.step (fun q => by simp only [spec_GetCommit.j0, w3, w4, t1, t2, t3, hB, hG, if_pos i1, if_pos i2, if_pos i3, if_pos i4]; rfl) ?_
        exact Ev.neg (by simp) (Ev.pos (by omega) (Ev.pos (by omega) (Ev.pos (by omega) hr)))
      rcases num_step B hBb (by omega) 0 (by omega) with ⟨g0, _, z0⟩ | ⟨v0, p1, q0, l0, y0, r0, g0, _⟩
      · obtain ⟨u1, x1, o1, s1, r1⟩ := text_any B hBb (by omega) 0 (by omega)
        obtain ⟨u2, x2, o2, s2, r2⟩ := texts_any B hBb (by omega) x1 (by omega)
        refine ⟨0, ⟨#[]⟩, [], (a : Int), false, start _ (Ev.bind g0 (Ev.bind s1 (Ev.bind s2 (Ev.neg (by simp) (Ev.now _))))), by simp, bad True fun a' N s' t' r ha hr hk c1 c2 c3 => ?_⟩
        obtain rfl : a = a' := by omega
        have hh := headOk_parts hk
        exact z0 N _ (show B.drop 0 = num N ++ (textB s' ++ textsB t') from (cutB N s' t' r hr).1) (by omega)
      · rcases text_step B hBb (by omega) p1 (by omega) with ⟨g1, _, z1⟩ | ⟨v1, p2, q1, l1, y1, r1, g1, _⟩
        · obtain ⟨u2, x2, o2, s2, r2⟩ := texts_any B hBb (by omega) 0 (by omega)
          refine ⟨0, ⟨#[]⟩, [], (a : Int), false, start _ (Ev.bind g0 (Ev.bind g1 (Ev.bind s2 (Ev.pos rfl (Ev.neg (by simp) (Ev.now _)))))), by simp, bad True fun a' N s' t' r ha hr hk c1 c2 c3 => ?_⟩
          obtain rfl : a = a' := by omega
          have hh := headOk_parts hk
          have d0 : B.drop 0 = num N ++ (textB s' ++ textsB t') := (cutB N s' t' r hr).1
          have d1 := (num_inj _ _ _ _ (y0.symm.trans d0)).2
          exact z1 s' _ d1 (by omega)
        · rcases texts_step B hBb (by omega) p2 (by omega) with ⟨g2, _, z2⟩ | ⟨v2, p3, q2, s2, l2, y2, r2, g2, _⟩
          · refine ⟨0, ⟨#[]⟩, [], (a : Int), false, start _ (Ev.bind g0 (Ev.bind g1 (Ev.bind g2 (Ev.pos rfl (Ev.pos rfl (Ev.neg (by simp) (Ev.now _))))))), by simp, bad True fun a' N s' t' r ha hr hk c1 c2 c3 => ?_⟩
            obtain rfl : a = a' := by omega
            have d0 : B.drop 0 = num N ++ (textB s' ++ textsB t') := (cutB N s' t' r hr).1
            have d1 := (num_inj _ _ _ _ (y0.symm.trans d0)).2
            have d2 := (textB_inj (y1.symm.trans d1)).2
            exact z2 t' [] (by rw [List.append_nil]; exact d2) c2 c3
          · have hBB : B = bodyB v0 v1 v2 ++ B.drop p3 := by
              have e : B.drop 0 = num v0 ++ (textB v1 ++ (textsB v2 ++ B.drop p3)) := by rw [y0, y1, y2]
              unfold bodyB
              simp only [List.append_assoc]
              exact e
            have same : ∀ (N : Nat) (s' : ByteArray) (t' : List ByteArray) r, b.drop a = commitB N s' t' ++ r → v0 = N ∧ v1 = s' ∧ v2 = t' ∧ B.drop p3 = [] ∧ G = sumB B := fun N s' t' r hr => by
              obtain ⟨k1, k2⟩ := cutB N s' t' r hr
              obtain ⟨h1, h2, h3, h4⟩ := bodyB_inj (show bodyB v0 v1 v2 ++ B.drop p3 = bodyB N s' t' ++ [] by rw [List.append_nil, ← hBB, k1])
              exact ⟨h1, h2, h3, h4, by rw [k1]; exact k2⟩
            have hD := spec_Digest_ev B (by omega) hBb
            have hsz : (sha B).size = 32 := sha_size _
            by_cases hp3 : (p3 : Int) = (B.length : Int)
            · have hnil : B.drop p3 = [] := List.drop_eq_nil_of_le (by omega)
              rw [hnil, List.append_nil] at hBB
              by_cases hk : headOk (v0 : Int) v1 = true
              · by_cases hz : (v2.length : Int) = 0
                · refine ⟨0, ⟨#[]⟩, [], (a : Int), false, start _ (Ev.bind g0 (Ev.bind g1 (Ev.bind g2 (Ev.pos rfl (Ev.pos rfl (Ev.pos rfl (Ev.pos hp3 (Ev.bind (Ev.const (spec_HeadOk_eq _ _)) (Ev.pos hk (Ev.pos hz (Ev.now _))))))))))), by simp, bad True fun a' N s' t' r ha hr hk2 c1 c2 c3 => ?_⟩
                  obtain rfl : a = a' := by omega
                  obtain ⟨_, _, rfl, _⟩ := same N s' t' r hr
                  omega
                · by_cases hsum : (strOfNums G).toList = ((sha B).extract 0 4).toList
                  · have hGs := (sum_iff hGb B).1 hsum
                    have hlen : (commitB v0 v1 v2).length = (num m).length + m + 4 := by rw [commitB_length, ← hBB, hBl]
                    refine ⟨(v0 : Int), v1, v2, ((p + m + 4 : Nat) : Int), true, start _ (Ev.bind g0 (Ev.bind g1 (Ev.bind g2 (Ev.pos rfl (Ev.pos rfl (Ev.pos rfl (Ev.pos hp3 (Ev.bind (Ev.const (spec_HeadOk_eq _ _)) (Ev.pos hk (Ev.neg hz (Ev.bind hD (Ev.pos (by omega) (Ev.pos hsum (Ev.now _)))))))))))))), q2, fun _ => ⟨a, v0, rfl, rfl, hk, by omega, ?_, ?_, ?_⟩, fun h => (by cases h)⟩
                    · rw [hlen, show a + ((num m).length + m + 4) = p + m + 4 by omega, hd, hBG, hGs]
                      unfold commitB
                      rw [← hBB, hBl]
                      simp only [List.append_assoc]
                    · rw [hlen]
                      congr 1
                      omega
                    · rw [hlen]
                      omega
                  · refine ⟨0, ⟨#[]⟩, [], (a : Int), false, start _ (Ev.bind g0 (Ev.bind g1 (Ev.bind g2 (Ev.pos rfl (Ev.pos rfl (Ev.pos rfl (Ev.pos hp3 (Ev.bind (Ev.const (spec_HeadOk_eq _ _)) (Ev.pos hk (Ev.neg hz (Ev.bind hD (Ev.pos (by omega) (Ev.neg hsum (Ev.now _)))))))))))))), by simp, bad True fun a' N s' t' r ha hr hk2 c1 c2 c3 => ?_⟩
                    obtain rfl : a = a' := by omega
                    obtain ⟨_, _, _, _, h5⟩ := same N s' t' r hr
                    exact hsum ((sum_iff hGb B).2 h5)
              · refine ⟨0, ⟨#[]⟩, [], (a : Int), false, start _ (Ev.bind g0 (Ev.bind g1 (Ev.bind g2 (Ev.pos rfl (Ev.pos rfl (Ev.pos rfl (Ev.pos hp3 (Ev.bind (Ev.const (spec_HeadOk_eq _ _)) (Ev.neg hk (Ev.now _)))))))))), by simp, bad True fun a' N s' t' r ha hr hk2 c1 c2 c3 => ?_⟩
                obtain rfl : a = a' := by omega
                obtain ⟨rfl, rfl, _⟩ := same N s' t' r hr
                exact hk hk2
            · refine ⟨0, ⟨#[]⟩, [], (a : Int), false, start _ (Ev.bind g0 (Ev.bind g1 (Ev.bind g2 (Ev.pos rfl (Ev.pos rfl (Ev.pos rfl (Ev.neg hp3 (Ev.now _)))))))), by simp, bad True fun a' N s' t' r ha hr hk2 c1 c2 c3 => ?_⟩
              obtain rfl : a = a' := by omega
              obtain ⟨_, _, _, h4, _⟩ := same N s' t' r hr
              have := congrArg List.length h4
              rw [List.length_drop] at this
              simp only [List.length_nil] at this
              omega
theorem commit_small {b : List Int} {a N : Nat} {s : ByteArray} {t : List ByteArray} {r : List Int} (hl : b.length ≤ 10000000) (h : b.drop a = commitB N s t ++ r) : ∀ x ∈ t, x.size ≤ 1000000000 := fun x hx => by
  have h1 := congrArg List.length h
  rw [List.length_drop, List.length_append, commitB_length] at h1
  have h2 := bodyB_ge N s t
  have h3 := total_mem hx
  omega
theorem getCommit_both (b : List Int) (hb : InB b) (hl : b.length ≤ 10000000) (at_ : Int) (h0 : -9223372036854775808 ≤ at_) (h1 : at_ ≤ 9223372036854775807) :
    ∃ n s t nx ok, Ev (fun q => spec_GetCommit.f q b at_) (n, s, t, nx, ok) ∧ Ev (fun q => impl_GetCommit.f q b at_) (n, s, t, nx, ok) ∧ t.length ≤ 200 := by
  obtain ⟨n, s, t, nx, ok, e1, ht, c1, c2⟩ := getCommitI b hb hl at_ h0 h1
  obtain ⟨n', s', t', nx', ok', e2, ht', d1, d2⟩ := getCommitS b hb hl at_ h0 h1
  cases ok with
  | true =>
    obtain ⟨a, N, rfl, rfl, hk, hz, hd, rfl, hle⟩ := c1 rfl
    cases ok' with
    | true =>
      obtain ⟨a', N', ha, rfl, hk', hz', hd', rfl, hle'⟩ := d1 rfl
      obtain rfl : a = a' := by omega
      obtain ⟨rfl, rfl, rfl, _⟩ := commitB_inj (hd.symm.trans hd')
      exact ⟨_, _, _, _, _, e2, e1, ht⟩
    | false => exact absurd ((d2 rfl).2.2.2.2 a N s t _ rfl hd hk hz ht (commit_small hl hd)) id
  | false =>
    obtain ⟨rfl, rfl, rfl, rfl, c3⟩ := c2 rfl
    cases ok' with
    | true =>
      obtain ⟨a', N', rfl, rfl, hk', hz', hd', rfl, hle'⟩ := d1 rfl
      exact absurd (c3 a' N' s' t' _ rfl hd' hk' hz' ht' (commit_small hl hd')) id
    | false =>
      obtain ⟨rfl, rfl, rfl, rfl, _⟩ := d2 rfl
      exact ⟨_, _, _, _, _, e2, e1, ht⟩
end Go.Proofs.Ytjnnglphdaemaaa.Q
end

section
-- Written by a program of this session (wip/tools/pp.sh) over the print of the kit.
namespace Go.Proofs.Ytjnnglphdaemaaa.Q
open Go.RowKit Go.Proofs.YtjnnglphdaemaaaW.PrintWords Go.Proofs.YtjnnglphdaemaaaW.PrintLast Go.Proofs.YtjnnglphdaemaaaW.PrintMore
attribute [local go_sem] max2_int min2_int max_two min_two max_three min_three max_four min_four   -- for this text's walks alone
set_option linter.unusedVariables false
set_option linter.unusedSimpArgs false
def impl_rootOf.f : Nat → List ByteArray → Option (ByteArray)
 | 0, _ => none
 | k + 1, l0 => if (l0.length : Int) = 0 then ((impl_Digest.f ([] : List Int)).bind fun t601 => (some t601)) else (if (l0.length : Int) = 1 then (if 0 < (l0.length : Int) then ((impl_LeafHash.f (rdOf ByteArray.empty l0 0)).bind fun t603 => (some t603)) else (none)) else ((impl_half.f k (l0.length : Int)).bind fun t604 => (if 0 ≤ t604 then (if t604 ≤ (l0.length : Int) then ((impl_rootOf.f k (l0.take (t604 : Int).toNat)).bind fun t606 => ((impl_rootOf.f k (l0.drop (t604 : Int).toNat)).bind fun t608 => ((impl_NodeHash.f t606 t608).bind fun t609 => (some t609)))) else (none)) else (none))))
theorem impl_rootOf.mono_l : ∀ k, (∀ y0, LeO (impl_rootOf.f k y0) (impl_rootOf.f (k + 1) y0))
 | 0 => fun _ r h => by simp [impl_rootOf.f] at h
 | k + 1 => by
  have ih0 := impl_rootOf.mono_l k
  ·intro y0
   unfold impl_rootOf.f
   repeat' (with_reducible first | exact LeO.refl _ | exact LeO.none _ | apply ih0 | apply impl_half.mono | apply LeO.ite | refine LeO.bind ?_ fun _ => ?_)
theorem impl_rootOf.mono : ∀ a0 k, LeO (impl_rootOf.f k a0) (impl_rootOf.f (k + 1) a0) := by
 intro a0 k
 have ih0 := impl_rootOf.mono_l k
 exact ih0 a0
def impl_rootOf.T7 : Bool × List (List Nat × List Nat) := (true, [([], []), ([], []), ([0, 1], [0, 1]), ([2], [2]), ([], []), ([], []), ([4, 5], [4, 5]), ([6, 3], [6]), ([3, 7, 7], [3, 7]), ([8, 8, 0, 1, 2, 3, 4, 5, 6, 7, 8], [8])])
def impl_rootOf.B7 : List Nat := [0, 0, 3, 7, 0, 0, 48, 127, 255, 511]
theorem impl_rootOf.tab7 : rtab .any (opsOf Try.f62 7) = impl_rootOf.T7 := by kernel_rfl
theorem impl_rootOf.bits7 : waitsOk impl_rootOf.T7.2 impl_rootOf.B7 = true := by kernel_rfl
set_option maxHeartbeats 8000000 in
set_option maxRecDepth 100000 in
theorem impl_rootOf.calls (k : Nat) : ∀ (A0 : Option Addr) (c0 : Nat) (l0 : List ByteArray) (r : ByteArray) (w : World) (hr0 : Kd.C Kd.string w A0 l0.length l0) (hc0 : l0.length ≤ c0) (h : impl_rootOf.f k l0 = some r),
  Calls Try.prog 62 #[.slice A0 l0.length c0] w fun e w' => e = .returned (.string r) ∧ Below w.heap.size w w' := by
 induction k using Nat.strongRecOn with
 | _ k ih =>
 intro A0 c0 l0 r w hr0 hc0 h
 cases k with
 | zero => exact absurd h (by simp [impl_rootOf.f])
 | succ k =>
 simp only [impl_rootOf.f] at h
 have HR0 := Aside0.mk hr0
 have HC0 := Aside0.mk hc0
 clear hr0 hc0
 have HB := Aside0.mk (Below.refl w.heap.size w)
 have H : (if (l0.length : Int) = 0 then ((impl_Digest.f ([] : List Int)).bind fun t601 => (some t601)) else (if (l0.length : Int) = 1 then (if 0 < (l0.length : Int) then ((impl_LeafHash.f (rdOf ByteArray.empty l0 0)).bind fun t603 => (some t603)) else (none)) else ((impl_half.f k (l0.length : Int)).bind fun t604 => (if 0 ≤ t604 then (if t604 ≤ (l0.length : Int) then ((impl_rootOf.f k (l0.take (t604 : Int).toNat)).bind fun t606 => ((impl_rootOf.f k (l0.drop (t604 : Int).toNat)).bind fun t608 => ((impl_NodeHash.f t606 t608).bind fun t609 => (some t609)))) else (none)) else (none))))) = some r := h
 clear h
 replace H := it_ H; obtain ⟨c2, H⟩ | ⟨c2, H⟩ := H
 ·have c2b0 : ((l0.length : Int) == 0) = true := beq_iff_eq.mpr c2
  have c2b1 : ((l0.length : Int) != 0) = false := bne_eq_false_iff_eq.mpr c2
  clear c2
  replace H := bi_ H; obtain ⟨t601, A3, H⟩ := H
  obtain rfl := Option.some.inj H
  go_enter Try.func62, Try.ntmps62
  go_wp2_with (first | ((with_reducible refine gk_ 101 ?_); refine gl_ 8 Try.func101 #[.slice none 0 0] ?_; (refine (impl_Digest.calls _ _ ([] : List Int) t601 _ ?side1 ?side2 A3.out).mono ?_); (case side1 => exact Kd.C_nil _ _); (case side2 => exact Nat.le_refl _); rintro e w4 ⟨rfl, hb⟩; refine ⟨_, rfl, ?_⟩; replace HB := ss_ HB hb; clear hb))
  go_ret
  exact ⟨e2_, bw_ HB⟩
 ·have c2b0 : ((l0.length : Int) == 0) = false := beq_eq_false_iff_ne.mpr c2
  have c2b1 : ((l0.length : Int) != 0) = true := bne_iff_ne.mpr c2
  have c2b2 : ¬ (l0 = []) := fun h_ => c2 (by rw [h_]; rfl)
  replace H := it_ H; obtain ⟨c5, H⟩ | ⟨c5, H⟩ := H
  ·have c5b0 : ((l0.length : Int) == 1) = true := beq_iff_eq.mpr c5
   have c5b1 : ((l0.length : Int) != 1) = false := bne_eq_false_iff_eq.mpr c5
   clear c5
   replace H := ip_ H; obtain ⟨c6, H⟩ := H
   have c6b0 := decide_eq_true c6
   have c6b1 : decide (0 < l0.length) = true := decide_eq_true (by omega)
   clear c6
   replace H := bi_ H; obtain ⟨t603, A7, H⟩ := H
   obtain rfl := Option.some.inj H
   have p602 : 0 ≤ (0 : Int) := (by omega)
   have q602 : 0 < (l0.length : Int) := of_decide_eq_true as_
   obtain ⟨ad602, e602, hx602_0⟩ := Kd.at_string HR0.out 0 p602 q602
   cases e602
   have qi602 : (0 < l0.length) = True := eq_true (by omega)
   (try rw [show ((0 : Int)).toNat = 0 from rfl] at hx602_0)
   (try rw [Addr.add_zero'] at hx602_0)
   replace p602 := eq_true p602
   replace q602 := eq_true q602
   go_enter Try.func62, Try.ntmps62
   go_wp2_with (first | ((with_reducible refine gq_ 102 14 ?_); refine gc_ 14 Try.func102 (impl_LeafHash.calls (rdOf ByteArray.empty l0 0) t603 _ A7.out) ?_; rintro e w8 ⟨rfl, hb⟩; refine ⟨_, rfl, ?_⟩; replace HB := ss_ HB hb; clear hb))
   go_ret
   exact ⟨e2_, bw_ HB⟩
  ·have c5b0 : ((l0.length : Int) == 1) = false := beq_eq_false_iff_ne.mpr c5
   have c5b1 : ((l0.length : Int) != 1) = true := bne_iff_ne.mpr c5
   replace H := bi_ H; obtain ⟨t604, A9, H⟩ := H
   replace H := ip_ H; obtain ⟨c10, H⟩ := H
   have c10b0 := eq_true c10
   have c10b1 := decide_eq_true c10
   clear c10
   replace H := ip_ H; obtain ⟨c11, H⟩ := H
   have c11b0 := eq_true c11
   have c11b1 := decide_eq_true c11
   clear c11
   replace H := bi_ H; obtain ⟨t606, A12, H⟩ := H
   have c13b0 := eq_true (of_decide_eq_true as_ : 0 ≤ t604)
   have c14b0 := eq_true (of_decide_eq_true as_ : t604 ≤ (l0.length : Int))
   replace H := bi_ H; obtain ⟨t608, A15, H⟩ := H
   replace H := bi_ H; obtain ⟨t609, A16, H⟩ := H
   obtain rfl := Option.some.inj H
   go_enter Try.func62, Try.ntmps62
   try go_wp2_with (first | ((with_reducible refine gq_ 103 17 ?_); refine gc_ 17 Try.func103 (impl_half.calls k (l0.length : Int) t604 _ A9.out) ?_; rintro e w17 ⟨rfl, hb⟩; refine ⟨_, rfl, ?_⟩; replace HB := ss_ HB hb; clear hb))
   replace HB := Aside0.mk (below_drew1 HB.out)
   obtain ⟨i019, hi019, _, hsz19, _⟩ := info_parts info9
   obtain ⟨hcut19, hA19, hC19⟩ := print_take_of (P := Try.prog) Value.string (⟨#[]⟩ : ByteArray) 24 9 .i64 Try.underlying24 hi019 hsz19 A0 c0 l0 t604 (of_decide_eq_true as_) (of_decide_eq_true as_) HC0.out
   have HR605 := Aside0.mk (Kd.C_of_reads (h1 := fun _ => rfl) (hA19 _ (Kd.reads_of_C HR0.out)))
   have HC605 := Aside0.mk hC19
   clear hA19 hC19 hi019 hsz19
   obtain ⟨i020, hi020, _, hsz20, _⟩ := info_parts info9
   obtain ⟨A20, hcut20, hA20, hC20⟩ := print_drop_of (P := Try.prog) Value.string (⟨#[]⟩ : ByteArray) 24 9 .i64 Try.underlying24 hi020 hsz20 A0 c0 l0 t604 (of_decide_eq_true as_) (of_decide_eq_true as_) HC0.out
   have HR607 := Aside0.mk (Kd.C_of_reads (h1 := fun _ => rfl) (hA20 _ (Kd.reads_of_C HR0.out)))
   have HC607 := Aside0.mk hC20
   clear hA20 hC20 hi020 hsz20
   refine start_ (n := 10) (S := fun w' => True) (ds := []) (lz_ 10 0) (by kernel_rfl) rfl rfl trivial (fun hHeld => ?_); refine with_tabW impl_rootOf.tab7 impl_rootOf.bits7 (fun HT_ HW_ => ?_)
   generalize w17.drew = w18 at HB HR605 HR607 hHeld ⊢
   refine pt_ 0 18 1 ?_
   refine pt_ 1 19 3 ?_
   refine pt_ 2 20 7 ?_
   refine pt_ 4 22 23 ?_
   refine pt_ 5 23 55 ?_
   refine pt_ 6 24 119 ?_
   refine one_ (i := 3) (N := some 21) (lz_ 10 127) rfl rfl (one_of HT_.out (by kernel_rfl)) (by decide) (fun K hK => ?_)
   refine goes_ Try.func62 (by kernel_rfl) rfl #[.slice A0 (l0.take (t604 : Int).toNat).length c0] (by rfl) rfl rfl (by (try simp only [List.map_toArray, List.map_cons, List.map_nil]); first | done | (rw [show (l0.take (t604 : Int).toNat).length = t604.toNat from (by rw [List.length_take]; have h_ : (t604 : Int) ≤ (l0.length : Int) := of_decide_eq_true as_; omega)] <;> rfl) | rfl | (simp only [List.length_drop, List.length_take]; rfl)) ?_
   with_reducible refine (ih k (by omega) _ _ (l0.take (t604 : Int).toNat) t606 _ ?side1 ?side2 A12.out).mono ?_
   (case side1 => exact cb_ HR605 HB)
   (case side2 => exact HC605.out)
   rintro e w21 ⟨rfl, hb⟩
   refine ⟨_, rfl, ?_⟩
   replace HB := ss_ HB hb
   clear hb
   refine hK.out _ _ trivial (fun hHeld => ?_)
   clear hK K
   refine no_ 21 ?_
   refine one_ (i := 7) (N := some 25) (lz_ 10 255) rfl rfl (one_of HT_.out (by kernel_rfl)) (by decide) (fun K hK => ?_)
   refine goes_ Try.func62 (by kernel_rfl) rfl #[.slice A20 (l0.drop (t604 : Int).toNat).length (c0 - t604.toNat)] (by rfl) rfl rfl (by (try simp only [List.map_toArray, List.map_cons, List.map_nil]); first | done | (rw [show (l0.drop (t604 : Int).toNat).length = (l0.length - t604.toNat) from List.length_drop] <;> rfl) | rfl | (simp only [List.length_drop, List.length_take]; rfl)) ?_
   with_reducible refine (ih k (by omega) _ _ (l0.drop (t604 : Int).toNat) t608 _ ?side1 ?side2 A15.out).mono ?_
   (case side1 => exact cb_ HR607 HB)
   (case side2 => exact HC607.out)
   rintro e w22 ⟨rfl, hb⟩
   refine ⟨_, rfl, ?_⟩
   replace HB := ss_ HB hb
   clear hb
   refine hK.out _ _ trivial (fun hHeld => ?_)
   clear hK K
   refine no_ 25 ?_
   refine one_ (i := 8) (N := some 26) (lz_ 10 511) rfl rfl (one_of HT_.out (by kernel_rfl)) (by decide) (fun K hK => ?_)
   refine gf_ Try.func104 (impl_NodeHash.calls t606 t608 t609 _ A16.out) ?_
   rintro e w23 ⟨rfl, hb⟩
   refine ⟨_, rfl, ?_⟩
   replace HB := ss_ HB hb
   clear hb
   refine hK.out _ _ trivial (fun hHeld => ?_)
   clear hK K
   refine no_ 26 ?_
   refine pt_ 9 2 1023 ?_
   refine done_ (done_of HT_.out (by kernel_rfl)) ?_
   try go_wp2
   go_ret
   exact ⟨e2_, bw_ HB⟩
end Go.Proofs.Ytjnnglphdaemaaa.Q
end

section
-- Written by a program of this session (wip/tools/pp.sh) over the print of the kit.
namespace Go.Proofs.Ytjnnglphdaemaaa.Q
open Go.RowKit Go.Proofs.YtjnnglphdaemaaaW.PrintWords Go.Proofs.YtjnnglphdaemaaaW.PrintLast Go.Proofs.YtjnnglphdaemaaaW.PrintMore
attribute [local go_sem] max2_int min2_int max_two min_two max_three min_three max_four min_four   -- for this text's walks alone
set_option linter.unusedVariables false
set_option linter.unusedSimpArgs false
def spec_l6Root.f : Nat → List ByteArray → Option (ByteArray)
 | 0, _ => none
 | k + 1, l0 => if (l0.length : Int) = 0 then ((spec_Digest.f k (([] : List Int))).bind fun t604 => (some t604)) else (if (l0.length : Int) = 1 then (if 0 < (l0.length : Int) then ((spec_LeafHash.f k (rdOf ByteArray.empty l0 0)).bind fun t606 => (some t606)) else (none)) else ((spec_l6Half.f k (l0.length : Int)).bind fun t607 => (if 0 ≤ t607 then (if t607 ≤ (l0.length : Int) then ((spec_l6Root.f k (l0.take (t607 : Int).toNat)).bind fun t609 => ((spec_l6Root.f k (l0.drop (t607 : Int).toNat)).bind fun t611 => ((spec_NodeHash.f k t609 t611).bind fun t612 => (some t612)))) else (none)) else (none))))
theorem spec_l6Root.mono_l : ∀ k, (∀ y0, LeO (spec_l6Root.f k y0) (spec_l6Root.f (k + 1) y0))
 | 0 => fun _ r h => by simp [spec_l6Root.f] at h
 | k + 1 => by
  have ih0 := spec_l6Root.mono_l k
  ·intro y0
   unfold spec_l6Root.f
   repeat' (with_reducible first | exact LeO.refl _ | exact LeO.none _ | apply ih0 | apply spec_Digest.mono | apply spec_LeafHash.mono | apply spec_NodeHash.mono | apply spec_l6Half.mono | apply LeO.ite | refine LeO.bind ?_ fun _ => ?_)
theorem spec_l6Root.mono : ∀ a0 k, LeO (spec_l6Root.f k a0) (spec_l6Root.f (k + 1) a0) := by
 intro a0 k
 have ih0 := spec_l6Root.mono_l k
 exact ih0 a0
def spec_l6Root.T7 : Bool × List (List Nat × List Nat) := (true, [([], []), ([], []), ([0, 1], [0, 1]), ([2], [2]), ([], []), ([], []), ([4, 5], [4, 5]), ([6, 3], [6]), ([3, 7, 7], [3, 7]), ([8, 8, 0, 1, 2, 3, 4, 5, 6, 7, 8], [8])])
def spec_l6Root.B7 : List Nat := [0, 0, 3, 7, 0, 0, 48, 127, 255, 511]
theorem spec_l6Root.tab7 : rtab .any (opsOf Try.f113 7) = spec_l6Root.T7 := by kernel_rfl
theorem spec_l6Root.bits7 : waitsOk spec_l6Root.T7.2 spec_l6Root.B7 = true := by kernel_rfl
set_option maxHeartbeats 8000000 in
set_option maxRecDepth 100000 in
theorem spec_l6Root.calls (k : Nat) : ∀ (A0 : Option Addr) (c0 : Nat) (l0 : List ByteArray) (r : ByteArray) (w : World) (hr0 : Kd.C Kd.string w A0 l0.length l0) (hc0 : l0.length ≤ c0) (h : spec_l6Root.f k l0 = some r),
  Calls Try.prog 113 #[.slice A0 l0.length c0] w fun e w' => e = .returned (.string r) ∧ Below w.heap.size w w' := by
 induction k using Nat.strongRecOn with
 | _ k ih =>
 intro A0 c0 l0 r w hr0 hc0 h
 cases k with
 | zero => exact absurd h (by simp [spec_l6Root.f])
 | succ k =>
 simp only [spec_l6Root.f] at h
 have HR0 := Aside0.mk hr0
 have HC0 := Aside0.mk hc0
 clear hr0 hc0
 have HB := Aside0.mk (Below.refl w.heap.size w)
 have H : (if (l0.length : Int) = 0 then ((spec_Digest.f k (([] : List Int))).bind fun t604 => (some t604)) else (if (l0.length : Int) = 1 then (if 0 < (l0.length : Int) then ((spec_LeafHash.f k (rdOf ByteArray.empty l0 0)).bind fun t606 => (some t606)) else (none)) else ((spec_l6Half.f k (l0.length : Int)).bind fun t607 => (if 0 ≤ t607 then (if t607 ≤ (l0.length : Int) then ((spec_l6Root.f k (l0.take (t607 : Int).toNat)).bind fun t609 => ((spec_l6Root.f k (l0.drop (t607 : Int).toNat)).bind fun t611 => ((spec_NodeHash.f k t609 t611).bind fun t612 => (some t612)))) else (none)) else (none))))) = some r := h
 clear h
 replace H := it_ H; obtain ⟨c2, H⟩ | ⟨c2, H⟩ := H
 ·have c2b0 : ((l0.length : Int) == 0) = true := beq_iff_eq.mpr c2
  have c2b1 : ((l0.length : Int) != 0) = false := bne_eq_false_iff_eq.mpr c2
  clear c2
  obtain ⟨y601, hy601⟩ : ∃ y_ : List Int, y_ = (([] : List Int)) := ⟨_, rfl⟩
  replace H : ((spec_Digest.f k y601).bind fun t604 => (some t604)) = some r := yh_ hy601 H
  have Ny601 := Aside0.mk hy601
  clear hy601
  replace H := bi_ H; obtain ⟨t604, A3, H⟩ := H
  obtain rfl := Option.some.inj H
  go_enter Try.func113, Try.ntmps113
  go_wp2_with (first | ((with_reducible refine gd_ 8 ?_); refine rl_ (Kd.int .u8) 5 8 ([] : List Int) [] ?_; intro v602 w4 ho5 hb hg_ hnew_; clear hg_ hnew_; (first | rw [← Ny601.out] at ho5 | (simp only [Int.reduceToNat] at ho5; rw [← Ny601.out] at ho5)); have HO603 := Aside0.mk (Kd.R_lower ho5 (sz_ HB)); replace HB := ss_ HB hb; clear hb ho5; obtain ⟨Ao6, co6, eo6⟩ := Kd.R_slice HO603.out; subst eo6) | ((with_reducible refine gq_ 114 9 ?_); refine gc_ 9 Try.func114 (spec_Digest.calls k _ _ y601 t604 _ (ch_ HO603) (cl_ HO603) A3.out) ?_; rintro e w7 ⟨rfl, hb⟩; refine ⟨_, rfl, ?_⟩; replace HO603 := rb_ HO603 hb; replace HB := ss_ HB hb; clear hb))
  go_ret
  exact ⟨e2_, bw_ HB⟩
 ·have c2b0 : ((l0.length : Int) == 0) = false := beq_eq_false_iff_ne.mpr c2
  have c2b1 : ((l0.length : Int) != 0) = true := bne_iff_ne.mpr c2
  have c2b2 : ¬ (l0 = []) := fun h_ => c2 (by rw [h_]; rfl)
  replace H := it_ H; obtain ⟨c8, H⟩ | ⟨c8, H⟩ := H
  ·have c8b0 : ((l0.length : Int) == 1) = true := beq_iff_eq.mpr c8
   have c8b1 : ((l0.length : Int) != 1) = false := bne_eq_false_iff_eq.mpr c8
   clear c8
   replace H := ip_ H; obtain ⟨c9, H⟩ := H
   have c9b0 := decide_eq_true c9
   have c9b1 : decide (0 < l0.length) = true := decide_eq_true (by omega)
   clear c9
   replace H := bi_ H; obtain ⟨t606, A10, H⟩ := H
   obtain rfl := Option.some.inj H
   have p605 : 0 ≤ (0 : Int) := (by omega)
   have q605 : 0 < (l0.length : Int) := of_decide_eq_true as_
   obtain ⟨ad605, e605, hx605_0⟩ := Kd.at_string HR0.out 0 p605 q605
   cases e605
   have qi605 : (0 < l0.length) = True := eq_true (by omega)
   (try rw [show ((0 : Int)).toNat = 0 from rfl] at hx605_0)
   (try rw [Addr.add_zero'] at hx605_0)
   replace p605 := eq_true p605
   replace q605 := eq_true q605
   go_enter Try.func113, Try.ntmps113
   go_wp2_with (first | ((with_reducible refine gq_ 131 15 ?_); refine gc_ 15 Try.func131 (spec_LeafHash.calls k (rdOf ByteArray.empty l0 0) t606 _ A10.out) ?_; rintro e w11 ⟨rfl, hb⟩; refine ⟨_, rfl, ?_⟩; replace HB := ss_ HB hb; clear hb))
   go_ret
   exact ⟨e2_, bw_ HB⟩
  ·have c8b0 : ((l0.length : Int) == 1) = false := beq_eq_false_iff_ne.mpr c8
   have c8b1 : ((l0.length : Int) != 1) = true := bne_iff_ne.mpr c8
   replace H := bi_ H; obtain ⟨t607, A12, H⟩ := H
   replace H := ip_ H; obtain ⟨c13, H⟩ := H
   have c13b0 := eq_true c13
   have c13b1 := decide_eq_true c13
   clear c13
   replace H := ip_ H; obtain ⟨c14, H⟩ := H
   have c14b0 := eq_true c14
   have c14b1 := decide_eq_true c14
   clear c14
   replace H := bi_ H; obtain ⟨t609, A15, H⟩ := H
   have c16b0 := eq_true (of_decide_eq_true as_ : 0 ≤ t607)
   have c17b0 := eq_true (of_decide_eq_true as_ : t607 ≤ (l0.length : Int))
   replace H := bi_ H; obtain ⟨t611, A18, H⟩ := H
   replace H := bi_ H; obtain ⟨t612, A19, H⟩ := H
   obtain rfl := Option.some.inj H
   go_enter Try.func113, Try.ntmps113
   try go_wp2_with (first | ((with_reducible refine gq_ 132 18 ?_); refine gc_ 18 Try.func132 (spec_l6Half.calls k (l0.length : Int) t607 _ A12.out) ?_; rintro e w20 ⟨rfl, hb⟩; refine ⟨_, rfl, ?_⟩; replace HB := ss_ HB hb; clear hb))
   replace HB := Aside0.mk (below_drew1 HB.out)
   obtain ⟨i022, hi022, _, hsz22, _⟩ := info_parts info9
   obtain ⟨hcut22, hA22, hC22⟩ := print_take_of (P := Try.prog) Value.string (⟨#[]⟩ : ByteArray) 24 9 .i64 Try.underlying24 hi022 hsz22 A0 c0 l0 t607 (of_decide_eq_true as_) (of_decide_eq_true as_) HC0.out
   have HR608 := Aside0.mk (Kd.C_of_reads (h1 := fun _ => rfl) (hA22 _ (Kd.reads_of_C HR0.out)))
   have HC608 := Aside0.mk hC22
   clear hA22 hC22 hi022 hsz22
   obtain ⟨i023, hi023, _, hsz23, _⟩ := info_parts info9
   obtain ⟨A23, hcut23, hA23, hC23⟩ := print_drop_of (P := Try.prog) Value.string (⟨#[]⟩ : ByteArray) 24 9 .i64 Try.underlying24 hi023 hsz23 A0 c0 l0 t607 (of_decide_eq_true as_) (of_decide_eq_true as_) HC0.out
   have HR610 := Aside0.mk (Kd.C_of_reads (h1 := fun _ => rfl) (hA23 _ (Kd.reads_of_C HR0.out)))
   have HC610 := Aside0.mk hC23
   clear hA23 hC23 hi023 hsz23
   refine start_ (n := 10) (S := fun w' => True) (ds := []) (lz_ 10 0) (by kernel_rfl) rfl rfl trivial (fun hHeld => ?_); refine with_tabW spec_l6Root.tab7 spec_l6Root.bits7 (fun HT_ HW_ => ?_)
   generalize w20.drew = w21 at HB HR608 HR610 hHeld ⊢
   refine pt_ 0 19 1 ?_
   refine pt_ 1 20 3 ?_
   refine pt_ 2 21 7 ?_
   refine pt_ 4 23 23 ?_
   refine pt_ 5 24 55 ?_
   refine pt_ 6 25 119 ?_
   refine one_ (i := 3) (N := some 22) (lz_ 10 127) rfl rfl (one_of HT_.out (by kernel_rfl)) (by decide) (fun K hK => ?_)
   refine goes_ Try.func113 (by kernel_rfl) rfl #[.slice A0 (l0.take (t607 : Int).toNat).length c0] (by rfl) rfl rfl (by (try simp only [List.map_toArray, List.map_cons, List.map_nil]); first | done | (rw [show (l0.take (t607 : Int).toNat).length = t607.toNat from (by rw [List.length_take]; have h_ : (t607 : Int) ≤ (l0.length : Int) := of_decide_eq_true as_; omega)] <;> rfl) | rfl | (simp only [List.length_drop, List.length_take]; rfl)) ?_
   with_reducible refine (ih k (by omega) _ _ (l0.take (t607 : Int).toNat) t609 _ ?side1 ?side2 A15.out).mono ?_
   (case side1 => exact cb_ HR608 HB)
   (case side2 => exact HC608.out)
   rintro e w24 ⟨rfl, hb⟩
   refine ⟨_, rfl, ?_⟩
   replace HB := ss_ HB hb
   clear hb
   refine hK.out _ _ trivial (fun hHeld => ?_)
   clear hK K
   refine no_ 22 ?_
   refine one_ (i := 7) (N := some 26) (lz_ 10 255) rfl rfl (one_of HT_.out (by kernel_rfl)) (by decide) (fun K hK => ?_)
   refine goes_ Try.func113 (by kernel_rfl) rfl #[.slice A23 (l0.drop (t607 : Int).toNat).length (c0 - t607.toNat)] (by rfl) rfl rfl (by (try simp only [List.map_toArray, List.map_cons, List.map_nil]); first | done | (rw [show (l0.drop (t607 : Int).toNat).length = (l0.length - t607.toNat) from List.length_drop] <;> rfl) | rfl | (simp only [List.length_drop, List.length_take]; rfl)) ?_
   with_reducible refine (ih k (by omega) _ _ (l0.drop (t607 : Int).toNat) t611 _ ?side1 ?side2 A18.out).mono ?_
   (case side1 => exact cb_ HR610 HB)
   (case side2 => exact HC610.out)
   rintro e w25 ⟨rfl, hb⟩
   refine ⟨_, rfl, ?_⟩
   replace HB := ss_ HB hb
   clear hb
   refine hK.out _ _ trivial (fun hHeld => ?_)
   clear hK K
   refine no_ 26 ?_
   refine one_ (i := 8) (N := some 27) (lz_ 10 511) rfl rfl (one_of HT_.out (by kernel_rfl)) (by decide) (fun K hK => ?_)
   refine gf_ Try.func133 (spec_NodeHash.calls k t609 t611 t612 _ A19.out) ?_
   rintro e w26 ⟨rfl, hb⟩
   refine ⟨_, rfl, ?_⟩
   replace HB := ss_ HB hb
   clear hb
   refine hK.out _ _ trivial (fun hHeld => ?_)
   clear hK K
   refine no_ 27 ?_
   refine pt_ 9 2 1023 ?_
   refine done_ (done_of HT_.out (by kernel_rfl)) ?_
   try go_wp2
   go_ret
   exact ⟨e2_, bw_ HB⟩
end Go.Proofs.Ytjnnglphdaemaaa.Q
end

section
-- Written by a program of this session (wip/tools/pp.sh) over the print of the kit.
namespace Go.Proofs.Ytjnnglphdaemaaa.Q
open Go.RowKit Go.Proofs.YtjnnglphdaemaaaW.PrintWords Go.Proofs.YtjnnglphdaemaaaW.PrintLast Go.Proofs.YtjnnglphdaemaaaW.PrintMore
attribute [local go_sem] max2_int min2_int max_two min_two max_three min_three max_four min_four   -- for this text's walks alone
set_option linter.unusedVariables false
set_option linter.unusedSimpArgs false
def spec_HeadOf.f (k : Nat) (l0 : List ByteArray) : Option (Int × ByteArray) := if (l0.length : Int) > 200 then (some (0, (⟨#[]⟩ : ByteArray))) else ((spec_l6Root.f k l0).bind fun t602 => (some ((l0.length : Int), t602)))
theorem spec_HeadOf.mono : ∀ a0 k, LeO (spec_HeadOf.f k a0) (spec_HeadOf.f (k + 1) a0) := by
 intro a0 k
 unfold spec_HeadOf.f
 repeat' (with_reducible first | exact LeO.refl _ | exact LeO.none _ | apply spec_l6Root.mono | apply LeO.ite | refine LeO.bind ?_ fun _ => ?_)
set_option maxHeartbeats 8000000 in
set_option maxRecDepth 100000 in
theorem spec_HeadOf.calls (k : Nat) (A0 : Option Addr) (c0 : Nat) (l0 : List ByteArray) (r1 : Int) (r2 : ByteArray) (w : World) (hr0 : Kd.C Kd.string w A0 l0.length l0) (hc0 : l0.length ≤ c0) (h : spec_HeadOf.f k l0 = some (r1, r2)) :
  Calls Try.prog 72 #[.slice A0 l0.length c0] w fun e w' => e = .returned (.agg #[.int .i64 r1, .string r2]) ∧ Below w.heap.size w w' := by
 have hu28 := Try.underlying28
 have HR0 := Aside0.mk hr0
 have HC0 := Aside0.mk hc0
 clear hr0 hc0
 have HB := Aside0.mk (Below.refl w.heap.size w)
 have H : (if (l0.length : Int) > 200 then (some (0, (⟨#[]⟩ : ByteArray))) else ((spec_l6Root.f k l0).bind fun t602 => (some ((l0.length : Int), t602)))) = some (r1, r2) := h
 clear h
 replace H := it_ H; obtain ⟨c2, H⟩ | ⟨c2, H⟩ := H
 ·have c2b0 : decide (200 < (l0.length : Int)) = true := decide_eq_true c2
  have c2b1 : decide (200 < l0.length) = true := decide_eq_true (by omega)
  clear c2
  replace H := so2_ H; obtain ⟨rfl, rfl⟩ := H
  go_enter Try.func72, Try.ntmps72
  go_wp2_with (first | ((with_reducible refine gd_ 2 ?_); refine bx_ 2 28 #[.int .i64 0, .string (⟨#[]⟩ : ByteArray)] ?_; intro gb601 hg w3 hbox hb; have BK601 := Aside0.mk hbox; have GW601 := gg_ hg HB; have GE601 := GW601; replace HB := ss_ HB hb; clear hb hbox hg; have hz4 := cz2_ BK601))
  refine bodyPost_ret (results_cell_row rfl _ _ gb601 28 #[.int .i64 0, .string (⟨#[]⟩ : ByteArray)] (0, 0) _ rfl (by exact kq_ BK601) Try.underlying28 rfl (by kernel_rfl)) rfl ?_
  exact ⟨e2_, bw_ HB⟩
 ·have c2b0 : decide (200 < (l0.length : Int)) = false := decide_eq_false c2
  have c2b1 : decide (200 < l0.length) = false := decide_eq_false (by omega)
  clear c2
  replace H := bi_ H; obtain ⟨t602, A5, H⟩ := H
  replace H := so2_ H; obtain ⟨rfl, rfl⟩ := H
  go_enter Try.func72, Try.ntmps72
  go_wp2_with (first | ((with_reducible refine gd_ 2 ?_); refine bx_ 2 28 #[.int .i64 0, .string (⟨#[]⟩ : ByteArray)] ?_; intro gb601 hg w6 hbox hb; have BK601 := Aside0.mk hbox; have GW601 := gg_ hg HB; have GE601 := GW601; replace HB := ss_ HB hb; clear hb hbox hg) | ((with_reducible refine gq_ 113 10 ?_); refine gc_ 10 Try.func113 (spec_l6Root.calls k _ _ l0 t602 _ (cb_ HR0 HB) HC0.out A5.out) ?_; rintro e w7 ⟨rfl, hb⟩; refine ⟨_, rfl, ?_⟩; replace BK601 := kl_ BK601 hb; replace HB := ss_ HB hb; clear hb; have hz8 := cz2_ BK601))
  refine bodyPost_ret (results_cell_row rfl _ _ gb601 28 #[.int .i64 (l0.length : Int), .string t602] (0, 0) _ rfl (by exact kq_ BK601) Try.underlying28 rfl (by kernel_rfl)) rfl ?_
  exact ⟨e2_, bw_ HB⟩
end Go.Proofs.Ytjnnglphdaemaaa.Q
end

section
/- The root of a tree over texts, and the head of it: the program's and the reference's are one. Plain. -/
namespace Go.Proofs.Ytjnnglphdaemaaa.Q
open Go.RowKit Go.Proofs.Ytjnnglphdaemaaa.B Go.Proofs.YtjnnglphdaemaaaW.PrintWords Go.Proofs.YtjnnglphdaemaaaW.PrintMore
set_option linter.unusedVariables false
set_option linter.unusedSimpArgs false

def bigB : Nat := 1048608
theorem node_small {a b : ByteArray} (ha : a.size ≤ bigB) (hb : b.size ≤ bigB) : a.size + b.size ≤ 1099511627775 := by unfold bigB at *; omega
theorem mem_take_of {l : List ByteArray} {n : Nat} (h : ∀ x ∈ l, x.size ≤ bigB) : ∀ x ∈ l.take n, x.size ≤ bigB := fun x hx => h x (List.mem_of_mem_take hx)
theorem mem_drop_of {l : List ByteArray} {n : Nat} (h : ∀ x ∈ l, x.size ≤ bigB) : ∀ x ∈ l.drop n, x.size ≤ bigB := fun x hx => h x (List.mem_of_mem_drop hx)
theorem leafs_small (l : List ByteArray) : ∀ x ∈ l, (leafH x).size ≤ bigB := fun x _ => by rw [leafH_size]; decide
theorem root_small (l : List ByteArray) : (rootBy leafH l).size ≤ bigB := rootBy_size leafH bigB (by decide) _ (leafs_small l)
theorem rooted_impl : ∀ (n : Nat) (l : List ByteArray), l.length ≤ n → l.length ≤ 4611686018427387904 → (∀ x ∈ l, x.size ≤ bigB) → Ev (fun k => impl_rootOf.f k l) (rootBy leafH l) := by
  intro n
  induction n with
  | zero =>
    intro l h1 h2 hs
    obtain rfl := List.eq_nil_of_length_eq_zero (show l.length = 0 by omega)
    rw [rootBy_nil]
    refine Ev.step (fun k => by simp only [impl_rootOf.f]; rfl) ?_
    exact Ev.pos rfl (Ev.bind (Ev.const (impl_Digest_is [] (by decide))) (Ev.now _))
  | succ n ih =>
    intro l h1 h3 hs
    by_cases h : 2 ≤ l.length
    · obtain ⟨p1, p2, p3, p4⟩ := cut_parts l h
      have hh := half_lt h
      have e1 := ih (l.take (half l.length)) (by omega) (by omega) (mem_take_of hs)
      have e2 := ih (l.drop (half l.length)) (by omega) (by omega) (mem_drop_of hs)
      have e3 := impl_node _ _ (node_small (root_small (l.take (half l.length))) (root_small (l.drop (half l.length))))
      rw [rootBy_more leafH h]
      refine Ev.step (fun k => by simp only [impl_rootOf.f]; rfl) ?_
      refine Ev.neg (by omega) (Ev.neg (by omega) (Ev.bind (impl_half_ev l.length h h3) ?_))
      exact Ev.pos (by omega) (Ev.pos (by omega) (Ev.bind e1 (Ev.bind e2 (Ev.bind (Ev.const e3) (Ev.now _)))))
    · match l, h with
      | [], _ =>
        rw [rootBy_nil]
        refine Ev.step (fun k => by simp only [impl_rootOf.f]; rfl) ?_
        exact Ev.pos rfl (Ev.bind (Ev.const (impl_Digest_is [] (by decide))) (Ev.now _))
      | [a], _ =>
        rw [rootBy_one]
        have ha := hs a (by simp)
        refine Ev.step (fun k => by simp only [impl_rootOf.f]; rfl) ?_
        refine Ev.neg (by simp) (Ev.pos rfl (Ev.pos (by simp) ?_))
        exact Ev.bind (Ev.const (impl_leaf a (by unfold bigB at ha; omega))) (Ev.now _)
      | _ :: _ :: _, h => simp at h
theorem rooted_spec : ∀ (n : Nat) (l : List ByteArray), l.length ≤ n → l.length ≤ 4611686018427387904 → (∀ x ∈ l, x.size ≤ bigB) → Ev (fun k => spec_l6Root.f k l) (rootBy leafH l) := by
  intro n
  induction n with
  | zero =>
    intro l h1 h2 hs
    obtain rfl := List.eq_nil_of_length_eq_zero (show l.length = 0 by omega)
    rw [rootBy_nil]
    refine Ev.step (fun k => by simp only [spec_l6Root.f]; rfl) ?_
    exact Ev.pos rfl (Ev.bind (spec_Digest_ev [] (by decide) (by simp)) (Ev.now _))
  | succ n ih =>
    intro l h1 h3 hs
    by_cases h : 2 ≤ l.length
    · obtain ⟨p1, p2, p3, p4⟩ := cut_parts l h
      have hh := half_lt h
      have e1 := ih (l.take (half l.length)) (by omega) (by omega) (mem_take_of hs)
      have e2 := ih (l.drop (half l.length)) (by omega) (by omega) (mem_drop_of hs)
      have e3 := spec_node _ _ (node_small (root_small (l.take (half l.length))) (root_small (l.drop (half l.length))))
      rw [rootBy_more leafH h]
      refine Ev.step (fun k => by simp only [spec_l6Root.f]; rfl) ?_
      refine Ev.neg (by omega) (Ev.neg (by omega) (Ev.bind (spec_half l.length h h3) ?_))
      exact Ev.pos (by omega) (Ev.pos (by omega) (Ev.bind e1 (Ev.bind e2 (Ev.bind e3 (Ev.now _)))))
    · match l, h with
      | [], _ =>
        rw [rootBy_nil]
        refine Ev.step (fun k => by simp only [spec_l6Root.f]; rfl) ?_
        exact Ev.pos rfl (Ev.bind (spec_Digest_ev [] (by decide) (by simp)) (Ev.now _))
      | [a], _ =>
        rw [rootBy_one]
        have ha := hs a (by simp)
        refine Ev.step (fun k => by simp only [spec_l6Root.f]; rfl) ?_
        refine Ev.neg (by simp) (Ev.pos rfl (Ev.pos (by simp) ?_))
        exact Ev.bind (spec_leaf a (by unfold bigB at ha; omega)) (Ev.now _)
      | _ :: _ :: _, h => simp at h
/-- The head of a list of texts. -/
def headOf (l : List ByteArray) : Int × ByteArray := if (l.length : Int) > 200 then (0, ⟨#[]⟩) else ((l.length : Int), rootBy leafH l)
theorem headOf_few {l : List ByteArray} (h : l.length ≤ 200) : headOf l = ((l.length : Int), rootBy leafH l) := if_neg (by omega)
theorem headOf_many {l : List ByteArray} (h : ¬ l.length ≤ 200) : headOf l = (0, ⟨#[]⟩) := if_pos (by omega)
theorem spec_HeadOf_ev (l : List ByteArray) (hs : ∀ x ∈ l, x.size ≤ bigB) : Ev (fun k => spec_HeadOf.f k l) (headOf l) := by
  unfold spec_HeadOf.f
  by_cases h : l.length ≤ 200
  · rw [headOf_few h]
    exact Ev.neg (by omega) (Ev.bind (rooted_spec l.length l (Nat.le_refl _) (by omega) hs) (Ev.now _))
  · rw [headOf_many h]
    exact Ev.pos (by omega) (Ev.now _)
end Go.Proofs.Ytjnnglphdaemaaa.Q
end

section
-- Written by a program of this session (wip/tools/pp.sh) over the print of the kit.
namespace Go.Proofs.Ytjnnglphdaemaaa.Q
open Go.RowKit Go.Proofs.YtjnnglphdaemaaaW.PrintWords Go.Proofs.YtjnnglphdaemaaaW.PrintLast Go.Proofs.YtjnnglphdaemaaaW.PrintMore
attribute [local go_sem] max2_int min2_int max_two min_two max_three min_three max_four min_four   -- for this text's walks alone
set_option linter.unusedVariables false
set_option linter.unusedSimpArgs false
def impl_HeadOf.f (k : Nat) (l0 : List ByteArray) : Option (Int × ByteArray) := if (l0.length : Int) > 200 then (some (0, (⟨#[]⟩ : ByteArray))) else ((impl_rootOf.f k l0).bind fun t602 => (some ((l0.length : Int), t602)))
theorem impl_HeadOf.mono : ∀ a0 k, LeO (impl_HeadOf.f k a0) (impl_HeadOf.f (k + 1) a0) := by
 intro a0 k
 unfold impl_HeadOf.f
 repeat' (with_reducible first | exact LeO.refl _ | exact LeO.none _ | apply impl_rootOf.mono | apply LeO.ite | refine LeO.bind ?_ fun _ => ?_)
set_option maxHeartbeats 8000000 in
set_option maxRecDepth 100000 in
theorem impl_HeadOf.calls (k : Nat) (A0 : Option Addr) (c0 : Nat) (l0 : List ByteArray) (r1 : Int) (r2 : ByteArray) (w : World) (hr0 : Kd.C Kd.string w A0 l0.length l0) (hc0 : l0.length ≤ c0) (h : impl_HeadOf.f k l0 = some (r1, r2)) :
  Calls Try.prog 12 #[.slice A0 l0.length c0] w fun e w' => e = .returned (.agg #[.int .i64 r1, .string r2]) ∧ Below w.heap.size w w' := by
 have hu28 := Try.underlying28
 have HR0 := Aside0.mk hr0
 have HC0 := Aside0.mk hc0
 clear hr0 hc0
 have HB := Aside0.mk (Below.refl w.heap.size w)
 have H : (if (l0.length : Int) > 200 then (some (0, (⟨#[]⟩ : ByteArray))) else ((impl_rootOf.f k l0).bind fun t602 => (some ((l0.length : Int), t602)))) = some (r1, r2) := h
 clear h
 replace H := it_ H; obtain ⟨c2, H⟩ | ⟨c2, H⟩ := H
 ·have c2b0 : decide (200 < (l0.length : Int)) = true := decide_eq_true c2
  have c2b1 : decide (200 < l0.length) = true := decide_eq_true (by omega)
  clear c2
  replace H := so2_ H; obtain ⟨rfl, rfl⟩ := H
  go_enter Try.func12, Try.ntmps12
  go_wp2_with (first | ((with_reducible refine gd_ 2 ?_); refine bx_ 2 28 #[.int .i64 0, .string (⟨#[]⟩ : ByteArray)] ?_; intro gb601 hg w3 hbox hb; have BK601 := Aside0.mk hbox; have GW601 := gg_ hg HB; have GE601 := GW601; replace HB := ss_ HB hb; clear hb hbox hg; have hz4 := cz2_ BK601))
  refine bodyPost_ret (results_cell_row rfl _ _ gb601 28 #[.int .i64 0, .string (⟨#[]⟩ : ByteArray)] (0, 0) _ rfl (by exact kq_ BK601) Try.underlying28 rfl (by kernel_rfl)) rfl ?_
  exact ⟨e2_, bw_ HB⟩
 ·have c2b0 : decide (200 < (l0.length : Int)) = false := decide_eq_false c2
  have c2b1 : decide (200 < l0.length) = false := decide_eq_false (by omega)
  clear c2
  replace H := bi_ H; obtain ⟨t602, A5, H⟩ := H
  replace H := so2_ H; obtain ⟨rfl, rfl⟩ := H
  go_enter Try.func12, Try.ntmps12
  go_wp2_with (first | ((with_reducible refine gd_ 2 ?_); refine bx_ 2 28 #[.int .i64 0, .string (⟨#[]⟩ : ByteArray)] ?_; intro gb601 hg w6 hbox hb; have BK601 := Aside0.mk hbox; have GW601 := gg_ hg HB; have GE601 := GW601; replace HB := ss_ HB hb; clear hb hbox hg) | ((with_reducible refine gq_ 62 10 ?_); refine gc_ 10 Try.func62 (impl_rootOf.calls k _ _ l0 t602 _ (cb_ HR0 HB) HC0.out A5.out) ?_; rintro e w7 ⟨rfl, hb⟩; refine ⟨_, rfl, ?_⟩; replace BK601 := kl_ BK601 hb; replace HB := ss_ HB hb; clear hb; have hz8 := cz2_ BK601))
  refine bodyPost_ret (results_cell_row rfl _ _ gb601 28 #[.int .i64 (l0.length : Int), .string t602] (0, 0) _ rfl (by exact kq_ BK601) Try.underlying28 rfl (by kernel_rfl)) rfl ?_
  exact ⟨e2_, bw_ HB⟩
end Go.Proofs.Ytjnnglphdaemaaa.Q
end

section
/- The program's head of a list of texts. Plain. -/
namespace Go.Proofs.Ytjnnglphdaemaaa.Q
open Go.RowKit Go.Proofs.Ytjnnglphdaemaaa.B Go.Proofs.YtjnnglphdaemaaaW.PrintWords Go.Proofs.YtjnnglphdaemaaaW.PrintMore
set_option linter.unusedVariables false

theorem impl_HeadOf_ev (l : List ByteArray) (hs : ∀ x ∈ l, x.size ≤ bigB) : Ev (fun k => impl_HeadOf.f k l) (headOf l) := by
  unfold impl_HeadOf.f
  by_cases h : l.length ≤ 200
  · rw [headOf_few h]
    exact Ev.neg (by omega) (Ev.bind (rooted_impl l.length l (Nat.le_refl _) (by omega) hs) (Ev.now _))
  · rw [headOf_many h]
    exact Ev.pos (by omega) (Ev.now _)
end Go.Proofs.Ytjnnglphdaemaaa.Q
end

section
-- Written by a program of this session (wip/tools/pp.sh) over the print of the kit.
namespace Go.Proofs.Ytjnnglphdaemaaa.Q
open Go.RowKit Go.Proofs.YtjnnglphdaemaaaW.PrintWords Go.Proofs.YtjnnglphdaemaaaW.PrintLast Go.Proofs.YtjnnglphdaemaaaW.PrintMore
attribute [local go_sem] max2_int min2_int max_two min_two max_three min_three max_four min_four   -- for this text's walks alone
set_option linter.unusedVariables false
set_option linter.unusedSimpArgs false
theorem eqA28 (d : Nat) (w : World) (x0 y0 : Int) (x1 y1 : ByteArray) :
  (Op.equalIn (d + 2) 28 (.agg #[.int .i64 x0, .string x1]) (.agg #[.int .i64 y0, .string y1])).run Try.prog w = .ok (x0 == y0 && (x1.toList == y1.toList)) w := by
 refine eqA_of Try.underlying28 (by kernel_rfl) ?_
 refine eqf_cons (by rfl) (by go_simp; rfl) (by go_simp; rfl) (by go_simp) ?_
 exact eqf_last (by rfl) (by go_simp; rfl) (by go_simp; rfl) (by go_simp)
end Go.Proofs.Ytjnnglphdaemaaa.Q
end

section
-- Written by a program of this session (wip/tools/pp.sh) over the print of the kit.
namespace Go.Proofs.Ytjnnglphdaemaaa.Q
open Go.RowKit Go.Proofs.YtjnnglphdaemaaaW.PrintWords Go.Proofs.YtjnnglphdaemaaaW.PrintLast Go.Proofs.YtjnnglphdaemaaaW.PrintMore
attribute [local go_sem] max2_int min2_int max_two min_two max_three min_three max_four min_four   -- for this text's walks alone
set_option linter.unusedVariables false
set_option linter.unusedSimpArgs false
attribute [local go_sem high] eqA28
end Go.Proofs.Ytjnnglphdaemaaa.Q
end

section
-- Written by a program of this session (wip/tools/pp.sh) over the print of the kit.
namespace Go.Proofs.Ytjnnglphdaemaaa.Q
open Go.RowKit Go.Proofs.YtjnnglphdaemaaaW.PrintWords Go.Proofs.YtjnnglphdaemaaaW.PrintLast Go.Proofs.YtjnnglphdaemaaaW.PrintMore
attribute [local go_sem] max2_int min2_int max_two min_two max_three min_three max_four min_four   -- for this text's walks alone
set_option linter.unusedVariables false
set_option linter.unusedSimpArgs false
attribute [local go_sem high] eqA28
def spec_LogOk.f (k : Nat) (l0_0 : List ByteArray) (a0_1 : Int) (a0_2 : ByteArray) : Option (Bool) := if (l0_0.length : Int) ≤ 200 then ((spec_HeadOf.f k l0_0).bind fun bt602 => (some (a0_1 == bt602.1 && (a0_2.toList == bt602.2.toList)))) else (some false)
theorem spec_LogOk.mono : ∀ a0 a1 a2 k, LeO (spec_LogOk.f k a0 a1 a2) (spec_LogOk.f (k + 1) a0 a1 a2) := by
 intro a0 a1 a2 k
 unfold spec_LogOk.f
 repeat' (with_reducible first | exact LeO.refl _ | exact LeO.none _ | apply spec_HeadOf.mono | apply LeO.ite | refine LeO.bind ?_ fun _ => ?_)
def spec_LogOk.T1 : Bool × List (List Nat × List Nat) := (true, [([], []), ([0], [0]), ([1], [1]), ([2], [2]), ([3], [3]), ([4], [4]), ([5, 4], [4, 5]), ([4], [4]), ([7, 4], [4, 7]), ([8, 4, 4], [4, 8]), ([6, 9, 4], [4, 6, 9]), ([4, 10], [4, 10]), ([11, 9, 0, 1, 2, 3, 4, 5, 6, 7, 8, 9, 10, 11], [11])])
def spec_LogOk.B1 : List Nat := [0, 1, 3, 7, 15, 31, 63, 31, 159, 415, 1023, 2047, 4095]
theorem spec_LogOk.tab1 : rtab .any (opsOf Try.f77 1) = spec_LogOk.T1 := by kernel_rfl
theorem spec_LogOk.bits1 : waitsOk spec_LogOk.T1.2 spec_LogOk.B1 = true := by kernel_rfl
set_option maxHeartbeats 8000000 in
set_option maxRecDepth 100000 in
theorem spec_LogOk.calls (k : Nat) (A0_0 : Option Addr) (c0_0 : Nat) (l0_0 : List ByteArray) (a0_1 : Int) (a0_2 : ByteArray) (r : Bool) (w : World) (hr0_0 : Kd.C Kd.string w A0_0 l0_0.length l0_0) (hc0_0 : l0_0.length ≤ c0_0) (h : spec_LogOk.f k l0_0 a0_1 a0_2 = some r) :
  Calls Try.prog 77 #[.agg #[.slice A0_0 l0_0.length c0_0, .int .i64 a0_1, .string a0_2]] w fun e w' => e = .returned (.bool r) ∧ Below w.heap.size w w' := by
 have hu31 := Try.underlying31
 have hu28 := Try.underlying28
 have HR0_0 := Aside0.mk hr0_0
 have HC0_0 := Aside0.mk hc0_0
 clear hr0_0 hc0_0
 have HB := Aside0.mk (Below.refl w.heap.size w)
 have H : (if (l0_0.length : Int) ≤ 200 then ((spec_HeadOf.f k l0_0).bind fun bt602 => (some (a0_1 == bt602.1 && (a0_2.toList == bt602.2.toList)))) else (some false)) = some r := h
 clear h
 replace H := it_ H; obtain ⟨c2, H⟩ | ⟨c2, H⟩ := H
 ·have c2b0 := decide_eq_true c2
  have c2b1 : decide (l0_0.length ≤ 200) = true := decide_eq_true (by omega)
  clear c2
  replace H := bi_ H; obtain ⟨⟨t602, t603⟩, A3, H⟩ := H
  dsimp only at H
  obtain rfl := Option.some.inj H
  go_enter Try.func77, Try.ntmps77
  try go_wp2_with (first | ((with_reducible refine gd_ 1 ?_); refine bx_ 1 31 #[.slice A0_0 l0_0.length c0_0, .int .i64 a0_1, .string a0_2] ?_; intro gb601 hg w4 hbox hb; have BK601 := Aside0.mk hbox; have GW601 := gg_ hg HB; have GE601 := GW601; replace HB := ss_ HB hb; clear hb hbox hg))
  replace BK601 := Aside0.mk (blk_drew BK601.out)
  replace HB := Aside0.mk (below_drew1 HB.out)
  refine start_ (n := 13) (S := fun w' => w'.cell? ⟨gb601, 0, none⟩ = some (.slice A0_0 l0_0.length c0_0) ∧ w'.cell? ⟨gb601, 1, none⟩ = some (.int .i64 a0_1) ∧ w'.cell? ⟨gb601, 2, none⟩ = some (.string a0_2)) (ds := []) (lz_ 13 0) (by kernel_rfl) rfl rfl ⟨bc0_ BK601.out, bc1_ BK601.out, bc2_ BK601.out⟩ (fun hHeld => ?_); refine with_tabW spec_LogOk.tab1 spec_LogOk.bits1 (fun HT_ HW_ => ?_)
  generalize w4.drew = w5 at BK601 HB hHeld ⊢
  refine pt_ 0 3 1 ?_
  refine tt_ 1 4 3 ?_
  refine pt_ 2 5 7 ?_
  refine pt_ 3 6 15 ?_
  refine pt_ 4 7 31 ?_
  refine pt_ 5 8 63 ?_
  refine pt_ 7 10 191 ?_
  refine tt_ 6 9 255 ?_
  refine tt_ 8 11 511 ?_
  refine one_ (i := 9) (N := some 12) (lz_ 13 1023) rfl rfl (one_of HT_.out (by kernel_rfl)) (by decide) (fun K hK => ?_)
  refine gf_ Try.func72 (spec_HeadOf.calls k _ _ l0_0 t602 t603 _ (cb_ HR0_0 HB) HC0_0.out A3.out) ?_
  rintro e w6 ⟨rfl, hb⟩
  refine ⟨_, rfl, ?_⟩
  replace BK601 := kl_ BK601 hb
  replace HB := ss_ HB hb
  clear hb
  refine hK.out _ _ ⟨bc0_ BK601.out, bc1_ BK601.out, bc2_ BK601.out⟩ (fun hHeld => ?_)
  clear hK K
  refine no_ 12 ?_
  refine pt_ 10 13 2047 ?_
  refine pt_ 11 14 4095 ?_
  refine pt_ 12 2 8191 ?_
  refine done_ (done_of HT_.out (by kernel_rfl)) ?_
  try go_wp2
  go_ret
  exact ⟨e2_, bw_ HB⟩
 ·have c2b0 := decide_eq_false c2
  have c2b1 : decide (l0_0.length ≤ 200) = false := decide_eq_false (by omega)
  clear c2
  obtain rfl := Option.some.inj H
  go_enter Try.func77, Try.ntmps77
  try go_wp2_with (first | ((with_reducible refine gd_ 1 ?_); refine bx_ 1 31 #[.slice A0_0 l0_0.length c0_0, .int .i64 a0_1, .string a0_2] ?_; intro gb601 hg w7 hbox hb; have BK601 := Aside0.mk hbox; have GW601 := gg_ hg HB; have GE601 := GW601; replace HB := ss_ HB hb; clear hb hbox hg))
  replace BK601 := Aside0.mk (blk_drew BK601.out)
  replace HB := Aside0.mk (below_drew1 HB.out)
  refine start_ (n := 13) (S := fun w' => w'.cell? ⟨gb601, 0, none⟩ = some (.slice A0_0 l0_0.length c0_0) ∧ w'.cell? ⟨gb601, 1, none⟩ = some (.int .i64 a0_1) ∧ w'.cell? ⟨gb601, 2, none⟩ = some (.string a0_2)) (ds := []) (lz_ 13 0) (by kernel_rfl) rfl rfl ⟨bc0_ BK601.out, bc1_ BK601.out, bc2_ BK601.out⟩ (fun hHeld => ?_); refine with_tabW spec_LogOk.tab1 spec_LogOk.bits1 (fun HT_ HW_ => ?_)
  generalize w7.drew = w8 at BK601 HB hHeld ⊢
  refine pt_ 0 3 1 ?_
  refine tt_ 1 4 3 ?_
  refine pt_ 2 5 7 ?_
  refine pt_ 3 6 15 ?_
  refine pt_ 4 7 31 ?_
  refine ut_ 5 8 63 ?_
  refine ut_ 6 9 127 ?_
  refine ut_ 7 10 255 ?_
  refine ut_ 8 11 511 ?_
  refine ut_ 9 12 1023 ?_
  refine ut_ 10 13 2047 ?_
  refine pt_ 11 14 4095 ?_
  refine pt_ 12 2 8191 ?_
  refine done_ (done_of HT_.out (by kernel_rfl)) ?_
  try go_wp2
  go_ret
  exact ⟨e2_, bw_ HB⟩
end Go.Proofs.Ytjnnglphdaemaaa.Q
end

section
/- Whether a log is right: the program's and the reference's answers are one. Plain. -/
namespace Go.Proofs.Ytjnnglphdaemaaa.Q
open Go.RowKit Go.Proofs.Ytjnnglphdaemaaa.B Go.Proofs.YtjnnglphdaemaaaW.PrintWords Go.Proofs.YtjnnglphdaemaaaW.PrintMore
set_option linter.unusedVariables false

def logOk (l : List ByteArray) (n : Int) (s : ByteArray) : Bool := if (l.length : Int) ≤ 200 then (n == (headOf l).1 && (s.toList == (headOf l).2.toList)) else false
theorem spec_LogOk_ev (l : List ByteArray) (n : Int) (s : ByteArray) (hs : ∀ x ∈ l, x.size ≤ bigB) : Ev (fun k => spec_LogOk.f k l n s) (logOk l n s) := by
  unfold spec_LogOk.f logOk
  by_cases h : (l.length : Int) ≤ 200
  · rw [if_pos h]
    exact Ev.pos h (Ev.bind (spec_HeadOf_ev l hs) (Ev.now _))
  · rw [if_neg h]
    exact Ev.neg h (Ev.now _)
end Go.Proofs.Ytjnnglphdaemaaa.Q
end

section
-- Written by a program of this session (wip/tools/pp.sh) over the print of the kit.
namespace Go.Proofs.Ytjnnglphdaemaaa.Q
open Go.RowKit Go.Proofs.YtjnnglphdaemaaaW.PrintWords Go.Proofs.YtjnnglphdaemaaaW.PrintLast Go.Proofs.YtjnnglphdaemaaaW.PrintMore
attribute [local go_sem] max2_int min2_int max_two min_two max_three min_three max_four min_four   -- for this text's walks alone
set_option linter.unusedVariables false
set_option linter.unusedSimpArgs false
def spec_LogNew.f (k : Nat)  : Option (List ByteArray × Int × ByteArray) := (spec_HeadOf.f k (([] : List ByteArray))).bind fun bt605 => (some (([] : List ByteArray), bt605.1, bt605.2))
theorem spec_LogNew.mono : ∀ k, LeO (spec_LogNew.f k ) (spec_LogNew.f (k + 1) ) := by
 intro  k
 unfold spec_LogNew.f
 repeat' (with_reducible first | exact LeO.refl _ | exact LeO.none _ | apply spec_HeadOf.mono | apply LeO.ite | refine LeO.bind ?_ fun _ => ?_)
set_option maxHeartbeats 8000000 in
set_option maxRecDepth 100000 in
theorem spec_LogNew.calls (k : Nat)  (r1 : List ByteArray) (r2 : Int) (r3 : ByteArray) (w : World) (h : spec_LogNew.f k  = some (r1, r2, r3)) :
  Calls Try.prog 118 #[] w fun e w' => ∃ v0_ : Value, e = .returned (.agg #[v0_, .int .i64 r2, .string r3]) ∧ Kd.R Kd.string 9 w' w.heap.size (fun _ => True) v0_ r1 ∧ Below w.heap.size w w' := by
 have hu31 := Try.underlying31
 have HB := Aside0.mk (Below.refl w.heap.size w)
 have H : ((spec_HeadOf.f k (([] : List ByteArray))).bind fun bt605 => (some (([] : List ByteArray), bt605.1, bt605.2))) = some (r1, r2, r3) := h
 clear h
 obtain ⟨y602, hy602⟩ : ∃ y_ : List ByteArray, y_ = (([] : List ByteArray)) := ⟨_, rfl⟩
 replace H : ((spec_HeadOf.f k y602).bind fun bt605 => (some (([] : List ByteArray), bt605.1, bt605.2))) = some (r1, r2, r3) := yh_ hy602 H
 have Ny602 := Aside0.mk hy602
 clear hy602
 replace H := bi_ H; obtain ⟨⟨t605, t606⟩, A1, H⟩ := H
 dsimp only at H
 replace H := so3_ H; obtain ⟨rfl, rfl, rfl⟩ := H
 go_enter Try.func118, Try.ntmps118
 go_wp2_with (first | ((with_reducible refine gd_ 0 ?_); refine bx_ 0 31 #[.slice none 0 0, .int .i64 0, .string (⟨#[]⟩ : ByteArray)] ?_; intro gb601 hg w2 hbox hb; have BK601 := Aside0.mk hbox; have GW601 := gg_ hg HB; have GE601 := GW601; replace HB := ss_ HB hb; clear hb hbox hg) | ((with_reducible refine gd_ 1 ?_); refine rl_ Kd.string 9 1 ([] : List ByteArray) [] ?_; intro v603 w3 ho4 hb hg_ hnew_; clear hg_ hnew_; (first | rw [← Ny602.out] at ho4 | (simp only [Int.reduceToNat] at ho4; rw [← Ny602.out] at ho4)); have HO604 := Aside0.mk (Kd.R_lower ho4 (sz_ HB)); replace BK601 := kl_ BK601 hb; replace HB := ss_ HB hb; clear hb ho4; obtain ⟨Ao5, co5, eo5⟩ := Kd.R_slice HO604.out; subst eo5) | ((with_reducible refine gq_ 72 2 ?_); refine gc_ 2 Try.func72 (spec_HeadOf.calls k _ _ y602 t605 t606 _ (ch_ HO604) (cl_ HO604) A1.out) ?_; rintro e w6 ⟨rfl, hb⟩; refine ⟨_, rfl, ?_⟩; replace HO604 := rb_ HO604 hb; replace BK601 := kl_ BK601 hb; replace HB := ss_ HB hb; clear hb; have hz7 := cz3_ BK601))
 refine bodyPost_ret (results_cell_row rfl _ _ gb601 31 #[.slice none 0 0, .int .i64 t605, .string t606] (0, 0) _ rfl (by exact kq_ BK601) Try.underlying31 rfl (by kernel_rfl)) rfl ?_
 exact ⟨_, e2_, by first | exact Kd.R_nil _ _ _ _ _ | exact Kd.N_nil _ _ _ _ _ | exact Kd.V_nil _ _ _ _ _ | exact Kd.Q_nil _ _ _ _ _ | exact Kd.S_nil _ _ _ _ _, bw_ HB⟩
end Go.Proofs.Ytjnnglphdaemaaa.Q
end

section
-- Written by a program of this session (wip/tools/pp.sh) over the print of the kit.
namespace Go.Proofs.Ytjnnglphdaemaaa.Q
open Go.RowKit Go.Proofs.YtjnnglphdaemaaaW.PrintWords Go.Proofs.YtjnnglphdaemaaaW.PrintLast Go.Proofs.YtjnnglphdaemaaaW.PrintMore
attribute [local go_sem] max2_int min2_int max_two min_two max_three min_three max_four min_four   -- for this text's walks alone
set_option linter.unusedVariables false
set_option linter.unusedSimpArgs false
end Go.Proofs.Ytjnnglphdaemaaa.Q
end

section
-- Written by a program of this session (wip/tools/pp.sh) over the print of the kit.
namespace Go.Proofs.Ytjnnglphdaemaaa.Q
open Go.RowKit Go.Proofs.YtjnnglphdaemaaaW.PrintWords Go.Proofs.YtjnnglphdaemaaaW.PrintLast Go.Proofs.YtjnnglphdaemaaaW.PrintMore
attribute [local go_sem] max2_int min2_int max_two min_two max_three min_three max_four min_four   -- for this text's walks alone
set_option linter.unusedVariables false
set_option linter.unusedSimpArgs false
end Go.Proofs.Ytjnnglphdaemaaa.Q
end

section
/- Whether two lists of texts are the same: the program's and the reference's answers are one. Plain. -/
namespace Go.Proofs.Ytjnnglphdaemaaa.Q
open Go.RowKit Go.Proofs.Ytjnnglphdaemaaa.B Go.Proofs.YtjnnglphdaemaaaW.PrintWords
set_option linter.unusedVariables false
set_option linter.unusedSimpArgs false

end Go.Proofs.Ytjnnglphdaemaaa.Q
end

section
-- Written by a program of this session (wip/tools/pp.sh) over the print of the kit.
namespace Go.Proofs.Ytjnnglphdaemaaa.Q
open Go.RowKit Go.Proofs.YtjnnglphdaemaaaW.PrintWords Go.Proofs.YtjnnglphdaemaaaW.PrintLast Go.Proofs.YtjnnglphdaemaaaW.PrintMore
attribute [local go_sem] max2_int min2_int max_two min_two max_three min_three max_four min_four   -- for this text's walks alone
set_option linter.unusedVariables false
set_option linter.unusedSimpArgs false
attribute [local go_sem high] eqA28
end Go.Proofs.Ytjnnglphdaemaaa.Q
end

section
-- Written by a program of this session (wip/tools/pp.sh) over the print of the kit.
namespace Go.Proofs.Ytjnnglphdaemaaa.Q
open Go.RowKit Go.Proofs.YtjnnglphdaemaaaW.PrintWords Go.Proofs.YtjnnglphdaemaaaW.PrintLast Go.Proofs.YtjnnglphdaemaaaW.PrintMore
attribute [local go_sem] max2_int min2_int max_two min_two max_three min_three max_four min_four   -- for this text's walks alone
set_option linter.unusedVariables false
set_option linter.unusedSimpArgs false
attribute [local go_sem high] eqA28
end Go.Proofs.Ytjnnglphdaemaaa.Q
end

section
-- Written by a program of this session (wip/tools/pp.sh) over the print of the kit.
namespace Go.Proofs.Ytjnnglphdaemaaa.Q
open Go.RowKit Go.Proofs.YtjnnglphdaemaaaW.PrintWords Go.Proofs.YtjnnglphdaemaaaW.PrintLast Go.Proofs.YtjnnglphdaemaaaW.PrintMore
attribute [local go_sem] max2_int min2_int max_two min_two max_three min_three max_four min_four   -- for this text's walks alone
set_option linter.unusedVariables false
set_option linter.unusedSimpArgs false
end Go.Proofs.Ytjnnglphdaemaaa.Q
end

section
/- Whether a store's bytes make its log: the program's loop and the reference's answer alike. Plain. -/
namespace Go.Proofs.Ytjnnglphdaemaaa.Q
open Go.RowKit Go.Proofs.Ytjnnglphdaemaaa.B Go.Proofs.YtjnnglphdaemaaaW.PrintWords Go.Proofs.YtjnnglphdaemaaaW.PrintMore
set_option linter.unusedVariables false
set_option linter.unusedSimpArgs false

theorem ev_uniq {α : Type} {g : Nat → Option α} {r q : α} (h : Ev g r) (k : Ev g q) : r = q := by
  obtain ⟨K, h⟩ := h
  obtain ⟨M, k⟩ := k
  exact Option.some.inj ((h (max K M) (Nat.le_max_left _ _)).symm.trans (k (max K M) (Nat.le_max_right _ _)))
theorem sizes_app {l t : List ByteArray} (h : ∀ x ∈ l, x.size ≤ bigB) (k : ∀ x ∈ t, x.size ≤ bigB) : ∀ x ∈ l ++ t, x.size ≤ bigB := fun x hx => (List.mem_append.1 hx).elim (h x) (k x)
end Go.Proofs.Ytjnnglphdaemaaa.Q
end

section
-- Written by a program of this session (wip/tools/pp.sh) over the print of the kit.
namespace Go.Proofs.Ytjnnglphdaemaaa.Q
open Go.RowKit Go.Proofs.YtjnnglphdaemaaaW.PrintWords Go.Proofs.YtjnnglphdaemaaaW.PrintLast Go.Proofs.YtjnnglphdaemaaaW.PrintMore
attribute [local go_sem] max2_int min2_int max_two min_two max_three min_three max_four min_four   -- for this text's walks alone
set_option linter.unusedVariables false
set_option linter.unusedSimpArgs false
def spec_l12Put.f (k : Nat) (a0_0 : Int) (a0_1 : ByteArray) (l1 : List ByteArray) : Option (List Int) := (spec_PutNum.f k (([] : List Int)) a0_0).bind fun t605 => ((spec_PutText.f k t605 a0_1).bind fun t608 => ((spec_PutTexts.f k t608 l1).bind fun t611 => ((spec_PutNum.f k (([] : List Int)) (t611.length : Int)).bind fun t617 => (if t617.length + t611.length < 140737488355328 then ((some (t617 ++ t611 : List Int)).bind fun y620 => ((spec_Digest.f k t611).bind fun t623 => (if 0 ≤ 4 then (if 4 ≤ (t623.size : Int) then (if y620.length + (t623.extract 0 4).size < 140737488355328 then (some (y620 ++ bytesOf (t623.extract 0 4))) else (none)) else (none)) else (none)))) else (none)))))
theorem spec_l12Put.mono : ∀ a0 a1 a2 k, LeO (spec_l12Put.f k a0 a1 a2) (spec_l12Put.f (k + 1) a0 a1 a2) := by
 intro a0 a1 a2 k
 unfold spec_l12Put.f
 repeat' (with_reducible first | exact LeO.refl _ | exact LeO.none _ | apply spec_Digest.mono | apply spec_PutNum.mono | apply spec_PutText.mono | apply spec_PutTexts.mono | apply LeO.ite | refine LeO.bind ?_ fun _ => ?_)
def spec_l12Put.T1 : Bool × List (List Nat × List Nat) := (true, [([], []), ([], []), ([1], [1]), ([0, 2], [0, 2]), ([], []), ([4], [4]), ([3, 5, 3], [3, 5]), ([], []), ([6, 7, 6], [6, 7]), ([8, 8, 0, 1, 2, 3, 4, 5, 6, 7, 8], [8])])
def spec_l12Put.B1 : List Nat := [0, 0, 2, 7, 0, 16, 63, 0, 255, 511]
theorem spec_l12Put.tab1 : rtab .any (opsOf Try.f122 1) = spec_l12Put.T1 := by kernel_rfl
theorem spec_l12Put.bits1 : waitsOk spec_l12Put.T1.2 spec_l12Put.B1 = true := by kernel_rfl
set_option maxHeartbeats 8000000 in
set_option maxRecDepth 100000 in
theorem spec_l12Put.calls (k : Nat) (a0_0 : Int) (a0_1 : ByteArray) (A1 : Option Addr) (c1 : Nat) (l1 : List ByteArray) (r : List Int) (w : World) (hr1 : Kd.C Kd.string w A1 l1.length l1) (hc1 : l1.length ≤ c1) (h : spec_l12Put.f k a0_0 a0_1 l1 = some r) :
  Calls Try.prog 122 #[.agg #[.int .i64 a0_0, .string a0_1], .slice A1 l1.length c1] w fun e w' => ∃ v0_ : Value, e = .returned (v0_) ∧ Kd.R (Kd.int .u8) 5 w' w.heap.size (fun _ => True) v0_ r ∧ Below w.heap.size w w' := by
 have hu28 := Try.underlying28
 have HR1 := Aside0.mk hr1
 have HC1 := Aside0.mk hc1
 clear hr1 hc1
 have HB := Aside0.mk (Below.refl w.heap.size w)
 have H : ((spec_PutNum.f k (([] : List Int)) a0_0).bind fun t605 => ((spec_PutText.f k t605 a0_1).bind fun t608 => ((spec_PutTexts.f k t608 l1).bind fun t611 => ((spec_PutNum.f k (([] : List Int)) (t611.length : Int)).bind fun t617 => (if t617.length + t611.length < 140737488355328 then ((some (t617 ++ t611 : List Int)).bind fun y620 => ((spec_Digest.f k t611).bind fun t623 => (if 0 ≤ 4 then (if 4 ≤ (t623.size : Int) then (if y620.length + (t623.extract 0 4).size < 140737488355328 then (some (y620 ++ bytesOf (t623.extract 0 4))) else (none)) else (none)) else (none)))) else (none)))))) = some r := h
 clear h
 obtain ⟨y602, hy602⟩ : ∃ y_ : List Int, y_ = (([] : List Int)) := ⟨_, rfl⟩
 replace H : ((spec_PutNum.f k y602 a0_0).bind fun t605 => ((spec_PutText.f k t605 a0_1).bind fun t608 => ((spec_PutTexts.f k t608 l1).bind fun t611 => ((spec_PutNum.f k (([] : List Int)) (t611.length : Int)).bind fun t617 => (if t617.length + t611.length < 140737488355328 then ((some (t617 ++ t611 : List Int)).bind fun y620 => ((spec_Digest.f k t611).bind fun t623 => (if 0 ≤ 4 then (if 4 ≤ (t623.size : Int) then (if y620.length + (t623.extract 0 4).size < 140737488355328 then (some (y620 ++ bytesOf (t623.extract 0 4))) else (none)) else (none)) else (none)))) else (none)))))) = some r := yh_ hy602 H
 have Ny602 := Aside0.mk hy602
 clear hy602
 replace H := bi_ H; obtain ⟨t605, A3, H⟩ := H
 replace H := bi_ H; obtain ⟨t608, A4, H⟩ := H
 replace H := bi_ H; obtain ⟨t611, A5, H⟩ := H
 obtain ⟨y614, hy614⟩ : ∃ y_ : List Int, y_ = (([] : List Int)) := ⟨_, rfl⟩
 replace H : ((spec_PutNum.f k y614 (t611.length : Int)).bind fun t617 => (if t617.length + t611.length < 140737488355328 then ((some (t617 ++ t611 : List Int)).bind fun y620 => ((spec_Digest.f k t611).bind fun t623 => (if 0 ≤ 4 then (if 4 ≤ (t623.size : Int) then (if y620.length + (t623.extract 0 4).size < 140737488355328 then (some (y620 ++ bytesOf (t623.extract 0 4))) else (none)) else (none)) else (none)))) else (none))) = some r := yh_ hy614 H
 have Ny614 := Aside0.mk hy614
 clear hy614
 replace H := bi_ H; obtain ⟨t617, A6, H⟩ := H
 replace H := ip_ H; obtain ⟨c7, H⟩ := H
 have LMc7 := Aside0.mk c7
 clear c7
 obtain ⟨y620, Ny620, H⟩ := sb_ (t617 ++ t611) H
 replace H := bi_ H; obtain ⟨t623, A8, H⟩ := H
 replace H := ip_ H; obtain ⟨c9, H⟩ := H
 have c9b0 := eq_true c9
 have c9b1 := decide_eq_true c9
 clear c9
 replace H := ip_ H; obtain ⟨c10, H⟩ := H
 have c10b0 := eq_true c10
 have c10b1 := decide_eq_true c10
 clear c10
 replace H := ip_ H; obtain ⟨c11, H⟩ := H
 have LMc11 := Aside0.mk c11
 clear c11
 obtain ⟨y624, hy624⟩ : ∃ y_ : List Int, y_ = (y620 ++ bytesOf (t623.extract 0 4)) := ⟨_, rfl⟩
 replace H : (some y624) = some r := yh_ hy624 H
 have Ny624 := Aside0.mk hy624
 clear hy624
 obtain rfl := Option.some.inj H
 go_enter Try.func122, Try.ntmps122
 try go_wp2_with (first | ((with_reducible refine gd_ 2 ?_); refine bx_ 2 28 #[.int .i64 a0_0, .string a0_1] ?_; intro gb601 hg w12 hbox hb; have BK601 := Aside0.mk hbox; have GW601 := gg_ hg HB; have GE601 := GW601; replace HB := ss_ HB hb; clear hb hbox hg))
 replace BK601 := Aside0.mk (blk_drew BK601.out)
 replace HB := Aside0.mk (below_drew1 HB.out)
 refine start_ (n := 10) (S := fun w' => w'.cell? ⟨gb601, 0, none⟩ = some (.int .i64 a0_0) ∧ w'.cell? ⟨gb601, 1, none⟩ = some (.string a0_1)) (ds := []) (lz_ 10 0) (by kernel_rfl) rfl rfl ⟨bc0_ BK601.out, bc1_ BK601.out⟩ (fun hHeld => ?_); refine with_tabW spec_l12Put.tab1 spec_l12Put.bits1 (fun HT_ HW_ => ?_)
 generalize w12.drew = w13 at BK601 HB hHeld ⊢
 refine pt_ 1 8 2 ?_
 refine pt_ 4 11 18 ?_
 refine pt_ 7 14 146 ?_
 refine tt_ 2 9 150 ?_
 refine tt_ 5 12 182 ?_
 refine one_ (i := 0) (N := some 7) (lz_ 10 183) rfl rfl (one_of HT_.out (by kernel_rfl)) (by decide) (fun K hK => ?_)
 refine Kd.R_lit_step (Kd.int .u8) _ 5 ?hg (N := 7) ?hd (xs := ([] : List Int)) (inner := []) (ok := fun _ => True) (okp := fun _ => True) ?hr ?hp (fun _ hk => hk) trivial (Below.refl _ _) (Nat.le_refl _) (by simp) ?_; (case hd => rfl); (case hg => rfl); (case hr => first | (go_simp; done) | (go_simp; rfl)); (case hp => exact (Reps.none _ _))
 intro v603 w14 ho15 hb hg_ hnew_
 clear hg_ hnew_
 (first | rw [← Ny602.out] at ho15 | (simp only [Int.reduceToNat] at ho15; rw [← Ny602.out] at ho15))
 have HO604 := Aside0.mk (Kd.R_lower ho15 (sz_ HB))
 replace BK601 := kl_ BK601 hb
 replace HB := ss_ HB hb
 clear hb ho15
 obtain ⟨Ao16, co16, eo16⟩ := Kd.R_slice HO604.out
 (first | subst eo16 | (injection eo16 with f1_ f2_ f3_; have f4_ := f1_.symm; have f5_ := f3_.symm; clear f1_ f2_ f3_; subst f4_; subst f5_))
 refine hK.out _ _ ⟨bc0_ BK601.out, bc1_ BK601.out⟩ (fun hHeld => ?_)
 clear hK K
 refine no_ 7 ?_
 refine one_ (i := 3) (N := some 10) (lz_ 10 191) rfl rfl (one_of HT_.out (by kernel_rfl)) (by decide) (fun K hK => ?_)
 refine gf_ Try.func139 (spec_PutNum.calls k _ _ y602 a0_0 t605 _ (ch_ HO604) (cl_ HO604) A3.out) ?_
 rintro e w17 ⟨v606, rfl, ho0, hb⟩
 refine ⟨_, rfl, ?_⟩
 have HO607 := Aside0.mk (Kd.R_lower (Kd.R_new' ho0 (lt_ HO604)) (sz_ HB))
 replace HO604 := re_ HO604 ho0 hb
 replace BK601 := kl_ BK601 hb
 replace HB := ss_ HB hb
 clear hb ho0
 obtain ⟨Ao18, co18, eo18⟩ := Kd.R_slice HO607.out
 (first | subst eo18 | (injection eo18 with f1_ f2_ f3_; have f4_ := f1_.symm; have f5_ := f3_.symm; clear f1_ f2_ f3_; subst f4_; subst f5_))
 refine hK.out _ _ ⟨bc0_ BK601.out, bc1_ BK601.out⟩ (fun hHeld => ?_)
 clear hK K
 refine no_ 10 ?_
 refine one_ (i := 6) (N := some 13) (lz_ 10 255) rfl rfl (one_of HT_.out (by kernel_rfl)) (by decide) (fun K hK => ?_)
 refine gf_ Try.func138 (spec_PutText.calls k _ _ t605 a0_1 t608 _ (ch_ HO607) (cl_ HO607) A4.out) ?_
 rintro e w19 ⟨v609, rfl, ho0, hb⟩
 refine ⟨_, rfl, ?_⟩
 have HO610 := Aside0.mk (Kd.R_lower (Kd.R_new' (Kd.R_new' ho0 (lt_ HO604)) (lt_ HO607)) (sz_ HB))
 replace HO604 := re_ HO604 ho0 hb
 replace HO607 := re_ HO607 ho0 hb
 replace BK601 := kl_ BK601 hb
 replace HB := ss_ HB hb
 clear hb ho0
 obtain ⟨Ao20, co20, eo20⟩ := Kd.R_slice HO610.out
 (first | subst eo20 | (injection eo20 with f1_ f2_ f3_; have f4_ := f1_.symm; have f5_ := f3_.symm; clear f1_ f2_ f3_; subst f4_; subst f5_))
 refine hK.out _ _ ⟨bc0_ BK601.out, bc1_ BK601.out⟩ (fun hHeld => ?_)
 clear hK K
 refine no_ 13 ?_
 refine one_ (i := 8) (N := some 15) (lz_ 10 511) rfl rfl (one_of HT_.out (by kernel_rfl)) (by decide) (fun K hK => ?_)
 refine gf_ Try.func137 (spec_PutTexts.calls k _ _ t608 _ _ l1 t611 _ (ch_ HO610) (cl_ HO610) (cb_ HR1 HB) HC1.out A5.out) ?_
 rintro e w21 ⟨v612, rfl, ho0, hb⟩
 refine ⟨_, rfl, ?_⟩
 have HO613 := Aside0.mk (Kd.R_lower (Kd.R_new' (Kd.R_new' (Kd.R_new' ho0 (lt_ HO604)) (lt_ HO607)) (lt_ HO610)) (sz_ HB))
 replace HO604 := re_ HO604 ho0 hb
 replace HO607 := re_ HO607 ho0 hb
 replace HO610 := re_ HO610 ho0 hb
 replace BK601 := kl_ BK601 hb
 replace HB := ss_ HB hb
 clear hb ho0
 refine hK.out _ _ ⟨bc0_ BK601.out, bc1_ BK601.out⟩ (fun hHeld => ?_)
 clear hK K
 refine no_ 15 ?_
 refine pt_ 9 5 1023 ?_
 refine done_ (done_of HT_.out (by kernel_rfl)) ?_
 try go_wp2_with (first | ((with_reducible refine gd_ 16 ?_); refine rl_ (Kd.int .u8) 5 16 ([] : List Int) [] ?_; intro v615 w22 ho23 hb hg_ hnew_; clear hg_ hnew_; (first | rw [← Ny614.out] at ho23 | (simp only [Int.reduceToNat] at ho23; rw [← Ny614.out] at ho23)); have HO616 := Aside0.mk (Kd.R_lower (Kd.R_new' (Kd.R_new' (Kd.R_new' (Kd.R_new' ho23 (lt_ HO604)) (lt_ HO607)) (lt_ HO610)) (lt_ HO613)) (sz_ HB)); replace HO604 := re_ HO604 ho23 hb; replace HO607 := re_ HO607 ho23 hb; replace HO610 := re_ HO610 ho23 hb; replace HO613 := re_ HO613 ho23 hb; replace BK601 := kl_ BK601 hb; replace HB := ss_ HB hb; clear hb ho23; obtain ⟨Ao24, co24, eo24⟩ := Kd.R_slice HO613.out; subst eo24; obtain ⟨Ao25, co25, eo25⟩ := Kd.R_slice HO616.out; subst eo25) | ((with_reducible refine gq_ 139 19 ?_); refine gc_ 19 Try.func139 (spec_PutNum.calls k _ _ y614 (t611.length : Int) t617 _ (ch_ HO616) (cl_ HO616) A6.out) ?_; rintro e w26 ⟨v618, rfl, ho0, hb⟩; refine ⟨_, rfl, ?_⟩; have HO619 := Aside0.mk (Kd.R_lower (Kd.R_new' (Kd.R_new' (Kd.R_new' (Kd.R_new' (Kd.R_new' ho0 (lt_ HO604)) (lt_ HO607)) (lt_ HO610)) (lt_ HO613)) (lt_ HO616)) (sz_ HB)); replace HO604 := re_ HO604 ho0 hb; replace HO607 := re_ HO607 ho0 hb; replace HO610 := re_ HO610 ho0 hb; replace HO613 := re_ HO613 ho0 hb; replace HO616 := re_ HO616 ho0 hb; replace BK601 := kl_ BK601 hb; replace HB := ss_ HB hb; clear hb ho0) | ((with_reducible refine gate_builtin (b := .append) (xs := #[.tmp 19, .tmp 20]) rfl ?_); at_builtin; refine Kd.R_append_rows (Kd.int .u8) (w0 := w) w.heap.size rfl (.tmp 19) (.tmp 20) 22 5 (.int .u8 0) 1 rfl Try.underlying22 info5 rfl (by decide) (by omega) v618 t617 t611 _ _ _ (fun k_ => some k_ ≠ (.slice Ao16 y602.length co16 : Value).ownBlock ∧ some k_ ≠ (.slice Ao18 t605.length co18 : Value).ownBlock ∧ some k_ ≠ (.slice Ao20 t608.length co20 : Value).ownBlock ∧ some k_ ≠ (.slice Ao24 t611.length co24 : Value).ownBlock ∧ some k_ ≠ (.slice Ao25 y614.length co25 : Value).ownBlock) (fun _ => False) rfl rfl ?aO ?aR (fun _ _ h => h) (fun _ h => h.elim) ?aF ?aB ?aS ?aL ?_; (case aR => repeat (first | exact (Kd.R_reads' HO613.out).2.2 | (with_reducible refine Kd.C_alloc ?_ _) | (with_reducible refine Kd.C_drewN ?_ _) | (with_reducible refine Kd.C_drew ?_))); (case aB => exact (bw_ HB)); (case aF => exact (fun k_ hk => ⟨Kd.fresh' (lt_ HO604) k_ hk, Kd.fresh' (lt_ HO607) k_ hk, Kd.fresh' (lt_ HO610) k_ hk, Kd.fresh' (lt_ HO613) k_ hk, Kd.fresh' (lt_ HO616) k_ hk⟩)); (case aO => exact (kr_ (Kd.R_mono HO619.out (fun _ hk => ⟨hk.1.1.1.1.2, ⟨hk.1.1.1.2, ⟨hk.1.1.2, ⟨hk.1.2, hk.2⟩⟩⟩⟩)))); (case aS => exact (sz_ HB)); (case aL => have := LMc7.out; omega); intro v621 w27 ho hb hg hat; rw [← Ny620.out] at ho; replace BK601 := kg_ BK601 HO619 hg; replace HO604 := Aside0.mk (Kd.R_after (ok := (fun k_ => some k_ ≠ (.slice Ao18 t605.length co18 : Value).ownBlock ∧ some k_ ≠ (.slice Ao20 t608.length co20 : Value).ownBlock ∧ some k_ ≠ (.slice Ao24 t611.length co24 : Value).ownBlock ∧ some k_ ≠ (.slice Ao25 y614.length co25 : Value).ownBlock)) (kr_ (Kd.R_mono HO604.out (fun _ hk => ⟨⟨hk.1.1.1.1.2, ⟨hk.1.1.1.2, ⟨hk.1.1.2, hk.1.2⟩⟩⟩, hk.2⟩))) hg hat); replace HO607 := Aside0.mk (Kd.R_after (ok := (fun k_ => some k_ ≠ (.slice Ao16 y602.length co16 : Value).ownBlock ∧ some k_ ≠ (.slice Ao20 t608.length co20 : Value).ownBlock ∧ some k_ ≠ (.slice Ao24 t611.length co24 : Value).ownBlock ∧ some k_ ≠ (.slice Ao25 y614.length co25 : Value).ownBlock)) (kr_ (Kd.R_mono HO607.out (fun _ hk => ⟨⟨hk.1.1.1.1.2, ⟨hk.1.1.1.2, ⟨hk.1.1.2, hk.1.2⟩⟩⟩, hk.2⟩))) hg hat); replace HO610 := Aside0.mk (Kd.R_after (ok := (fun k_ => some k_ ≠ (.slice Ao16 y602.length co16 : Value).ownBlock ∧ some k_ ≠ (.slice Ao18 t605.length co18 : Value).ownBlock ∧ some k_ ≠ (.slice Ao24 t611.length co24 : Value).ownBlock ∧ some k_ ≠ (.slice Ao25 y614.length co25 : Value).ownBlock)) (kr_ (Kd.R_mono HO610.out (fun _ hk => ⟨⟨hk.1.1.1.1.2, ⟨hk.1.1.1.2, ⟨hk.1.1.2, hk.1.2⟩⟩⟩, hk.2⟩))) hg hat); replace HO613 := Aside0.mk (Kd.R_after (ok := (fun k_ => some k_ ≠ (.slice Ao16 y602.length co16 : Value).ownBlock ∧ some k_ ≠ (.slice Ao18 t605.length co18 : Value).ownBlock ∧ some k_ ≠ (.slice Ao20 t608.length co20 : Value).ownBlock ∧ some k_ ≠ (.slice Ao25 y614.length co25 : Value).ownBlock)) (kr_ (Kd.R_mono HO613.out (fun _ hk => ⟨⟨hk.1.1.1.1.2, ⟨hk.1.1.1.2, ⟨hk.1.1.2, hk.1.2⟩⟩⟩, hk.2⟩))) hg hat); replace HO616 := Aside0.mk (Kd.R_after (ok := (fun k_ => some k_ ≠ (.slice Ao16 y602.length co16 : Value).ownBlock ∧ some k_ ≠ (.slice Ao18 t605.length co18 : Value).ownBlock ∧ some k_ ≠ (.slice Ao20 t608.length co20 : Value).ownBlock ∧ some k_ ≠ (.slice Ao24 t611.length co24 : Value).ownBlock)) (kr_ (Kd.R_mono HO616.out (fun _ hk => ⟨⟨hk.1.1.1.1.2, ⟨hk.1.1.1.2, ⟨hk.1.1.2, hk.1.2⟩⟩⟩, hk.2⟩))) hg hat); replace HB := Aside0.mk hb; have HO622 := Aside0.mk ho; clear HO619; clear ho hb hg hat) | ((with_reducible refine gq_ 114 24 ?_); refine gc_ 24 Try.func114 (spec_Digest.calls k _ _ t611 t623 _ (ch_ HO613) (cl_ HO613) A8.out) ?_; rintro e w28 ⟨rfl, hb⟩; refine ⟨_, rfl, ?_⟩; replace HO604 := rb_ HO604 hb; replace HO607 := rb_ HO607 hb; replace HO610 := rb_ HO610 hb; replace HO613 := rb_ HO613 hb; replace HO616 := rb_ HO616 hb; replace HO622 := rb_ HO622 hb; replace BK601 := kl_ BK601 hb; replace HB := ss_ HB hb; clear hb) | (at_builtin; refine print_append_strR (w0 := w) w.heap.size rfl (.tmp 22) _ 22 9 5 rfl Try.underlying22 Try.underlying9 info5 v621 y620 (t623.extract 0 4) (fun k_ => some k_ ≠ (.slice Ao16 y602.length co16 : Value).ownBlock ∧ some k_ ≠ (.slice Ao18 t605.length co18 : Value).ownBlock ∧ some k_ ≠ (.slice Ao20 t608.length co20 : Value).ownBlock ∧ some k_ ≠ (.slice Ao24 t611.length co24 : Value).ownBlock ∧ some k_ ≠ (.slice Ao25 y614.length co25 : Value).ownBlock) rfl rfl ?aF ?aO ?aB ?aS ?aL ?_; (case aB => exact (bw_ HB)); (case aF => exact (fun k_ hk => ⟨Kd.fresh' (lt_ HO604) k_ hk, Kd.fresh' (lt_ HO607) k_ hk, Kd.fresh' (lt_ HO610) k_ hk, Kd.fresh' (lt_ HO613) k_ hk, Kd.fresh' (lt_ HO616) k_ hk⟩)); (case aO => exact (kr_ HO622.out)); (case aS => exact (sz_ HB)); (case aL => have := LMc11.out; omega); intro v625 w29 ho hb hg hat; rw [← Ny624.out] at ho; replace BK601 := kg_ BK601 HO622 hg; replace HO604 := Aside0.mk (Kd.R_after (ok := (fun k_ => some k_ ≠ (.slice Ao18 t605.length co18 : Value).ownBlock ∧ some k_ ≠ (.slice Ao20 t608.length co20 : Value).ownBlock ∧ some k_ ≠ (.slice Ao24 t611.length co24 : Value).ownBlock ∧ some k_ ≠ (.slice Ao25 y614.length co25 : Value).ownBlock)) (kr_ HO604.out) hg hat); replace HO607 := Aside0.mk (Kd.R_after (ok := (fun k_ => some k_ ≠ (.slice Ao16 y602.length co16 : Value).ownBlock ∧ some k_ ≠ (.slice Ao20 t608.length co20 : Value).ownBlock ∧ some k_ ≠ (.slice Ao24 t611.length co24 : Value).ownBlock ∧ some k_ ≠ (.slice Ao25 y614.length co25 : Value).ownBlock)) (kr_ HO607.out) hg hat); replace HO610 := Aside0.mk (Kd.R_after (ok := (fun k_ => some k_ ≠ (.slice Ao16 y602.length co16 : Value).ownBlock ∧ some k_ ≠ (.slice Ao18 t605.length co18 : Value).ownBlock ∧ some k_ ≠ (.slice Ao24 t611.length co24 : Value).ownBlock ∧ some k_ ≠ (.slice Ao25 y614.length co25 : Value).ownBlock)) (kr_ HO610.out) hg hat); replace HO613 := Aside0.mk (Kd.R_after (ok := (fun k_ => some k_ ≠ (.slice Ao16 y602.length co16 : Value).ownBlock ∧ some k_ ≠ (.slice Ao18 t605.length co18 : Value).ownBlock ∧ some k_ ≠ (.slice Ao20 t608.length co20 : Value).ownBlock ∧ some k_ ≠ (.slice Ao25 y614.length co25 : Value).ownBlock)) (kr_ HO613.out) hg hat); replace HO616 := Aside0.mk (Kd.R_after (ok := (fun k_ => some k_ ≠ (.slice Ao16 y602.length co16 : Value).ownBlock ∧ some k_ ≠ (.slice Ao18 t605.length co18 : Value).ownBlock ∧ some k_ ≠ (.slice Ao20 t608.length co20 : Value).ownBlock ∧ some k_ ≠ (.slice Ao24 t611.length co24 : Value).ownBlock)) (kr_ HO616.out) hg hat); replace HB := Aside0.mk hb; have HO626 := Aside0.mk ho; clear HO622; clear ho hb hg hat))
 go_ret
 exact ⟨_, e2_, by (with_reducible repeat (first | apply Kd.R_alloc | apply Kd.R_drewN | apply Kd.R_drew)); exact Kd.R_mono HO626.out (fun _ hk => trivial), bw_ HB⟩
end Go.Proofs.Ytjnnglphdaemaaa.Q
end

section
/- The reference's bytes of a commit. -/
namespace Go.Proofs.Ytjnnglphdaemaaa.Q
open Go.RowKit Go.Proofs.Ytjnnglphdaemaaa.B Go.Proofs.YtjnnglphdaemaaaW.PrintWords Go.Proofs.YtjnnglphdaemaaaW.PrintMore
set_option linter.unusedVariables false
theorem l12Put_val (n : Nat) (s : ByteArray) (t : List ByteArray) (hn : n ≤ 200) (hs : s.size ≤ 1000) (ht : t.length ≤ 1000000) (htt : total t ≤ 100000000) (hx : ∀ x ∈ t, x.size ≤ 1000000000) : Ev (fun q => spec_l12Put.f q (n : Int) s t) (commitB n s t) := by
  have ht0 := total_nonneg t
  have a2 := (putNum_val [] n (by omega) (by simp)).1
  have h5 := num_five (show n ≤ 1000000000 by omega)
  have hs5 := num_five (show s.size ≤ 1000000000 by omega)
  have b2 := (putText_val ([] ++ num n) s (by omega) (by simp; omega)).1
  have c2 := (putTexts_val ([] ++ num n ++ textB s) t (by rw [List.length_append, textB_length]; simp; omega) (by omega) hx).1
  have eb : [] ++ num n ++ textB s ++ textsB t = bodyB n s t := by
    unfold bodyB
    simp
  rw [eb] at c2
  have hm := manyB_length t hx
  have ht5 := num_five (show t.length ≤ 1000000000 by omega)
  have hbl : (bodyB n s t).length ≤ 1000000000 := by
    unfold bodyB textsB
    rw [List.length_append, List.length_append, List.length_append, textB_length]
    omega
  have h4 : ((sha (bodyB n s t)).extract 0 4).size = 4 := by
    rw [ByteArray.size_extract, sha_size]
    rfl
  have h32 : (sha (bodyB n s t)).size = 32 := sha_size _
  have d2 := (putNum_val [] (bodyB n s t).length hbl (by simp)).1
  have hd5 := num_five hbl
  rw [List.nil_append] at d2
  unfold spec_l12Put.f commitB sumB
  refine Ev.bind a2 (Ev.bind b2 (Ev.bind c2 (Ev.bind d2 (Ev.pos (by omega) (Ev.bind (Ev.now _) (Ev.bind (spec_Digest_ev (bodyB n s t) (by omega) (bodyB_inB n s t)) ?_))))))
  rw [← List.append_assoc]
  exact Ev.pos (by omega) (Ev.pos (by omega) (Ev.pos (by rw [List.length_append, h4]; omega) (Ev.now _)))
end Go.Proofs.Ytjnnglphdaemaaa.Q
end

section
-- Written by a program of this session (wip/tools/pp.sh) over the print of the kit.
namespace Go.Proofs.Ytjnnglphdaemaaa.Q
open Go.RowKit Go.Proofs.YtjnnglphdaemaaaW.PrintWords Go.Proofs.YtjnnglphdaemaaaW.PrintLast Go.Proofs.YtjnnglphdaemaaaW.PrintMore
attribute [local go_sem] max2_int min2_int max_two min_two max_three min_three max_four min_four   -- for this text's walks alone
set_option linter.unusedVariables false
set_option linter.unusedSimpArgs false
attribute [local go_sem high] eqA28
def spec_IsSigned.l0 : Nat → List (S28) → Int → Int → ByteArray → Option (Bool)
 | 0, _, _, _, _ => none
 | k + 1, x0, x5, x602000, x602001 => if x5 < (x0.length : Int) then (if 0 ≤ x5 then (if (((rd_T28 x0 x5).f0) == x602000 && ((((rd_T28 x0 x5).f1).toList) == x602001.toList)) = true then (some true) else (spec_IsSigned.l0 k x0 (wrap64 (x5 + 1)) x602000 x602001)) else (none)) else (some false)
def spec_IsSigned.f (k : Nat) (l0 : List (S28)) (a1_0 : Int) (a1_1 : ByteArray) : Option (Bool) := spec_IsSigned.l0 k l0 0 a1_0 a1_1
theorem spec_IsSigned.mono_l : ∀ k, (∀ y0 y1 y2 y3, LeO (spec_IsSigned.l0 k y0 y1 y2 y3) (spec_IsSigned.l0 (k + 1) y0 y1 y2 y3))
 | 0 => fun _ _ _ _ r h => by simp [spec_IsSigned.l0] at h
 | k + 1 => by
  have ih0 := spec_IsSigned.mono_l k
  ·intro y0 y1 y2 y3
   unfold spec_IsSigned.l0
   repeat' (with_reducible first | exact LeO.refl _ | exact LeO.none _ | apply ih0 | apply LeO.ite | refine LeO.bind ?_ fun _ => ?_)
theorem spec_IsSigned.mono : ∀ a0 a1 a2 k, LeO (spec_IsSigned.f k a0 a1 a2) (spec_IsSigned.f (k + 1) a0 a1 a2) := by
 intro a0 a1 a2 k
 have ih0 := spec_IsSigned.mono_l k
 unfold spec_IsSigned.f
 repeat' (with_reducible first | exact LeO.refl _ | exact LeO.none _ | apply ih0 | apply LeO.ite | refine LeO.bind ?_ fun _ => ?_)
set_option maxHeartbeats 8000000 in
set_option maxRecDepth 100000 in
theorem spec_IsSigned.calls (k : Nat) (A0 : Option Addr) (c0 : Nat) (l0 : List (S28)) (a1_0 : Int) (a1_1 : ByteArray) (r : Bool) (w : World) (hr0 : Kd.C k28 w A0 l0.length l0) (hc0 : l0.length ≤ c0) (h : spec_IsSigned.f k l0 a1_0 a1_1 = some r) :
  Calls Try.prog 79 #[.slice A0 l0.length c0, .agg #[.int .i64 a1_0, .string a1_1]] w fun e w' => e = .returned (.bool r) ∧ Below w.heap.size w w' := by
 have hu28 := Try.underlying28
 have HR0 := Aside0.mk hr0
 have HC0 := Aside0.mk hc0
 clear hr0 hc0
 have HB := Aside0.mk (Below.refl w.heap.size w)
 have H : (spec_IsSigned.l0 k l0 0 a1_0 a1_1) = some r := h
 clear h
 have H' := Aside0.mk H
 clear H
 go_enter Try.func79, Try.ntmps79
 go_wp2_with (first | ((with_reducible refine gd_ 3 ?_); refine bx_ 3 28 #[.int .i64 a1_0, .string a1_1] ?_; intro gb601 hg w3 hbox hb; have BK601 := Aside0.mk hbox; have GW601 := gg_ hg HB; have GE601 := GW601; replace HB := ss_ HB hb; clear hb hbox hg))
 repeat (go_quiet (first | ((with_reducible refine gd_ 3 ?_); refine bx_ 3 28 #[.int .i64 a1_0, .string a1_1] ?_; intro gb601 hg w3 hbox hb; have BK601 := Aside0.mk hbox; have GW601 := gg_ hg HB; have GE601 := gg_ hg HB; replace HB := ss_ HB hb; clear hb hbox hg)); try go_wp2_with (first | ((with_reducible refine gd_ 3 ?_); refine bx_ 3 28 #[.int .i64 a1_0, .string a1_1] ?_; intro gb601 hg w3 hbox hb; have BK601 := Aside0.mk hbox; have GW601 := gg_ hg HB; have GE601 := GW601; replace HB := ss_ HB hb; clear hb hbox hg)))
 go_loopg [5] k (fun kq v5 w' => ∃ (x5_1 : Int), v5 = .int .i64 x5_1 ∧ Aside0 (spec_IsSigned.l0 kq l0 x5_1 a1_0 a1_1 = some r) ∧ Aside0 (kq ≤ k) ∧ Aside0 (w'.heap[gb601]? = some (.cells #[.int .i64 a1_0, .string a1_1] 28 (0, 0))) ∧ Aside0 (Below w.heap.size w w'))
 case atStart => exact ⟨(0), e1_, H', ⟨Nat.le_refl _⟩, ⟨kb_ BK601.out⟩, ⟨bw_ HB⟩⟩
 case round =>
  clear H'
  obtain ⟨x5_1, rfl, HA, HK1, BK601, HB⟩ := hrel
  cases gk with
  | zero => exact absurd HA.out (by simp [spec_IsSigned.l0])
  | succ k1 =>
   have H := HA.out
   clear HA
   simp only [spec_IsSigned.l0] at H
   replace H := itd_ H; obtain ⟨c4b0, H⟩ | ⟨c4b0, H⟩ := H
   ·replace H := ipd_ H; obtain ⟨c5b0, H⟩ := H
    replace H := it_ H; obtain ⟨c6, H⟩ | ⟨c6, H⟩ := H
    ·have c6b0 : (((rd_T28 l0 x5_1).f0) == a1_0 && ((((rd_T28 l0 x5_1).f1).toList) == a1_1.toList)) = true := c6
     (try (have c6b1 : decide (((rd_T28 l0 x5_1).f0) = a1_0 && ((((rd_T28 l0 x5_1).f1).toList) == a1_1.toList)) = true := by simpa using c6))
     (try (have c6b2 : (((rd_T28 l0 x5_1).f0) == a1_0 && ((((rd_T28 l0 x5_1).f1).toList) == a1_1.toList)) = true := by simpa using c6))
     clear c6
     obtain rfl := Option.some.inj H
     have p602 : 0 ≤ (x5_1 : Int) := of_decide_eq_true as_
     have q602 : x5_1 < (l0.length : Int) := of_decide_eq_true as_
     obtain ⟨ad602, e602, hx602_0, hx602_1⟩ := at_T28 HR0.out x5_1 p602 q602
     cases e602
     replace hx602_0 := (HB.out.cell (World.block_lt_of_cell? w _ hx602_0)).trans hx602_0
     replace hx602_1 := (HB.out.cell (World.block_lt_of_cell? w _ hx602_1)).trans hx602_1
     replace p602 := eq_true p602
     replace q602 := eq_true q602
     have hz7 := cz2_ BK601
     go_wp2
     repeat (go_quiet (fail); try go_wp2)
     go_ret
     exact ⟨e2_, bw_ HB⟩
    ·have c6b0 : (((rd_T28 l0 x5_1).f0) == a1_0 && ((((rd_T28 l0 x5_1).f1).toList) == a1_1.toList)) = false := by simpa using c6
     (try (have c6b1 : decide (((rd_T28 l0 x5_1).f0) = a1_0 && ((((rd_T28 l0 x5_1).f1).toList) == a1_1.toList)) = false := by simpa using c6))
     (try (have c6b2 : (((rd_T28 l0 x5_1).f0) == a1_0 && ((((rd_T28 l0 x5_1).f1).toList) == a1_1.toList)) = false := by simpa using c6))
     (try (have c6b3 : ¬ (((rd_T28 l0 x5_1).f0) = a1_0 && ((((rd_T28 l0 x5_1).f1).toList) == a1_1.toList)) := by simpa using c6))
     clear c6
     have H' := Aside0.mk H
     clear H
     have p602 : 0 ≤ (x5_1 : Int) := of_decide_eq_true as_
     have q602 : x5_1 < (l0.length : Int) := of_decide_eq_true as_
     obtain ⟨ad602, e602, hx602_0, hx602_1⟩ := at_T28 HR0.out x5_1 p602 q602
     cases e602
     replace hx602_0 := (HB.out.cell (World.block_lt_of_cell? w _ hx602_0)).trans hx602_0
     replace hx602_1 := (HB.out.cell (World.block_lt_of_cell? w _ hx602_1)).trans hx602_1
     replace p602 := eq_true p602
     replace q602 := eq_true q602
     have hz8 := cz2_ BK601
     go_wp2
     repeat (go_quiet (fail); try go_wp2)
     go_roundg k1
     case measure => have := HK1.out; omega
     case rel => exact ⟨(wrap64 (x5_1 + 1)), e1_, H', ⟨by have := HK1.out; omega⟩, ⟨kb_ BK601.out⟩, ⟨bw_ HB⟩⟩
   ·obtain rfl := Option.some.inj H
    go_wp2
    repeat (go_quiet (fail); try go_wp2)
    go_ret
    exact ⟨e2_, bw_ HB⟩
end Go.Proofs.Ytjnnglphdaemaaa.Q
end

section
-- Written by a program of this session (wip/tools/pp.sh) over the print of the kit.
namespace Go.Proofs.Ytjnnglphdaemaaa.Q
open Go.RowKit Go.Proofs.YtjnnglphdaemaaaW.PrintWords Go.Proofs.YtjnnglphdaemaaaW.PrintLast Go.Proofs.YtjnnglphdaemaaaW.PrintMore
attribute [local go_sem] max2_int min2_int max_two min_two max_three min_three max_four min_four   -- for this text's walks alone
set_option linter.unusedVariables false
set_option linter.unusedSimpArgs false
attribute [local go_sem high] eqA28
def impl_Head_115.l0 : Nat → List (S28) → Int → Int → Int → ByteArray → Option (Int)
 | 0, _, _, _, _, _ => none
 | k + 1, x0, x7, x8, x602000, x602001 => if x8 < x7 then (if 0 ≤ x8 then (if x8 < (x0.length : Int) then (if (x602000 == ((rd_T28 x0 x8).f0) && (x602001.toList == (((rd_T28 x0 x8).f1).toList))) = true then (some x8) else (impl_Head_115.l0 k x0 x7 (wrap64 (x8 + 1)) x602000 x602001)) else (none)) else (none)) else (some (-1))
def impl_Head_115.f (k : Nat) (l0 : List (S28)) (a1_0 : Int) (a1_1 : ByteArray) : Option (Int) := impl_Head_115.l0 k l0 (l0.length : Int) 0 a1_0 a1_1
theorem impl_Head_115.mono_l : ∀ k, (∀ y0 y1 y2 y3 y4, LeO (impl_Head_115.l0 k y0 y1 y2 y3 y4) (impl_Head_115.l0 (k + 1) y0 y1 y2 y3 y4))
 | 0 => fun _ _ _ _ _ r h => by simp [impl_Head_115.l0] at h
 | k + 1 => by
  have ih0 := impl_Head_115.mono_l k
  ·intro y0 y1 y2 y3 y4
   unfold impl_Head_115.l0
   repeat' (with_reducible first | exact LeO.refl _ | exact LeO.none _ | apply ih0 | apply LeO.ite | refine LeO.bind ?_ fun _ => ?_)
theorem impl_Head_115.mono : ∀ a0 a1 a2 k, LeO (impl_Head_115.f k a0 a1 a2) (impl_Head_115.f (k + 1) a0 a1 a2) := by
 intro a0 a1 a2 k
 have ih0 := impl_Head_115.mono_l k
 unfold impl_Head_115.f
 repeat' (with_reducible first | exact LeO.refl _ | exact LeO.none _ | apply ih0 | apply LeO.ite | refine LeO.bind ?_ fun _ => ?_)
set_option maxHeartbeats 8000000 in
set_option maxRecDepth 100000 in
theorem impl_Head_115.calls (k : Nat) (A0 : Option Addr) (c0 : Nat) (l0 : List (S28)) (a1_0 : Int) (a1_1 : ByteArray) (r : Int) (w : World) (hr0 : Kd.C k28 w A0 l0.length l0) (hc0 : l0.length ≤ c0) (h : impl_Head_115.f k l0 a1_0 a1_1 = some r) :
  Calls Try.prog 115 #[.slice A0 l0.length c0, .agg #[.int .i64 a1_0, .string a1_1]] w fun e w' => e = .returned (.int .i64 r) ∧ Below w.heap.size w w' := by
 have hu28 := Try.underlying28
 have HR0 := Aside0.mk hr0
 have HC0 := Aside0.mk hc0
 clear hr0 hc0
 have HB := Aside0.mk (Below.refl w.heap.size w)
 have H : (impl_Head_115.l0 k l0 (l0.length : Int) 0 a1_0 a1_1) = some r := h
 clear h
 have H' := Aside0.mk H
 clear H
 go_enter Try.func115, Try.ntmps115
 go_wp2_with (first | ((with_reducible refine gd_ 3 ?_); refine bx_ 3 28 #[.int .i64 a1_0, .string a1_1] ?_; intro gb601 hg w3 hbox hb; have BK601 := Aside0.mk hbox; have GW601 := gg_ hg HB; have GE601 := GW601; replace HB := ss_ HB hb; clear hb hbox hg))
 repeat (go_quiet (first | ((with_reducible refine gd_ 3 ?_); refine bx_ 3 28 #[.int .i64 a1_0, .string a1_1] ?_; intro gb601 hg w3 hbox hb; have BK601 := Aside0.mk hbox; have GW601 := gg_ hg HB; have GE601 := gg_ hg HB; replace HB := ss_ HB hb; clear hb hbox hg)); try go_wp2_with (first | ((with_reducible refine gd_ 3 ?_); refine bx_ 3 28 #[.int .i64 a1_0, .string a1_1] ?_; intro gb601 hg w3 hbox hb; have BK601 := Aside0.mk hbox; have GW601 := gg_ hg HB; have GE601 := GW601; replace HB := ss_ HB hb; clear hb hbox hg)))
 go_loopg [8] k (fun kq v8 w' => ∃ (x8_1 : Int), v8 = .int .i64 x8_1 ∧ Aside0 (impl_Head_115.l0 kq l0 (l0.length : Int) x8_1 a1_0 a1_1 = some r) ∧ Aside0 (kq ≤ k) ∧ Aside0 (w'.heap[gb601]? = some (.cells #[.int .i64 a1_0, .string a1_1] 28 (0, 0))) ∧ Aside0 (Below w.heap.size w w'))
 case atStart => exact ⟨(0), e1_, H', ⟨Nat.le_refl _⟩, ⟨kb_ BK601.out⟩, ⟨bw_ HB⟩⟩
 case round =>
  clear H'
  obtain ⟨x8_1, rfl, HA, HK1, BK601, HB⟩ := hrel
  cases gk with
  | zero => exact absurd HA.out (by simp [impl_Head_115.l0])
  | succ k1 =>
   have H := HA.out
   clear HA
   simp only [impl_Head_115.l0] at H
   replace H := itd_ H; obtain ⟨c4b0, H⟩ | ⟨c4b0, H⟩ := H
   ·replace H := ipd_ H; obtain ⟨c5b0, H⟩ := H
    replace H := ipd_ H; obtain ⟨c6b0, H⟩ := H
    replace H := it_ H; obtain ⟨c7, H⟩ | ⟨c7, H⟩ := H
    ·have c7b0 : (a1_0 == ((rd_T28 l0 x8_1).f0) && (a1_1.toList == (((rd_T28 l0 x8_1).f1).toList))) = true := c7
     (try (have c7b1 : decide (a1_0 = ((rd_T28 l0 x8_1).f0) && (a1_1.toList == (((rd_T28 l0 x8_1).f1).toList))) = true := by simpa using c7))
     (try (have c7b2 : (a1_0 == ((rd_T28 l0 x8_1).f0) && (a1_1.toList == (((rd_T28 l0 x8_1).f1).toList))) = true := by simpa using c7))
     clear c7
     obtain rfl := Option.some.inj H
     have hz8 := cz2_ BK601
     have p602 : 0 ≤ (x8_1 : Int) := of_decide_eq_true as_
     have q602 : x8_1 < (l0.length : Int) := of_decide_eq_true as_
     obtain ⟨ad602, e602, hx602_0, hx602_1⟩ := at_T28 HR0.out x8_1 p602 q602
     cases e602
     replace hx602_0 := (HB.out.cell (World.block_lt_of_cell? w _ hx602_0)).trans hx602_0
     replace hx602_1 := (HB.out.cell (World.block_lt_of_cell? w _ hx602_1)).trans hx602_1
     replace p602 := eq_true p602
     replace q602 := eq_true q602
     go_wp2
     repeat (go_quiet (fail); try go_wp2)
     go_ret
     exact ⟨e2_, bw_ HB⟩
    ·have c7b0 : (a1_0 == ((rd_T28 l0 x8_1).f0) && (a1_1.toList == (((rd_T28 l0 x8_1).f1).toList))) = false := by simpa using c7
     (try (have c7b1 : decide (a1_0 = ((rd_T28 l0 x8_1).f0) && (a1_1.toList == (((rd_T28 l0 x8_1).f1).toList))) = false := by simpa using c7))
     (try (have c7b2 : (a1_0 == ((rd_T28 l0 x8_1).f0) && (a1_1.toList == (((rd_T28 l0 x8_1).f1).toList))) = false := by simpa using c7))
     (try (have c7b3 : ¬ (a1_0 = ((rd_T28 l0 x8_1).f0) && (a1_1.toList == (((rd_T28 l0 x8_1).f1).toList))) := by simpa using c7))
     clear c7
     have H' := Aside0.mk H
     clear H
     have hz9 := cz2_ BK601
     have p602 : 0 ≤ (x8_1 : Int) := of_decide_eq_true as_
     have q602 : x8_1 < (l0.length : Int) := of_decide_eq_true as_
     obtain ⟨ad602, e602, hx602_0, hx602_1⟩ := at_T28 HR0.out x8_1 p602 q602
     cases e602
     replace hx602_0 := (HB.out.cell (World.block_lt_of_cell? w _ hx602_0)).trans hx602_0
     replace hx602_1 := (HB.out.cell (World.block_lt_of_cell? w _ hx602_1)).trans hx602_1
     replace p602 := eq_true p602
     replace q602 := eq_true q602
     go_wp2
     repeat (go_quiet (fail); try go_wp2)
     go_roundg k1
     case measure => have := HK1.out; omega
     case rel => exact ⟨(wrap64 (x8_1 + 1)), e1_, H', ⟨by have := HK1.out; omega⟩, ⟨kb_ BK601.out⟩, ⟨bw_ HB⟩⟩
   ·obtain rfl := Option.some.inj H
    go_wp2
    repeat (go_quiet (fail); try go_wp2)
    go_ret
    exact ⟨e2_, bw_ HB⟩
end Go.Proofs.Ytjnnglphdaemaaa.Q
end

section
-- Written by a program of this session (wip/tools/pp.sh) over the print of the kit.
namespace Go.Proofs.Ytjnnglphdaemaaa.Q
open Go.RowKit Go.Proofs.YtjnnglphdaemaaaW.PrintWords Go.Proofs.YtjnnglphdaemaaaW.PrintLast Go.Proofs.YtjnnglphdaemaaaW.PrintMore
attribute [local go_sem] max2_int min2_int max_two min_two max_three min_three max_four min_four   -- for this text's walks alone
set_option linter.unusedVariables false
set_option linter.unusedSimpArgs false
def impl_Head_80.f (k : Nat) (l0 : List (S28)) (a1_0 : Int) (a1_1 : ByteArray) : Option (Bool) := (impl_Head_115.f k l0 a1_0 a1_1).bind fun t602 => (some (decide (t602 ≥ 0)))
theorem impl_Head_80.mono : ∀ a0 a1 a2 k, LeO (impl_Head_80.f k a0 a1 a2) (impl_Head_80.f (k + 1) a0 a1 a2) := by
 intro a0 a1 a2 k
 unfold impl_Head_80.f
 repeat' (with_reducible first | exact LeO.refl _ | exact LeO.none _ | apply impl_Head_115.mono | apply LeO.ite | refine LeO.bind ?_ fun _ => ?_)
set_option maxHeartbeats 8000000 in
set_option maxRecDepth 100000 in
theorem impl_Head_80.calls (k : Nat) (A0 : Option Addr) (c0 : Nat) (l0 : List (S28)) (a1_0 : Int) (a1_1 : ByteArray) (r : Bool) (w : World) (hr0 : Kd.C k28 w A0 l0.length l0) (hc0 : l0.length ≤ c0) (h : impl_Head_80.f k l0 a1_0 a1_1 = some r) :
  Calls Try.prog 80 #[.slice A0 l0.length c0, .agg #[.int .i64 a1_0, .string a1_1]] w fun e w' => e = .returned (.bool r) ∧ Below w.heap.size w w' := by
 have hu28 := Try.underlying28
 have HR0 := Aside0.mk hr0
 have HC0 := Aside0.mk hc0
 clear hr0 hc0
 have HB := Aside0.mk (Below.refl w.heap.size w)
 have H : ((impl_Head_115.f k l0 a1_0 a1_1).bind fun t602 => (some (decide (t602 ≥ 0)))) = some r := h
 clear h
 replace H := bi_ H; obtain ⟨t602, A3, H⟩ := H
 obtain rfl := Option.some.inj H
 go_enter Try.func80, Try.ntmps80
 go_wp2_with (first | ((with_reducible refine gd_ 3 ?_); refine bx_ 3 28 #[.int .i64 a1_0, .string a1_1] ?_; intro gb601 hg w4 hbox hb; have BK601 := Aside0.mk hbox; have GW601 := gg_ hg HB; have GE601 := GW601; replace HB := ss_ HB hb; clear hb hbox hg; have hz5 := cz2_ BK601) | ((with_reducible refine gq_ 115 7 ?_); refine gc_ 7 Try.func115 (impl_Head_115.calls k _ _ l0 a1_0 a1_1 t602 _ (cb_ HR0 HB) HC0.out A3.out) ?_; rintro e w6 ⟨rfl, hb⟩; refine ⟨_, rfl, ?_⟩; replace BK601 := kl_ BK601 hb; replace HB := ss_ HB hb; clear hb))
 go_ret
 exact ⟨e2_, bw_ HB⟩
end Go.Proofs.Ytjnnglphdaemaaa.Q
end

section
-- Written by a program of this session (wip/tools/pp.sh) over the print of the kit.
namespace Go.Proofs.Ytjnnglphdaemaaa.Q
open Go.RowKit Go.Proofs.YtjnnglphdaemaaaW.PrintWords Go.Proofs.YtjnnglphdaemaaaW.PrintLast Go.Proofs.YtjnnglphdaemaaaW.PrintMore
attribute [local go_sem] max2_int min2_int max_two min_two max_three min_three max_four min_four   -- for this text's walks alone
set_option linter.unusedVariables false
set_option linter.unusedSimpArgs false
def impl_IsSigned.f (k : Nat) (l0 : List (S28)) (a1_0 : Int) (a1_1 : ByteArray) : Option (Bool) := (impl_Head_80.f k l0 a1_0 a1_1).bind fun t602 => (some t602)
theorem impl_IsSigned.mono : ∀ a0 a1 a2 k, LeO (impl_IsSigned.f k a0 a1 a2) (impl_IsSigned.f (k + 1) a0 a1 a2) := by
 intro a0 a1 a2 k
 unfold impl_IsSigned.f
 repeat' (with_reducible first | exact LeO.refl _ | exact LeO.none _ | apply impl_Head_80.mono | apply LeO.ite | refine LeO.bind ?_ fun _ => ?_)
set_option maxHeartbeats 8000000 in
set_option maxRecDepth 100000 in
theorem impl_IsSigned.calls (k : Nat) (A0 : Option Addr) (c0 : Nat) (l0 : List (S28)) (a1_0 : Int) (a1_1 : ByteArray) (r : Bool) (w : World) (hr0 : Kd.C k28 w A0 l0.length l0) (hc0 : l0.length ≤ c0) (h : impl_IsSigned.f k l0 a1_0 a1_1 = some r) :
  Calls Try.prog 22 #[.slice A0 l0.length c0, .agg #[.int .i64 a1_0, .string a1_1]] w fun e w' => e = .returned (.bool r) ∧ Below w.heap.size w w' := by
 have hu28 := Try.underlying28
 have HR0 := Aside0.mk hr0
 have HC0 := Aside0.mk hc0
 clear hr0 hc0
 have HB := Aside0.mk (Below.refl w.heap.size w)
 have H : ((impl_Head_80.f k l0 a1_0 a1_1).bind fun t602 => (some t602)) = some r := h
 clear h
 replace H := bi_ H; obtain ⟨t602, A3, H⟩ := H
 obtain rfl := Option.some.inj H
 go_enter Try.func22, Try.ntmps22
 go_wp2_with (first | ((with_reducible refine gd_ 3 ?_); refine bx_ 3 28 #[.int .i64 a1_0, .string a1_1] ?_; intro gb601 hg w4 hbox hb; have BK601 := Aside0.mk hbox; have GW601 := gg_ hg HB; have GE601 := GW601; replace HB := ss_ HB hb; clear hb hbox hg; have hz5 := cz2_ BK601) | ((with_reducible refine gq_ 80 7 ?_); refine gc_ 7 Try.func80 (impl_Head_80.calls k _ _ l0 a1_0 a1_1 t602 _ (cb_ HR0 HB) HC0.out A3.out) ?_; rintro e w6 ⟨rfl, hb⟩; refine ⟨_, rfl, ?_⟩; replace BK601 := kl_ BK601 hb; replace HB := ss_ HB hb; clear hb))
 go_ret
 exact ⟨e2_, bw_ HB⟩
end Go.Proofs.Ytjnnglphdaemaaa.Q
end

section
/- IsSigned, the program's and the reference's: whether a list of heads has one of this size and root. -/
namespace Go.Proofs.Ytjnnglphdaemaaa.Q
open Go.RowKit Go.Proofs.Ytjnnglphdaemaaa.B Go.Proofs.YtjnnglphdaemaaaW.PrintWords

def hasHead (l : List IHead) (a : Int) (b : ByteArray) : Bool := l.any fun x => x.f0 == a && (x.f1.toList == b.toList)

theorem rdI {l : List IHead} {i : Nat} {x : IHead} (h : l[i]? = some x) : rd_T28 l (i : Int) = x := by
  unfold rd_T28
  simp [List.getD_eq_getElem?_getD, h]
theorem next64 {i n : Nat} (h : i < n) (hn : n ≤ 9223372036854775807) : wrap64 ((i : Int) + 1) = ((i + 1 : Nat) : Int) := by
  rw [w64 (by omega) (by omega)]
  omega

theorem spec_IsSigned_ev (l : List IHead) (a : Int) (b : ByteArray) (hl : l.length ≤ 9223372036854775807) : Ev (fun k => spec_IsSigned.f k l a b) (hasHead l a b) := by
  have main : ∀ (d i : Nat), i + d = l.length → Ev (fun k => spec_IsSigned.l0 k l (i : Int) a b) (hasHead (l.drop i) a b) := by
    intro d
    induction d with
    | zero =>
      intro i hi
      refine Ev.step (f := fun _ => some false) (fun k => ?_) (Ev.one (Ev.now _) ?_)
      · simp only [spec_IsSigned.l0]
        rw [if_neg (by omega)]
      · rw [List.drop_of_length_le (by omega)]
        rfl
    | succ d ih =>
      intro i hi
      obtain ⟨x, hx⟩ := get_some (l := l) (i := i) (by omega)
      by_cases h : (x.f0 == a && (x.f1.toList == b.toList)) = true
      · refine Ev.step (f := fun _ => some true) (fun k => ?_) (Ev.one (Ev.now _) ?_)
        · simp only [spec_IsSigned.l0]
          rw [if_pos (by omega), if_pos (by omega), rdI hx, if_pos h]
        · rw [drop_one hx]
          simp only [hasHead, List.any_cons, h, Bool.true_or]
      · refine Ev.step (fun k => ?_) (Ev.one (ih (i + 1) (by omega)) ?_)
        · simp only [spec_IsSigned.l0]
          rw [if_pos (by omega), if_pos (by omega), rdI hx, if_neg h, next64 (show i < l.length by omega) hl]
        · rw [drop_one hx]
          simp only [hasHead, List.any_cons, Bool.eq_false_iff.mpr h, Bool.false_or]
  exact main l.length 0 (by omega)

theorem impl_Index_ev (l : List IHead) (a : Int) (b : ByteArray) (hl : l.length ≤ 9223372036854775807) : ∃ r, Ev (fun k => impl_Head_115.f k l a b) r ∧ decide (r ≥ 0) = hasHead l a b := by
  have main : ∀ (d i : Nat), i + d = l.length → ∃ r, Ev (fun k => impl_Head_115.l0 k l (l.length : Int) (i : Int) a b) r ∧ decide (r ≥ 0) = hasHead (l.drop i) a b := by
    intro d
    induction d with
    | zero =>
      intro i hi
      refine ⟨-1, Ev.step (f := fun _ => some (-1)) (fun k => ?_) (Ev.now _), ?_⟩
      · simp only [impl_Head_115.l0]
        rw [if_neg (by omega)]
      · rw [List.drop_of_length_le (by omega)]
        rfl
    | succ d ih =>
      intro i hi
      obtain ⟨x, hx⟩ := get_some (l := l) (i := i) (by omega)
      have hsym : (a == x.f0 && (b.toList == x.f1.toList)) = (x.f0 == a && (x.f1.toList == b.toList)) := by
        rw [Bool.beq_comm (a := a), Bool.beq_comm (a := b.toList)]
      by_cases h : (x.f0 == a && (x.f1.toList == b.toList)) = true
      · refine ⟨(i : Int), Ev.step (f := fun _ => some (i : Int)) (fun k => ?_) (Ev.now _), ?_⟩
        · simp only [impl_Head_115.l0]
          rw [if_pos (by omega), if_pos (by omega), if_pos (by omega), rdI hx, hsym, if_pos h]
        · rw [drop_one hx]
          simp only [hasHead, List.any_cons, h, Bool.true_or]
          exact decide_eq_true (by omega)
      · obtain ⟨r, h1, h2⟩ := ih (i + 1) (by omega)
        refine ⟨r, Ev.step (fun k => ?_) h1, ?_⟩
        · simp only [impl_Head_115.l0]
          rw [if_pos (by omega), if_pos (by omega), if_pos (by omega), rdI hx, hsym, if_neg h, next64 (show i < l.length by omega) hl]
        · rw [h2, drop_one hx]
          simp only [hasHead, List.any_cons, Bool.eq_false_iff.mpr h, Bool.false_or]
  obtain ⟨r, h1, h2⟩ := main l.length 0 (by omega)
  exact ⟨r, h1, h2⟩

theorem impl_IsSigned_ev (l : List IHead) (a : Int) (b : ByteArray) (hl : l.length ≤ 9223372036854775807) : Ev (fun k => impl_IsSigned.f k l a b) (hasHead l a b) := by
  obtain ⟨r, h1, h2⟩ := impl_Index_ev l a b hl
  refine Ev.congr (fun k => by unfold impl_IsSigned.f impl_Head_80.f; rfl) ?_
  refine Ev.bind (Ev.bind h1 (Ev.now _)) ?_
  rw [h2]
  exact Ev.now _
end Go.Proofs.Ytjnnglphdaemaaa.Q
end

section
/- slices.Grow of no texts by at least one: new room (bounds: what append takes). Its capacity's bound tells that there is no row. -/
namespace Go.Proofs.Ytjnnglphdaemaaa.Q
open Go.RowKit Go.Proofs.YtjnnglphdaemaaaW.PrintWords Go.Proofs.YtjnnglphdaemaaaW.PrintLast Go.Proofs.YtjnnglphdaemaaaW.PrintMore
set_option linter.unusedVariables false
set_option linter.unusedSimpArgs false

def slices_Grow_string_string.f (l0 : List ByteArray) (a1 : Int) : Option (List ByteArray) := if l0.length = 0 ∧ 1 ≤ a1 ∧ a1 ≤ 1000000000 then some [] else none
theorem slices_Grow_string_string.info : (Try.prog.info? 9).map (fun i => (i.zero, i.size, i.bytes)) = some (some (.string ⟨#[]⟩), 1, 16) := by kernel_rfl
def rowOf : Option Addr → Nat
  | none => 0
  | some _ => 1
set_option maxHeartbeats 1000000 in
set_option maxRecDepth 100000 in
theorem slices_Grow_string_string.calls (A0 : Option Addr) (c0 : Nat) (l0 : List ByteArray) (a1 : Int) (r : List ByteArray) (w : World) (hr0 : Kd.C Kd.string w A0 l0.length l0) (hc0 : rowOf A0 + c0 ≤ 0) (h : slices_Grow_string_string.f l0 a1 = some r) :
    Calls Try.prog 127 #[.slice A0 l0.length c0, .int .i64 a1] w fun e w' => ∃ v0_ : Value, e = .returned (v0_) ∧ Kd.R Kd.string 9 w' w.heap.size (fun _ => True) v0_ r ∧ Below w.heap.size w w' := by
  unfold slices_Grow_string_string.f at h
  by_cases hl : l0.length = 0 ∧ 1 ≤ a1 ∧ a1 ≤ 1000000000
  · rw [if_pos hl] at h
    obtain rfl := Option.some.inj h
    obtain ⟨h0, h1, h2⟩ := hl
    have hA : A0 = none := by
      cases A0 with
      | none => rfl
      | some x => simp [rowOf] at hc0
    subst hA
    have hc : c0 = 0 := by
      simp only [rowOf] at hc0
      omega
    subst hc
    obtain rfl := List.eq_nil_of_length_eq_zero h0
    clear hr0 hc0 h h0
    have LM := Aside0.mk h2
    have L1 := Aside0.mk h1
    have c1 : decide (a1 < 0) = false := decide_eq_false (by omega)
    have hw : wrap64 (a1 - 0) = a1 := by
      rw [Int.sub_zero]
      unfold wrap64
      omega
    have hw2 : wrap64 a1 = a1 := by
      unfold wrap64
      omega
    have c2 : decide (0 < a1) = true := decide_eq_true (by omega)
    clear h1 h2
    have KEY := Aside0.mk (fun (o : Oper) (a : Act) (ops : Array Oper) (rest : List Oper) (Q : Exit → Act → World → Prop) (ho : o.op = .call { callee := .builtin .append, args := #[.tmp 20, .tmp 21], argTypes := #[24, 3] }) (hg : o.guard = none) (hx1 : a.eval (.tmp 20) = .slice none 0 0) (hx2 : a.eval (.tmp 21) = .int .i64 a1) => Kd.R_append_zeros (P := Try.prog) (o := o) (a := a) (ops := ops) (rest := rest) (Q := Q) Kd.string (w0 := w) w.heap.size hg (.tmp 20) (.tmp 21) 24 3 9 (.string ⟨#[]⟩) 16 ho Try.underlying24 Try.underlying3 slices_Grow_string_string.info rfl (by decide) (by omega) (.slice none 0 0) [] ByteArray.empty a1 (fun _ => True) hx1 hx2 rfl (fun _ _ => trivial) (Kd.R_nil _ _ _ _ _) (by have := L1.out; omega) (Below.refl _ _) (Nat.le_refl _) (by have := LM.out; simp only [List.length_nil]; omega))
    go_enter Try.func127, Try.ntmps127
    go_wp2_with (at_builtin; refine KEY.out _ _ _ _ _ rfl rfl ?aS ?aX ?_; (case aS => first | rfl | (go_simp; done) | (go_simp; rfl)); (case aX => first | rfl | (simp [hw2, hw]; done) | (go_simp; done) | (go_simp; rfl)); intro v1 w1 ho hb hg hat; obtain ⟨A1, k1, e1⟩ := Kd.R_slice ho; subst e1; have HO := Aside0.mk ho; have HB := Aside0.mk hb; clear ho hb hg hat)
    go_ret
    exact ⟨_, e2_, Kd.R_take (m := 0) HO.out (Nat.zero_le _), HB.out⟩
  · rw [if_neg hl] at h
    cases h
end Go.Proofs.Ytjnnglphdaemaaa.Q
end

section
-- Written by a program of this session (wip/tools/pp.sh) over the print of the kit.
namespace Go.Proofs.Ytjnnglphdaemaaa.Q
open Go.RowKit Go.Proofs.YtjnnglphdaemaaaW.PrintWords Go.Proofs.YtjnnglphdaemaaaW.PrintLast Go.Proofs.YtjnnglphdaemaaaW.PrintMore
attribute [local go_sem] max2_int min2_int max_two min_two max_three min_three max_four min_four   -- for this text's walks alone
set_option linter.unusedVariables false
set_option linter.unusedSimpArgs false
mutual
def slices_Concat_string_string.l0 : Nat → List (List ByteArray) → Int → List (List ByteArray) → Int → Int → Option (List ByteArray)
 | 0, _, _, _, _, _ => none
 | k + 1, x0, x3, x9, x10, x11 => if x11 < x10 then (if 0 ≤ x11 then (if x11 < (x9.length : Int) then (if (wrap64 (x3 + ((rd_L4 x9 x11).length : Int))) < 0 then (none) else (slices_Concat_string_string.l0 k x0 (wrap64 (x3 + ((rd_L4 x9 x11).length : Int))) x9 x10 (wrap64 (x11 + 1)))) else (none)) else (none)) else ((slices_Grow_string_string.f ([] : List ByteArray) x3).bind fun t602 => (slices_Concat_string_string.l1 k t602 x0 (x0.length : Int) 0))
def slices_Concat_string_string.l1 : Nat → List ByteArray → List (List ByteArray) → Int → Int → Option (List ByteArray)
 | 0, _, _, _, _ => none
 | k + 1, x6, x25, x26, x27 => if x27 < x26 then (if 0 ≤ x27 then (if x27 < (x25.length : Int) then (if x6.length + (rd_L4 x25 x27).length < 8796093022208 then (slices_Concat_string_string.l1 k (x6 ++ (rd_L4 x25 x27)) x25 x26 (wrap64 (x27 + 1))) else (none)) else (none)) else (none)) else (some x6)
end
def slices_Concat_string_string.f (k : Nat) (l0 : List (List ByteArray)) : Option (List ByteArray) := slices_Concat_string_string.l0 k l0 0 l0 (l0.length : Int) 0
theorem slices_Concat_string_string.mono_l : ∀ k, (∀ y0 y1 y2 y3 y4, LeO (slices_Concat_string_string.l0 k y0 y1 y2 y3 y4) (slices_Concat_string_string.l0 (k + 1) y0 y1 y2 y3 y4)) ∧ (∀ y0 y1 y2 y3, LeO (slices_Concat_string_string.l1 k y0 y1 y2 y3) (slices_Concat_string_string.l1 (k + 1) y0 y1 y2 y3))
 | 0 => ⟨fun _ _ _ _ _ r h => by simp [slices_Concat_string_string.l0] at h, fun _ _ _ _ r h => by simp [slices_Concat_string_string.l1] at h⟩
 | k + 1 => by
  obtain ⟨ih0, ih1⟩ := slices_Concat_string_string.mono_l k
  refine ⟨?_, ?_⟩
  ·intro y0 y1 y2 y3 y4
   unfold slices_Concat_string_string.l0
   repeat' (with_reducible first | exact LeO.refl _ | exact LeO.none _ | apply ih0 | apply ih1 | apply LeO.ite | refine LeO.bind ?_ fun _ => ?_)
  ·intro y0 y1 y2 y3
   unfold slices_Concat_string_string.l1
   repeat' (with_reducible first | exact LeO.refl _ | exact LeO.none _ | apply ih0 | apply ih1 | apply LeO.ite | refine LeO.bind ?_ fun _ => ?_)
theorem slices_Concat_string_string.mono : ∀ a0 k, LeO (slices_Concat_string_string.f k a0) (slices_Concat_string_string.f (k + 1) a0) := by
 intro a0 k
 obtain ⟨ih0, ih1⟩ := slices_Concat_string_string.mono_l k
 unfold slices_Concat_string_string.f
 repeat' (with_reducible first | exact LeO.refl _ | exact LeO.none _ | apply ih0 | apply ih1 | apply LeO.ite | refine LeO.bind ?_ fun _ => ?_)
set_option maxHeartbeats 8000000 in
set_option maxRecDepth 100000 in
theorem slices_Concat_string_string.calls (k : Nat) (A0 : Option Addr) (c0 : Nat) (l0 : List (List ByteArray)) (r : List ByteArray) (w : World) (hr0 : Kd.C (Kd.slice 9 Kd.string) w A0 l0.length l0) (hc0 : l0.length ≤ c0) (h : slices_Concat_string_string.f k l0 = some r) :
  Calls Try.prog 106 #[.slice A0 l0.length c0] w fun e w' => ∃ v0_ : Value, e = .returned (v0_) ∧ Kd.R Kd.string 9 w' w.heap.size (fun _ => True) v0_ r ∧ Below w.heap.size w w' := by
 have HR0 := Aside0.mk hr0
 have HC0 := Aside0.mk hc0
 clear hr0 hc0
 have HB := Aside0.mk (Below.refl w.heap.size w)
 have H : (slices_Concat_string_string.l0 k l0 0 l0 (l0.length : Int) 0) = some r := h
 clear h
 have H' := Aside0.mk H
 clear H
 go_enter Try.func106, Try.ntmps106
 go_wp2
 go_loopg [3, 11] k (fun kq v3 v11 w' => ∃ (x3_1 : Int) (x11_1 : Int), v3 = .int .i64 x3_1 ∧ v11 = .int .i64 x11_1 ∧ Aside0 (slices_Concat_string_string.l0 kq l0 x3_1 l0 (l0.length : Int) x11_1 = some r) ∧ Aside0 (kq ≤ k) ∧ Aside0 (Below w.heap.size w w'))
 case atStart => exact ⟨(0), (0), e1_, e1_, H', ⟨Nat.le_refl _⟩, ⟨bw_ HB⟩⟩
 case round =>
  clear H'
  obtain ⟨x3_1, x11_1, rfl, rfl, HA, HK1, HB⟩ := hrel
  cases gk with
  | zero => exact absurd HA.out (by simp [slices_Concat_string_string.l0])
  | succ k1 =>
   have H := HA.out
   clear HA
   simp only [slices_Concat_string_string.l0] at H
   replace H := itd_ H; obtain ⟨c2b0, H⟩ | ⟨c2b0, H⟩ := H
   ·replace H := ipd_ H; obtain ⟨c3b0, H⟩ := H
    replace H := ipd_ H; obtain ⟨c4b0, H⟩ := H
    replace H := ind_ H; obtain ⟨c5b0, H⟩ := H
    have H' := Aside0.mk H
    clear H
    have p601 : 0 ≤ (x11_1 : Int) := of_decide_eq_true as_
    have q601 : x11_1 < (l0.length : Int) := of_decide_eq_true as_
    obtain ⟨ad601, A601_0, c601_0, e601, hx601_0, hl601_0, hi601_0⟩ := at_L4 HR0.out x11_1 p601 q601
    cases e601
    replace hx601_0 := (HB.out.cell (World.block_lt_of_cell? w _ hx601_0)).trans hx601_0
    have HR601_0 := Aside0.mk hi601_0
    have HC601_0 := Aside0.mk hl601_0
    clear hi601_0 hl601_0
    replace p601 := eq_true p601
    replace q601 := eq_true q601
    go_wp2
    go_roundg k1
    case measure => have := HK1.out; omega
    case rel => exact ⟨(wrap64 (x3_1 + ((rd_L4 l0 x11_1).length : Int))), (wrap64 (x11_1 + 1)), e1_, e1_, H', ⟨by have := HK1.out; omega⟩, ⟨bw_ HB⟩⟩
   ·replace H := bi_ H; obtain ⟨t602, A6, H⟩ := H
    have H' := Aside0.mk H
    clear H
    go_wp2_with (first | ((with_reducible refine gk_ 127 ?_); refine gl_ 24 Try.func127 #[.slice none 0 0, .int .i64 x3_1] ?_; (refine (slices_Grow_string_string.calls _ _ ([] : List ByteArray) x3_1 t602 _ ?side1 ?side2 A6.out).mono ?_); (case side1 => exact Kd.C_nil _ _); (case side2 => exact Nat.le_refl _); rintro e w7 ⟨v603, rfl, ho0, hb⟩; refine ⟨_, rfl, ?_⟩; have HO604 := Aside0.mk (Kd.R_lower ho0 (sz_ HB)); replace HB := ss_ HB hb; clear hb ho0))
    go_loopg [6, 27] k1 (fun kq v6 v27 w' => ∃ (x6_2 : List ByteArray) (x27_2 : Int), v27 = .int .i64 x27_2 ∧ Aside0 (slices_Concat_string_string.l1 kq x6_2 l0 (l0.length : Int) x27_2 = some r) ∧ Aside0 (kq ≤ k1) ∧ Aside0 (Kd.R Kd.string 9 w' w.heap.size (fun _ => True) v6 x6_2) ∧ Aside0 (Below w.heap.size w w'))
    case atStart => exact ⟨(t602), (0), e1_, H', ⟨Nat.le_refl _⟩, ⟨kr_ HO604.out⟩, ⟨bw_ HB⟩⟩
    case round =>
     clear H'
     try clear c1
     try clear c2b0
     obtain ⟨x6_2, x27_2, rfl, HA, HK2, HO_6, HB⟩ := hrel
     cases gk with
     | zero => exact absurd HA.out (by simp [slices_Concat_string_string.l1])
     | succ k2 =>
      have H := HA.out
      clear HA
      simp only [slices_Concat_string_string.l1] at H
      replace H := itd_ H; obtain ⟨c8b0, H⟩ | ⟨c8b0, H⟩ := H
      ·replace H := ipd_ H; obtain ⟨c9b0, H⟩ := H
       replace H := ipd_ H; obtain ⟨c10b0, H⟩ := H
       replace H := ip_ H; obtain ⟨c11, H⟩ := H
       have LMc11 := Aside0.mk c11
       clear c11
       obtain ⟨y606, hy606⟩ : ∃ y_ : List ByteArray, y_ = (x6_2 ++ (rd_L4 l0 x27_2)) := ⟨_, rfl⟩
       replace H : (slices_Concat_string_string.l1 k2 y606 l0 (l0.length : Int) (wrap64 (x27_2 + 1))) = some r := yh_ hy606 H
       have Ny606 := Aside0.mk hy606
       clear hy606
       have H' := Aside0.mk H
       clear H
       have p605 : 0 ≤ (x27_2 : Int) := of_decide_eq_true as_
       have q605 : x27_2 < (l0.length : Int) := of_decide_eq_true as_
       obtain ⟨ad605, A605_0, c605_0, e605, hx605_0, hl605_0, hi605_0⟩ := at_L4 HR0.out x27_2 p605 q605
       cases e605
       replace hx605_0 := (HB.out.cell (World.block_lt_of_cell? w _ hx605_0)).trans hx605_0
       have HR605_0 := Aside0.mk hi605_0
       have HC605_0 := Aside0.mk hl605_0
       clear hi605_0 hl605_0
       replace p605 := eq_true p605
       replace q605 := eq_true q605
       go_wp2_with (first | ((with_reducible refine gate_builtin (b := .append) (xs := #[.tmp 31, .tmp 32]) rfl ?_); at_builtin; refine Kd.R_append_rows Kd.string (w0 := w) w.heap.size rfl (.tmp 31) (.tmp 32) 24 9 (.string ⟨#[]⟩) 16 rfl Try.underlying24 info9 rfl (by decide) (by omega) u6 x6_2 (rd_L4 l0 x27_2) _ _ _ (fun _ => True) (fun _ => False) rfl rfl ?aO ?aR (fun _ _ h => h) (fun _ h => h.elim) ?aF ?aB ?aS ?aL ?_; (case aR => exact cb_ HR605_0 HB); (case aB => exact (bw_ HB)); (case aF => exact (fun _ _ => trivial)); (case aO => exact (kr_ HO_6.out)); (case aS => exact (sz_ HB)); (case aL => have := LMc11.out; omega); intro v607 w12 ho hb hg hat; rw [← Ny606.out] at ho; replace HB := Aside0.mk hb; have HO608 := Aside0.mk ho; clear HO_6; clear ho hb hg hat))
       go_roundg k2
       case measure => have := HK1.out; have := HK2.out; omega
       case rel => exact ⟨(y606), (wrap64 (x27_2 + 1)), e1_, H', ⟨by have := HK1.out; have := HK2.out; omega⟩, ⟨kr_ HO608.out⟩, ⟨bw_ HB⟩⟩
      ·obtain rfl := Option.some.inj H
       go_wp2
       go_ret
       exact ⟨_, e2_, kr_ HO_6.out, bw_ HB⟩
end Go.Proofs.Ytjnnglphdaemaaa.Q
end

section
/- slices.Concat of two lists of texts: the one behind the other. -/
namespace Go.Proofs.Ytjnnglphdaemaaa.Q
open Go.RowKit Go.Proofs.Ytjnnglphdaemaaa.B Go.Proofs.YtjnnglphdaemaaaW.PrintWords
theorem one64 : wrap64 (0 + 1) = 1 := by rw [w64 (by omega) (by omega)]; rfl
theorem two64 : wrap64 (1 + 1) = 2 := by rw [w64 (by omega) (by omega)]; rfl
theorem concat_l1 (a b : List ByteArray) (h : a.length + b.length ≤ 1000000000) : Ev (fun k => slices_Concat_string_string.l1 k [] [a, b] 2 0) (a ++ b) := by
  have ea : rd_L4 [a, b] 0 = a := rfl
  have eb : rd_L4 [a, b] 1 = b := rfl
  refine Ev.step (fun k => by simp only [slices_Concat_string_string.l1]; rfl) ?_
  rw [ea, one64]
  refine Ev.pos (by omega) (Ev.pos (by omega) (Ev.pos (by simp) (Ev.pos (by simp; omega) ?_)))
  refine Ev.step (fun k => by simp only [slices_Concat_string_string.l1]; rfl) ?_
  rw [eb, two64]
  refine Ev.pos (by omega) (Ev.pos (by omega) (Ev.pos (by simp) (Ev.pos (by simp; omega) ?_)))
  refine Ev.step (fun k => by simp only [slices_Concat_string_string.l1]; rfl) ?_
  exact Ev.neg (by omega) (Ev.one (Ev.now _) rfl)
theorem concat_ev (a b : List ByteArray) (h : a.length + b.length ≤ 1000000000) (h1 : 1 ≤ a.length + b.length) : Ev (fun k => slices_Concat_string_string.f k [a, b]) (a ++ b) := by
  have ea : rd_L4 [a, b] 0 = a := rfl
  have eb : rd_L4 [a, b] 1 = b := rfl
  have e2 : (([a, b] : List (List ByteArray)).length : Int) = 2 := rfl
  have hg : slices_Grow_string_string.f [] ((a.length : Int) + (b.length : Int)) = some [] := by
    unfold slices_Grow_string_string.f
    rw [if_pos ⟨rfl, by omega, by omega⟩]
  unfold slices_Concat_string_string.f
  refine Ev.step (fun k => by simp only [slices_Concat_string_string.l0]; rfl) ?_
  rw [ea, e2, w64 (x := 0 + (a.length : Int)) (by omega) (by omega), one64, Int.zero_add]
  refine Ev.pos (by omega) (Ev.pos (by omega) (Ev.pos (by omega) (Ev.neg (by omega) ?_)))
  refine Ev.step (fun k => by simp only [slices_Concat_string_string.l0]; rfl) ?_
  rw [eb, e2, w64 (x := (a.length : Int) + (b.length : Int)) (by omega) (by omega), two64]
  refine Ev.pos (by omega) (Ev.pos (by omega) (Ev.pos (by omega) (Ev.neg (by omega) ?_)))
  refine Ev.step (fun k => by simp only [slices_Concat_string_string.l0]; rfl) ?_
  rw [e2]
  exact Ev.neg (by omega) (Ev.bind (Ev.const hg) (concat_l1 a b h))
end Go.Proofs.Ytjnnglphdaemaaa.Q
end

section
/- slices.Clone of texts: the same list in new memory (bounds: what append takes). -/
namespace Go.Proofs.Ytjnnglphdaemaaa.Q
open Go.RowKit Go.Proofs.YtjnnglphdaemaaaW.PrintWords Go.Proofs.YtjnnglphdaemaaaW.PrintLast Go.Proofs.YtjnnglphdaemaaaW.PrintMore
set_option linter.unusedVariables false
set_option linter.unusedSimpArgs false

def slices_Clone_string_string.f (l0 : List ByteArray) : Option (List ByteArray) := if l0.length ≤ 8796093022208 then some l0 else none
theorem slices_Clone_string_string.info : (Try.prog.info? 9).map (fun i => (i.zero, i.size, i.bytes)) = some (some (.string ⟨#[]⟩), 1, 16) := by kernel_rfl
set_option maxHeartbeats 1000000 in
set_option maxRecDepth 100000 in
theorem slices_Clone_string_string.calls (A0 : Option Addr) (c0 : Nat) (l0 : List ByteArray) (r : List ByteArray) (w : World) (hr0 : Kd.C Kd.string w A0 l0.length l0) (hc0 : l0.length ≤ c0) (h : slices_Clone_string_string.f l0 = some r) :
    Calls Try.prog 105 #[.slice A0 l0.length c0] w fun e w' => ∃ v0_ : Value, e = .returned (v0_) ∧ Kd.R Kd.string 9 w' w.heap.size (fun _ => True) v0_ r ∧ Below w.heap.size w w' := by
  unfold slices_Clone_string_string.f at h
  by_cases hl : l0.length ≤ 8796093022208
  · rw [if_pos hl] at h
    obtain rfl := Option.some.inj h
    have LM := Aside0.mk hl
    have HR0 := Aside0.mk hr0
    have HC0 := Aside0.mk hc0
    have hn := fun W : World => Lib.run_eql_slice_nil (P := Try.prog) W 24 9 A0 l0.length c0 0 0 Try.underlying24
    clear hl h hc0
    cases A0 with
    | none =>
      have h0 : l0 = [] := by
        rcases Nat.eq_zero_or_pos l0.length with hz | hz
        · exact List.eq_nil_of_length_eq_zero hz
        · obtain ⟨ad, he, _⟩ := hr0.2.2 hz
          cases he
      subst h0
      clear hr0 hn
      have hn2 := fun W : World => Lib.run_eql_slice_nil (P := Try.prog) W 24 9 none 0 c0 0 0 Try.underlying24
      go_enter Try.func105, Try.ntmps105
      go_wp2
      go_ret
      exact ⟨_, rfl, Kd.R_nil _ _ _ _ _, Below.refl _ _⟩
    | some ad =>
      clear hr0
      go_enter Try.func105, Try.ntmps105
      go_wp2_with (first | ((with_reducible refine gate_dst (N := 5) rfl ?_); refine Kd.R_lit Kd.string _ 9 ?hg (N := 5) ?hd (w0 := w) (xs := ([] : List ByteArray)) (inner := []) (ok := fun _ => True) (okp := fun _ => True) ?hr ?hp (fun _ hk => hk) trivial (Below.refl _ _) (Nat.le_refl _) (by simp) ?_; (case hd => rfl); (case hg => rfl); (case hr => first | (go_simp; done) | (go_simp; rfl)); (case hp => exact (Reps.none _ _)); intro v1 w4 ho5 hb hg_ hnew_; clear hg_ hnew_; have HO := Aside0.mk ho5; have HB := Aside0.mk hb; clear ho5 hb) | ((with_reducible refine gate_builtin (b := .append) (xs := #[.tmp 5, .tmp 6]) rfl ?_); at_builtin; refine Kd.R_append_rows Kd.string (w0 := w) w.heap.size rfl (.tmp 5) (.tmp 6) 24 9 (.string ⟨#[]⟩) 16 rfl Try.underlying24 slices_Clone_string_string.info rfl (by decide) (by omega) v1 [] l0 _ _ _ (fun _ => True) (fun _ => False) rfl rfl ?aO ?aR (fun _ _ h => h) (fun _ h => h.elim) ?aF ?aB ?aS ?aL ?_; (case aR => exact Kd.C_below HR0.out HB.out); (case aB => exact HB.out); (case aF => exact (fun _ _ => trivial)); (case aO => exact HO.out); (case aS => exact HB.out.size); (case aL => have := LM.out; simp only [List.length_nil]; omega); intro v2 w6 ho hb hg hat; have HO2 := Aside0.mk ho; have HB2 := Aside0.mk hb; clear ho hb hg hat))
      go_ret
      exact ⟨_, rfl, by simpa using HO2.out, HB2.out⟩
  · rw [if_neg hl] at h
    cases h
end Go.Proofs.Ytjnnglphdaemaaa.Q
end
