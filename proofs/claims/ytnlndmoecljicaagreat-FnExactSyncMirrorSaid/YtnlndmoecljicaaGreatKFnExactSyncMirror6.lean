-- Joined and shortened by a program of this session (wip/tools/shakecopy.py): the words of the print, texts of pp.sh and of mine.
import Derived.Test.YtnlndmoecljicaaGreatKFnExactSyncMirror5
section
namespace Go.Proofs.YtnlndmoecljicaaGreat.Q
open Go.RowKit Go.Proofs.YtnlndmoecljicaaGreatW.PrintWords Go.Proofs.YtnlndmoecljicaaGreatW.PrintLast Go.Proofs.YtnlndmoecljicaaGreatW.PrintMore
attribute [local go_sem] max2_int min2_int max_two min_two max_three min_three max_four min_four   -- for this text's walks alone
set_option linter.unusedVariables false
set_option linter.unusedSimpArgs false
def impl_GetCommit.j0 : Nat → List Int → Int → Int → Int → Bool → Option (Int × ByteArray × List ByteArray × Int × Bool)
 | 0, _, _, _, _, _ => none
 | k + 1, x0, x1, x8, x9, x32 => if x32 = true then (some (0, (⟨#[]⟩ : ByteArray), ([] : List ByteArray), x1, false)) else (if 0 ≤ x9 then (if x9 ≤ (wrap64 (x9 + x8)) then (if (wrap64 (x9 + x8)) ≤ (x0.length : Int) then ((impl_getter_num.f k ((x0.take ((wrap64 (x9 + x8)) : Int).toNat).drop (x9 : Int).toNat) 0 false).bind fun bt607 => ((impl_getter_text.f k ((x0.take ((wrap64 (x9 + x8)) : Int).toNat).drop (x9 : Int).toNat) bt607.2.1 bt607.2.2).bind fun bt611 => ((impl_getter_texts.f k ((x0.take ((wrap64 (x9 + x8)) : Int).toNat).drop (x9 : Int).toNat) bt611.2.1 bt611.2.2).bind fun bt614 => (if bt614.2.2 = true then (some (0, (⟨#[]⟩ : ByteArray), ([] : List ByteArray), x1, false)) else ((impl_PutCommit.f k bt607.1 bt611.1 bt614.1).bind fun t619 => (if 0 ≤ x1 then (if x1 ≤ (wrap64 ((wrap64 (x9 + x8)) + 4)) then (if (wrap64 ((wrap64 (x9 + x8)) + 4)) ≤ (x0.length : Int) then ((bytes_Equal.f t619 ((x0.take ((wrap64 ((wrap64 (x9 + x8)) + 4)) : Int).toNat).drop (x1 : Int).toNat)).bind fun t623 => (if t623 = true then (some (bt607.1, bt611.1, bt614.1, wrap64 ((wrap64 (x9 + x8)) + 4), true)) else (some (0, (⟨#[]⟩ : ByteArray), ([] : List ByteArray), x1, false)))) else (none)) else (none)) else (none))))))) else (none)) else (none)) else (none))
def impl_GetCommit.f (k : Nat) (l0 : List Int) (a1 : Int) : Option (Int × ByteArray × List ByteArray × Int × Bool) := (impl_GetNum.f k l0 a1).bind fun bt602 => (if bt602.2.2 = true then (impl_GetCommit.j0 k l0 a1 bt602.1 bt602.2.1 (decide (bt602.1 > (wrap64 ((wrap64 ((l0.length : Int) - bt602.2.1)) - 4))))) else (impl_GetCommit.j0 k l0 a1 bt602.1 bt602.2.1 true))
def impl_GetCommit.T9 : Bool × List (List Nat × List Nat) := (true, [([], []), ([0], [0]), ([1], [1]), ([2], [2]), ([2], [2]), ([3, 4, 2, 2], [2, 3, 4]), ([2], [2]), ([2], [2]), ([2], [2]), ([6, 7, 8, 2], [2, 6, 7, 8]), ([5, 9, 5, 2], [2, 5, 9]), ([10, 2], [2, 10]), ([2, 11], [2, 11])])
def impl_GetCommit.B9 : List Nat := [0, 1, 3, 7, 7, 31, 7, 7, 7, 455, 1023, 2047, 4095]
theorem impl_GetCommit.tab9 : rtab .any (opsOf Tryz.f64 9) = impl_GetCommit.T9 := by kernel_rfl
theorem impl_GetCommit.bits9 : waitsOk impl_GetCommit.T9.2 impl_GetCommit.B9 = true := by kernel_rfl
set_option maxHeartbeats 8000000 in
set_option maxRecDepth 100000 in
theorem impl_GetCommit.calls (k : Nat) (A0 : Option Addr) (c0 : Nat) (l0 : List Int) (a1 : Int) (r1 : Int) (r2 : ByteArray) (r3 : List ByteArray) (r4 : Int) (r5 : Bool) (w : World) (hr0 : Kd.C (Kd.int .u8) w A0 l0.length l0) (hc0 : l0.length ≤ c0) (h : impl_GetCommit.f k l0 a1 = some (r1, r2, r3, r4, r5)) :
  Calls Tryz.prog 64 #[.slice A0 l0.length c0, .int .i64 a1] w fun e w' => ∃ v2_ : Value, e = .returned (.tuple #[.agg #[.int .i64 r1, .string r2], v2_, .int .i64 r4, .bool r5]) ∧ Kd.R Kd.string 9 w' w.heap.size (fun _ => True) v2_ r3 ∧ Below w.heap.size w w' := by
 have hu37 := Tryz.underlying37
 have hu116 := Tryz.underlying116
 have HR0 := Aside0.mk hr0
 have HC0 := Aside0.mk hc0
 clear hr0 hc0
 have HB := Aside0.mk (Below.refl w.heap.size w)
 have H : ((impl_GetNum.f k l0 a1).bind fun bt602 => (if bt602.2.2 = true then (impl_GetCommit.j0 k l0 a1 bt602.1 bt602.2.1 (decide (bt602.1 > (wrap64 ((wrap64 ((l0.length : Int) - bt602.2.1)) - 4))))) else (impl_GetCommit.j0 k l0 a1 bt602.1 bt602.2.1 true))) = some (r1, r2, r3, r4, r5) := h
 clear h
 replace H := bi_ H; obtain ⟨⟨t602, t603, t604⟩, A3, H⟩ := H
 dsimp only at H
 have HC4 := Aside0.mk H
 clear H
 go_enter Tryz.func64, Tryz.ntmps64
 go_upto_region 2 with (first | ((with_reducible refine gd_ 4 ?_); (try (refine gate_guard (by rfl) ?_; dsimp only)); refine bx_ 4 37 #[.int .i64 0, .string (⟨#[]⟩ : ByteArray)] ?_; intro gb601 hg w5 hbox hb; have BK601 := Aside0.mk hbox; have GW601 := gg_ hg HB; have GE601 := GW601; replace HB := ss_ HB hb; clear hb hbox hg) | ((with_reducible refine gq_ 97 18 ?_); refine gc_ 18 Tryz.func97 (impl_GetNum.calls k _ _ l0 a1 t602 t603 t604 _ (cb_ HR0 HB) HC0.out A3.out) ?_; rintro e w' ⟨rfl, ⟨nd, rfl⟩⟩; refine ⟨_, rfl, ?_⟩))
 (try simp only [Act.put, List.setIfInBounds_toArray, List.set_cons_zero, List.set_cons_succ])
 go_cut [32] (fun v32 wc => ∃ (kq : Nat) (x32_3 : Bool), v32 = .bool x32_3 ∧ Aside0 (impl_GetCommit.j0 kq l0 a1 t602 t603 x32_3 = some (r1, r2, r3, r4, r5)) ∧ Aside0 (kq ≤ k) ∧ Aside0 (wc.heap[gb601]? = some (.cells #[.int .i64 0, .string (⟨#[]⟩ : ByteArray)] 37 (0, 0))) ∧ Aside0 (Below w.heap.size w wc))
 case first =>
  have H := HC4.out
  clear HC4
  replace H := itb_ H; obtain ⟨rfl, H⟩ | ⟨rfl, H⟩ := H
  ·have H' := Aside0.mk H
   clear H
   go_wp2
   go_meet
   case rel => exact ⟨_, (decide (t602 > (wrap64 ((wrap64 ((l0.length : Int) - t603)) - 4)))), e1_, H', ⟨le_⟩, ⟨kb_ BK601.out⟩, ⟨bw_ HB⟩⟩
  ·have H' := Aside0.mk H
   clear H
   go_wp2
   go_meet
   case rel => exact ⟨_, (true), e1_, H', ⟨le_⟩, ⟨kb_ BK601.out⟩, ⟨bw_ HB⟩⟩
 case rest =>
  clear HC4
  obtain ⟨kq, x32_3, rfl, HA, HJ3, BK601, HB⟩ := hcut
  cases kq with
  | zero => exact absurd HA.out (by simp [impl_GetCommit.j0])
  | succ kj3 =>
   have H := HA.out
   clear HA
   simp only [impl_GetCommit.j0] at H
   replace H := itb_ H; obtain ⟨rfl, H⟩ | ⟨rfl, H⟩ := H
   ·replace H := so5_ H; obtain ⟨rfl, rfl, rfl, rfl, rfl⟩ := H
    have hz8 := cz2_ BK601
    go_wp2
    refine bodyPost_ret (results_list (rs := [.cell 4 37, .tmp 5, .tmp 6, .tmp 7]) rfl (by simp) (.cell gb601 37 #[.int .i64 0, .string (⟨#[]⟩ : ByteArray)] (0, 0) _ rfl (by exact kq_ BK601) Tryz.underlying37 rfl (by kernel_rfl) (.tmp (.tmp (.tmp .nil))))) rfl ?_
    exact ⟨_, e2_, by first | exact Kd.R_nil _ _ _ _ _ | exact Kd.N_nil _ _ _ _ _ | exact Kd.V_nil _ _ _ _ _ | exact Kd.Q_nil _ _ _ _ _ | exact Kd.S_nil _ _ _ _ _, bw_ HB⟩
   ·replace H := ip_ H; obtain ⟨c9, H⟩ := H
    have c9b0 := eq_true c9
    have c9b1 := decide_eq_true c9
    clear c9
    replace H := ip_ H; obtain ⟨c10, H⟩ := H
    have c10b0 := eq_true c10
    have c10b1 := decide_eq_true c10
    replace H := ip_ H; obtain ⟨c11, H⟩ := H
    have c11b0 := eq_true c11
    have c11b1 := decide_eq_true c11
    replace H := bi_ H; obtain ⟨⟨t607, t608, t609⟩, A12, H⟩ := H
    dsimp only at H
    replace H := bi_ H; obtain ⟨⟨t611, t612, t613⟩, A13, H⟩ := H
    dsimp only at H
    replace H := bi_ H; obtain ⟨⟨t614, t617, t618⟩, A14, H⟩ := H
    dsimp only at H
    replace H := itb_ H; obtain ⟨rfl, H⟩ | ⟨rfl, H⟩ := H
    ·replace H := so5_ H; obtain ⟨rfl, rfl, rfl, rfl, rfl⟩ := H
     obtain ⟨i016, hi016, _, hsz16, _⟩ := info_parts info5
     obtain ⟨A16, hcut16, hA16, hC16⟩ := print_mid_of (P := Tryz.prog) (Value.int .u8) 0 27 5 .i64 .i64 Tryz.underlying27 hi016 hsz16 A0 c0 l0 t603 (wrap64 (t603 + t602)) (of_decide_eq_true as_) (by first | omega | exact of_decide_eq_true as_) (of_decide_eq_true as_) HC0.out
     have HR605 := Aside0.mk (Kd.C_of_reads (h1 := fun _ => rfl) (hA16 _ (Kd.reads_of_C HR0.out)))
     have HC605 := Aside0.mk hC16
     clear hA16 hC16 hi016 hsz16
     try go_wp2_with (first | ((with_reducible refine gd_ 12 ?_); (try (refine gate_guard (by rfl) ?_; dsimp only)); refine bx_ 12 116 #[.slice none 0 0, .int .i64 0, .bool false] ?_; intro gb606 hg w17 hbox hb; have BK606 := Aside0.mk hbox; have GW606 := gg_ hg HB; have GE606 := GW606; replace HB := ss_ HB hb; have NB601_606 := nla_ hg BK601; have NB606_601 := nga_ hg BK601; replace BK601 := kl_ BK601 hb; clear hb hbox hg; have hnb18 := NB606_601.out; have hnc18 := NB601_606.out; have hz19 := cz3_ BK606) | ((with_reducible refine gk_ 98 ?_); refine gl_ 46 Tryz.func98 #[.pointer (some ⟨gb606, 0, none⟩)] ?_; refine IsS116.called (w0 := w) (g := gb606) (f0 := (l0.take ((wrap64 (t603 + t602)) : Int).toNat).drop (t603 : Int).toNat) (f1 := 0) (f2 := false) ⟨_, _, by (rw [show ((l0.take ((wrap64 (t603 + t602)) : Int).toNat).drop (t603 : Int).toNat).length = ((wrap64 (t603 + t602)).toNat - t603.toNat) from (by rw [List.length_drop, List.length_take]; have h_ : ((wrap64 (t603 + t602)) : Int) ≤ (l0.length : Int) := of_decide_eq_true as_; omega)]); refine kb_ ?_; refine blk_put (cs := #[.slice A16 ((wrap64 (t603 + t602)).toNat - t603.toNat) (c0 - t603.toNat), .int .i64 0, .bool false]) ?_ 2 _ rfl; refine kb_ ?_; refine blk_put (cs := #[.slice A16 ((wrap64 (t603 + t602)).toNat - t603.toNat) (c0 - t603.toNat), .int .i64 0, .bool false]) ?_ 1 _ rfl; refine kb_ ?_; refine blk_put (cs := #[.slice none 0 0, .int .i64 0, .bool false]) ?_ 0 _ rfl; refine kb_ ?_; exact BK606.out, GW606.out, HR605.out, HC605.out⟩ (fun HI606 => ?_); (with_reducible refine (impl_getter_num.calls kj3 gb606 ((l0.take ((wrap64 (t603 + t602)) : Int).toNat).drop (t603 : Int).toNat) 0 false t607 t608 t609 w _ ?side1 ?side2 A12.out).mono ?_); (case side1 => exact in116_ HI606); (case side2 => exact bi116_ HB); rintro e w20 ⟨rfl, hi, hb, hk⟩; refine ⟨_, rfl, ?_⟩; replace BK601 := Aside0.mk (KeepBut.blk hk (g' := gb601) (o := .cells #[.int .i64 0, .string (⟨#[]⟩ : ByteArray)] 37 (0, 0)) (kq_ BK601) NB601_606.out (by simp)); replace HB := Aside0.mk hb; replace HI606 := Aside0.mk hi; clear hb hk hi) | ((with_reducible refine gd_ 13 ?_); (try (refine gate_guard (by rfl) ?_; dsimp only)); refine bx_ 13 37 #[.int .i64 0, .string (⟨#[]⟩ : ByteArray)] ?_; intro gb610 hg w21 hbox hb; have BK610 := Aside0.mk hbox; have GW610 := Aside0.mk (gz_ hg (below_size (bs2_ HB (IsS116.ge HI606.out) GE601.out))); have GE610 := Aside0.mk (gz_ hg (below_size (bs2_ HB (IsS116.ge HI606.out) GE601.out))); replace HB := Aside0.mk (below_step (bs2_ HB (IsS116.ge HI606.out) GE601.out) hb); have NB601_610 := nla_ hg BK601; have NB610_601 := nga_ hg BK601; replace BK601 := kl_ BK601 hb; have NB606_610 := Aside0.mk ((by rw [hg]; exact Nat.ne_of_lt (IsS116.lt (show IsS116 w _ gb606 ((l0.take ((wrap64 (t603 + t602)) : Int).toNat).drop (t603 : Int).toNat) t608 t609 from in116_ HI606)) : gb606 ≠ gb610)); have NB610_606 := Aside0.mk ((by rw [hg]; exact Nat.ne_of_gt (IsS116.lt (show IsS116 w _ gb606 ((l0.take ((wrap64 (t603 + t602)) : Int).toNat).drop (t603 : Int).toNat) t608 t609 from in116_ HI606)) : gb610 ≠ gb606)); replace HI606 := Aside0.mk (IsS116.below (in116_ HI606) hb); clear hb hbox hg; have hnb22 := NB610_601.out; have hnc22 := NB601_610.out; have hnb23 := NB610_606.out; have hnc23 := NB606_610.out; have hz24 := cz2_ BK610) | ((with_reducible refine gq_ 99 48 ?_); refine gc_ 48 Tryz.func99 (impl_getter_text.calls kj3 gb606 ((l0.take ((wrap64 (t603 + t602)) : Int).toNat).drop (t603 : Int).toNat) t608 t609 t611 t612 t613 w _ (in116_ HI606) (bi116_ HB) A13.out) ?_; rintro e w25 ⟨rfl, hi, hb, hk⟩; refine ⟨_, rfl, ?_⟩; replace BK601 := Aside0.mk (KeepBut.blk hk (g' := gb601) (o := .cells #[.int .i64 0, .string (⟨#[]⟩ : ByteArray)] 37 (0, 0)) (kq_ BK601) NB601_606.out (by simp)); replace BK610 := Aside0.mk (KeepBut.blk hk (g' := gb610) (o := .cells #[.int .i64 t607, .string (⟨#[]⟩ : ByteArray)] 37 (0, 0)) (kq_ BK610) NB610_606.out (by simp)); replace HB := Aside0.mk hb; replace HI606 := Aside0.mk hi; clear hb hk hi; have hz26 := cz2_ BK610) | ((with_reducible refine gq_ 100 50 ?_); refine gc_ 50 Tryz.func100 (impl_getter_texts.calls kj3 gb606 ((l0.take ((wrap64 (t603 + t602)) : Int).toNat).drop (t603 : Int).toNat) t612 t613 t614 t617 true w _ (in116_ HI606) (bi116_ HB) A14.out) ?_; rintro e w27 ⟨v615, rfl, ho0, hi, hb, hk⟩; refine ⟨_, rfl, ?_⟩; replace BK601 := Aside0.mk (KeepBut.blk hk (g' := gb601) (o := .cells #[.int .i64 0, .string (⟨#[]⟩ : ByteArray)] 37 (0, 0)) (kq_ BK601) NB601_606.out (by simp)); replace BK610 := Aside0.mk (KeepBut.blk hk (g' := gb610) (o := .cells #[.int .i64 t607, .string t611] 37 (0, 0)) (kq_ BK610) NB610_606.out (by simp)); have HO616 := Aside0.mk (Kd.R_lower ho0 (below_size (bs3_ HB (IsS116.ge HI606.out) GE601.out GE610.out))); replace HB := Aside0.mk hb; replace HI606 := Aside0.mk hi; clear hb hk hi ho0))
     obtain ⟨Aq28_0, cq28_0, hb_, hg_, hrq28_0, hqq28_0⟩ := HI606.out
     have BK606 := Aside0.mk hb_
     have HRq28_0 := Aside0.mk hrq28_0
     have HCq28_0 := Aside0.mk hqq28_0
     clear hb_ hg_ hrq28_0 hqq28_0 HI606
     replace HO616 := Aside0.mk (Kd.R_drew HO616.out)
     replace BK601 := Aside0.mk (blk_drew BK601.out)
     replace BK606 := Aside0.mk (blk_drew BK606.out)
     replace BK610 := Aside0.mk (blk_drew BK610.out)
     replace HB := Aside0.mk (below_drew1 HB.out)
     refine start_ (n := 13) (S := fun w' => w'.cell? ⟨gb606, 0, none⟩ = some (.slice Aq28_0 ((l0.take ((wrap64 (t603 + t602)) : Int).toNat).drop (t603 : Int).toNat).length cq28_0) ∧ w'.cell? ⟨gb606, 1, none⟩ = some (.int .i64 t617) ∧ w'.cell? ⟨gb606, 2, none⟩ = some (.bool true)) (ds := []) (lz_ 13 0) (by kernel_rfl) rfl rfl ⟨bc0_ BK606.out, bc1_ BK606.out, bc2_ BK606.out⟩ (fun hHeld => ?_); refine with_tabW impl_GetCommit.tab9 impl_GetCommit.bits9 (fun HT_ HW_ => ?_)
     generalize w27.drew = w29 at HO616 BK601 BK606 BK610 HB hHeld ⊢
     refine pt_ 0 51 1 ?_
     refine tt_ 1 52 3 ?_
     refine pt_ 2 53 7 ?_
     refine ut_ 3 54 15 ?_
     refine ut_ 4 55 31 ?_
     refine ut_ 5 56 63 ?_
     refine ut_ 6 57 127 ?_
     refine ut_ 7 58 255 ?_
     refine ut_ 8 59 511 ?_
     refine ut_ 9 60 1023 ?_
     refine ut_ 10 61 2047 ?_
     refine ut_ 11 62 4095 ?_
     refine pt_ 12 63 8191 ?_
     refine done_ (done_of HT_.out (by kernel_rfl)) ?_
     have hz30 := cz2_ BK601
     try go_wp2
     refine bodyPost_ret (results_list (rs := [.cell 4 37, .tmp 5, .tmp 6, .tmp 7]) rfl (by simp) (.cell gb601 37 #[.int .i64 0, .string (⟨#[]⟩ : ByteArray)] (0, 0) _ rfl (by exact kq_ BK601) Tryz.underlying37 rfl (by kernel_rfl) (.tmp (.tmp (.tmp .nil))))) rfl ?_
     exact ⟨_, e2_, by first | exact Kd.R_nil _ _ _ _ _ | exact Kd.N_nil _ _ _ _ _ | exact Kd.V_nil _ _ _ _ _ | exact Kd.Q_nil _ _ _ _ _ | exact Kd.S_nil _ _ _ _ _, bw_ HB⟩
    ·replace H := bi_ H; obtain ⟨t619, A31, H⟩ := H
     replace H := ip_ H; obtain ⟨c32, H⟩ := H
     have c32b0 := eq_true c32
     have c32b1 := decide_eq_true c32
     clear c32
     replace H := ip_ H; obtain ⟨c33, H⟩ := H
     have c33b0 := eq_true c33
     have c33b1 := decide_eq_true c33
     replace H := ip_ H; obtain ⟨c34, H⟩ := H
     have c34b0 := eq_true c34
     have c34b1 := decide_eq_true c34
     replace H := bi_ H; obtain ⟨t623, A35, H⟩ := H
     replace H := itb_ H; obtain ⟨rfl, H⟩ | ⟨rfl, H⟩ := H
     ·replace H := so5_ H; obtain ⟨rfl, rfl, rfl, rfl, rfl⟩ := H
      obtain ⟨i037, hi037, _, hsz37, _⟩ := info_parts info5
      obtain ⟨A37, hcut37, hA37, hC37⟩ := print_mid_of (P := Tryz.prog) (Value.int .u8) 0 27 5 .i64 .i64 Tryz.underlying27 hi037 hsz37 A0 c0 l0 t603 (wrap64 (t603 + t602)) (of_decide_eq_true as_) (by first | omega | exact of_decide_eq_true as_) (of_decide_eq_true as_) HC0.out
      have HR605 := Aside0.mk (Kd.C_of_reads (h1 := fun _ => rfl) (hA37 _ (Kd.reads_of_C HR0.out)))
      have HC605 := Aside0.mk hC37
      clear hA37 hC37 hi037 hsz37
      try go_wp2_with (first | ((with_reducible refine gd_ 12 ?_); (try (refine gate_guard (by rfl) ?_; dsimp only)); refine bx_ 12 116 #[.slice none 0 0, .int .i64 0, .bool false] ?_; intro gb606 hg w38 hbox hb; have BK606 := Aside0.mk hbox; have GW606 := gg_ hg HB; have GE606 := GW606; replace HB := ss_ HB hb; have NB601_606 := nla_ hg BK601; have NB606_601 := nga_ hg BK601; replace BK601 := kl_ BK601 hb; clear hb hbox hg; have hnb39 := NB606_601.out; have hnc39 := NB601_606.out; have hz40 := cz3_ BK606) | ((with_reducible refine gk_ 98 ?_); refine gl_ 46 Tryz.func98 #[.pointer (some ⟨gb606, 0, none⟩)] ?_; refine IsS116.called (w0 := w) (g := gb606) (f0 := (l0.take ((wrap64 (t603 + t602)) : Int).toNat).drop (t603 : Int).toNat) (f1 := 0) (f2 := false) ⟨_, _, by (rw [show ((l0.take ((wrap64 (t603 + t602)) : Int).toNat).drop (t603 : Int).toNat).length = ((wrap64 (t603 + t602)).toNat - t603.toNat) from (by rw [List.length_drop, List.length_take]; have h_ : ((wrap64 (t603 + t602)) : Int) ≤ (l0.length : Int) := of_decide_eq_true as_; omega)]); refine kb_ ?_; refine blk_put (cs := #[.slice A37 ((wrap64 (t603 + t602)).toNat - t603.toNat) (c0 - t603.toNat), .int .i64 0, .bool false]) ?_ 2 _ rfl; refine kb_ ?_; refine blk_put (cs := #[.slice A37 ((wrap64 (t603 + t602)).toNat - t603.toNat) (c0 - t603.toNat), .int .i64 0, .bool false]) ?_ 1 _ rfl; refine kb_ ?_; refine blk_put (cs := #[.slice none 0 0, .int .i64 0, .bool false]) ?_ 0 _ rfl; refine kb_ ?_; exact BK606.out, GW606.out, HR605.out, HC605.out⟩ (fun HI606 => ?_); (with_reducible refine (impl_getter_num.calls kj3 gb606 ((l0.take ((wrap64 (t603 + t602)) : Int).toNat).drop (t603 : Int).toNat) 0 false t607 t608 t609 w _ ?side1 ?side2 A12.out).mono ?_); (case side1 => exact in116_ HI606); (case side2 => exact bi116_ HB); rintro e w41 ⟨rfl, hi, hb, hk⟩; refine ⟨_, rfl, ?_⟩; replace BK601 := Aside0.mk (KeepBut.blk hk (g' := gb601) (o := .cells #[.int .i64 0, .string (⟨#[]⟩ : ByteArray)] 37 (0, 0)) (kq_ BK601) NB601_606.out (by simp)); replace HB := Aside0.mk hb; replace HI606 := Aside0.mk hi; clear hb hk hi) | ((with_reducible refine gd_ 13 ?_); (try (refine gate_guard (by rfl) ?_; dsimp only)); refine bx_ 13 37 #[.int .i64 0, .string (⟨#[]⟩ : ByteArray)] ?_; intro gb610 hg w42 hbox hb; have BK610 := Aside0.mk hbox; have GW610 := Aside0.mk (gz_ hg (below_size (bs2_ HB (IsS116.ge HI606.out) GE601.out))); have GE610 := Aside0.mk (gz_ hg (below_size (bs2_ HB (IsS116.ge HI606.out) GE601.out))); replace HB := Aside0.mk (below_step (bs2_ HB (IsS116.ge HI606.out) GE601.out) hb); have NB601_610 := nla_ hg BK601; have NB610_601 := nga_ hg BK601; replace BK601 := kl_ BK601 hb; have NB606_610 := Aside0.mk ((by rw [hg]; exact Nat.ne_of_lt (IsS116.lt (show IsS116 w _ gb606 ((l0.take ((wrap64 (t603 + t602)) : Int).toNat).drop (t603 : Int).toNat) t608 t609 from in116_ HI606)) : gb606 ≠ gb610)); have NB610_606 := Aside0.mk ((by rw [hg]; exact Nat.ne_of_gt (IsS116.lt (show IsS116 w _ gb606 ((l0.take ((wrap64 (t603 + t602)) : Int).toNat).drop (t603 : Int).toNat) t608 t609 from in116_ HI606)) : gb610 ≠ gb606)); replace HI606 := Aside0.mk (IsS116.below (in116_ HI606) hb); clear hb hbox hg; have hnb43 := NB610_601.out; have hnc43 := NB601_610.out; have hnb44 := NB610_606.out; have hnc44 := NB606_610.out; have hz45 := cz2_ BK610) | ((with_reducible refine gq_ 99 48 ?_); refine gc_ 48 Tryz.func99 (impl_getter_text.calls kj3 gb606 ((l0.take ((wrap64 (t603 + t602)) : Int).toNat).drop (t603 : Int).toNat) t608 t609 t611 t612 t613 w _ (in116_ HI606) (bi116_ HB) A13.out) ?_; rintro e w46 ⟨rfl, hi, hb, hk⟩; refine ⟨_, rfl, ?_⟩; replace BK601 := Aside0.mk (KeepBut.blk hk (g' := gb601) (o := .cells #[.int .i64 0, .string (⟨#[]⟩ : ByteArray)] 37 (0, 0)) (kq_ BK601) NB601_606.out (by simp)); replace BK610 := Aside0.mk (KeepBut.blk hk (g' := gb610) (o := .cells #[.int .i64 t607, .string (⟨#[]⟩ : ByteArray)] 37 (0, 0)) (kq_ BK610) NB610_606.out (by simp)); replace HB := Aside0.mk hb; replace HI606 := Aside0.mk hi; clear hb hk hi; have hz47 := cz2_ BK610) | ((with_reducible refine gq_ 100 50 ?_); refine gc_ 50 Tryz.func100 (impl_getter_texts.calls kj3 gb606 ((l0.take ((wrap64 (t603 + t602)) : Int).toNat).drop (t603 : Int).toNat) t612 t613 t614 t617 false w _ (in116_ HI606) (bi116_ HB) A14.out) ?_; rintro e w48 ⟨v615, rfl, ho0, hi, hb, hk⟩; refine ⟨_, rfl, ?_⟩; replace BK601 := Aside0.mk (KeepBut.blk hk (g' := gb601) (o := .cells #[.int .i64 0, .string (⟨#[]⟩ : ByteArray)] 37 (0, 0)) (kq_ BK601) NB601_606.out (by simp)); replace BK610 := Aside0.mk (KeepBut.blk hk (g' := gb610) (o := .cells #[.int .i64 t607, .string t611] 37 (0, 0)) (kq_ BK610) NB610_606.out (by simp)); have HO616 := Aside0.mk (Kd.R_lower ho0 (below_size (bs3_ HB (IsS116.ge HI606.out) GE601.out GE610.out))); replace HB := Aside0.mk hb; replace HI606 := Aside0.mk hi; clear hb hk hi ho0))
      obtain ⟨Aq49_0, cq49_0, hb_, hg_, hrq49_0, hqq49_0⟩ := HI606.out
      have BK606 := Aside0.mk hb_
      have HRq49_0 := Aside0.mk hrq49_0
      have HCq49_0 := Aside0.mk hqq49_0
      clear hb_ hg_ hrq49_0 hqq49_0 HI606
      replace HO616 := Aside0.mk (Kd.R_drew HO616.out)
      replace BK601 := Aside0.mk (blk_drew BK601.out)
      replace BK606 := Aside0.mk (blk_drew BK606.out)
      replace BK610 := Aside0.mk (blk_drew BK610.out)
      replace HB := Aside0.mk (below_drew1 HB.out)
      obtain ⟨i051, hi051, _, hsz51, _⟩ := info_parts info5
      obtain ⟨A51, hcut51, hA51, hC51⟩ := print_mid_of (P := Tryz.prog) (Value.int .u8) 0 27 5 .i64 .i64 Tryz.underlying27 hi051 hsz51 A0 c0 l0 a1 (wrap64 ((wrap64 (t603 + t602)) + 4)) (of_decide_eq_true as_) (by first | omega | exact of_decide_eq_true as_) (of_decide_eq_true as_) HC0.out
      have HR622 := Aside0.mk (Kd.C_of_reads (h1 := fun _ => rfl) (hA51 _ (Kd.reads_of_C HR0.out)))
      have HC622 := Aside0.mk hC51
      clear hA51 hC51 hi051 hsz51
      obtain ⟨Ao52, co52, eo52⟩ := Kd.R_slice HO616.out
      (first | subst eo52 | (injection eo52 with f1_ f2_ f3_; have f4_ := f1_.symm; have f5_ := f3_.symm; clear f1_ f2_ f3_; subst f4_; subst f5_))
      refine start_ (n := 13) (S := fun w' => w'.cell? ⟨gb606, 0, none⟩ = some (.slice Aq49_0 ((l0.take ((wrap64 (t603 + t602)) : Int).toNat).drop (t603 : Int).toNat).length cq49_0) ∧ w'.cell? ⟨gb606, 1, none⟩ = some (.int .i64 t617) ∧ w'.cell? ⟨gb606, 2, none⟩ = some (.bool false) ∧ w'.cell? ⟨gb610, 0, none⟩ = some (.int .i64 t607) ∧ w'.cell? ⟨gb610, 1, none⟩ = some (.string t611)) (ds := []) (lz_ 13 0) (by kernel_rfl) rfl rfl ⟨bc0_ BK606.out, bc1_ BK606.out, bc2_ BK606.out, bc0_ BK610.out, bc1_ BK610.out⟩ (fun hHeld => ?_); refine with_tabW impl_GetCommit.tab9 impl_GetCommit.bits9 (fun HT_ HW_ => ?_)
      generalize w48.drew = w50 at HO616 BK601 BK606 BK610 HB HR622 hHeld ⊢
      refine pt_ 0 51 1 ?_
      refine tt_ 1 52 3 ?_
      refine pt_ 2 53 7 ?_
      refine pt_ 4 55 23 ?_
      refine pt_ 6 57 87 ?_
      refine pt_ 7 58 215 ?_
      refine pt_ 8 59 471 ?_
      refine pt_ 9 60 983 ?_
      refine tt_ 3 54 991 ?_
      refine one_ (i := 5) (N := some 56) (lz_ 13 1023) rfl rfl (one_of HT_.out (by kernel_rfl)) (by decide) (fun K hK => ?_)
      refine gf_ Tryz.func102 (impl_PutCommit.calls kj3 t607 t611 _ _ t614 t619 _ (ch_ HO616) (cl_ HO616) A31.out) ?_
      rintro e w53 ⟨v620, rfl, ho0, hb⟩
      refine ⟨_, rfl, ?_⟩
      replace HO616 := rb_ HO616 hb
      have HO621 := Aside0.mk (Kd.R_lower ho0 (sz_ HB))
      replace BK601 := kl_ BK601 hb
      replace BK606 := kl_ BK606 hb
      replace BK610 := kl_ BK610 hb
      replace HB := ss_ HB hb
      clear hb ho0
      obtain ⟨Ao54, co54, eo54⟩ := Kd.R_slice HO621.out
      (first | subst eo54 | (injection eo54 with f1_ f2_ f3_; have f4_ := f1_.symm; have f5_ := f3_.symm; clear f1_ f2_ f3_; subst f4_; subst f5_))
      refine hK.out _ _ ⟨bc0_ BK606.out, bc1_ BK606.out, bc2_ BK606.out, bc0_ BK610.out, bc1_ BK610.out⟩ (fun hHeld => ?_)
      clear hK K
      refine no_ 56 ?_
      refine one_ (i := 10) (N := some 61) (lz_ 13 2047) rfl rfl (one_of HT_.out (by kernel_rfl)) (by decide) (fun K hK => ?_)
      refine goes_ Tryz.func101 (by kernel_rfl) rfl #[.slice Ao54 t619.length co54, .slice A51 ((l0.take ((wrap64 ((wrap64 (t603 + t602)) + 4)) : Int).toNat).drop (a1 : Int).toNat).length (c0 - a1.toNat)] (by rfl) rfl rfl (by (try simp only [List.map_toArray, List.map_cons, List.map_nil]); first | done | (rw [show ((l0.take ((wrap64 ((wrap64 (t603 + t602)) + 4)) : Int).toNat).drop (a1 : Int).toNat).length = ((wrap64 ((wrap64 (t603 + t602)) + 4)).toNat - a1.toNat) from (by rw [List.length_drop, List.length_take]; have h_ : ((wrap64 ((wrap64 (t603 + t602)) + 4)) : Int) ≤ (l0.length : Int) := of_decide_eq_true as_; omega)] <;> rfl) | rfl | (simp only [List.length_drop, List.length_take]; rfl)) ?_
      with_reducible refine (bytes_Equal.calls _ _ t619 _ _ ((l0.take ((wrap64 ((wrap64 (t603 + t602)) + 4)) : Int).toNat).drop (a1 : Int).toNat) true _ ?side1 ?side2 ?side3 ?side4 A35.out).mono ?_
      (case side1 => exact ch_ HO621)
      (case side2 => exact (cl_ HO621))
      (case side3 => exact cb_ HR622 HB)
      (case side4 => exact HC622.out)
      rintro e w' ⟨rfl, ⟨nd, rfl⟩⟩
      refine ⟨_, rfl, ?_⟩
      refine hK.out _ _ ⟨bc0_ BK606.out, bc1_ BK606.out, bc2_ BK606.out, bc0_ BK610.out, bc1_ BK610.out⟩ (fun hHeld => ?_)
      clear hK K
      refine no_ 61 ?_
      refine pt_ 11 62 4095 ?_
      refine pt_ 12 63 8191 ?_
      refine done_ (done_of HT_.out (by kernel_rfl)) ?_
      have hz55 := cz2_ BK610
      have hz56 := cz2_ BK601
      try go_wp2
      refine bodyPost_ret (results_list (rs := [.cell 4 37, .tmp 5, .tmp 6, .tmp 7]) rfl (by simp) (.cell gb601 37 #[.int .i64 t607, .string t611] (0, 0) _ rfl (by exact kq_ BK601) Tryz.underlying37 rfl (by kernel_rfl) (.tmp (.tmp (.tmp .nil))))) rfl ?_
      exact ⟨_, e2_, by (with_reducible repeat (first | apply Kd.R_alloc | apply Kd.R_drewN | apply Kd.R_drew)); exact Kd.R_mono (Kd.R_far (p := ⟨gb601, 1, none⟩) (Kd.R_far (p := ⟨gb601, 0, none⟩) (Kd.R_types HO616.out BK601.out (by decide)) (fun _ hk => hk.2) (.int .i64 t607)) (fun _ hk => hk.2) (.string t611)) (fun _ hk => trivial), bw_ HB⟩
     ·replace H := so5_ H; obtain ⟨rfl, rfl, rfl, rfl, rfl⟩ := H
      obtain ⟨i057, hi057, _, hsz57, _⟩ := info_parts info5
      obtain ⟨A57, hcut57, hA57, hC57⟩ := print_mid_of (P := Tryz.prog) (Value.int .u8) 0 27 5 .i64 .i64 Tryz.underlying27 hi057 hsz57 A0 c0 l0 t603 (wrap64 (t603 + t602)) (of_decide_eq_true as_) (by first | omega | exact of_decide_eq_true as_) (of_decide_eq_true as_) HC0.out
      have HR605 := Aside0.mk (Kd.C_of_reads (h1 := fun _ => rfl) (hA57 _ (Kd.reads_of_C HR0.out)))
      have HC605 := Aside0.mk hC57
      clear hA57 hC57 hi057 hsz57
      try go_wp2_with (first | ((with_reducible refine gd_ 12 ?_); (try (refine gate_guard (by rfl) ?_; dsimp only)); refine bx_ 12 116 #[.slice none 0 0, .int .i64 0, .bool false] ?_; intro gb606 hg w58 hbox hb; have BK606 := Aside0.mk hbox; have GW606 := gg_ hg HB; have GE606 := GW606; replace HB := ss_ HB hb; have NB601_606 := nla_ hg BK601; have NB606_601 := nga_ hg BK601; replace BK601 := kl_ BK601 hb; clear hb hbox hg; have hnb59 := NB606_601.out; have hnc59 := NB601_606.out; have hz60 := cz3_ BK606) | ((with_reducible refine gk_ 98 ?_); refine gl_ 46 Tryz.func98 #[.pointer (some ⟨gb606, 0, none⟩)] ?_; refine IsS116.called (w0 := w) (g := gb606) (f0 := (l0.take ((wrap64 (t603 + t602)) : Int).toNat).drop (t603 : Int).toNat) (f1 := 0) (f2 := false) ⟨_, _, by (rw [show ((l0.take ((wrap64 (t603 + t602)) : Int).toNat).drop (t603 : Int).toNat).length = ((wrap64 (t603 + t602)).toNat - t603.toNat) from (by rw [List.length_drop, List.length_take]; have h_ : ((wrap64 (t603 + t602)) : Int) ≤ (l0.length : Int) := of_decide_eq_true as_; omega)]); refine kb_ ?_; refine blk_put (cs := #[.slice A57 ((wrap64 (t603 + t602)).toNat - t603.toNat) (c0 - t603.toNat), .int .i64 0, .bool false]) ?_ 2 _ rfl; refine kb_ ?_; refine blk_put (cs := #[.slice A57 ((wrap64 (t603 + t602)).toNat - t603.toNat) (c0 - t603.toNat), .int .i64 0, .bool false]) ?_ 1 _ rfl; refine kb_ ?_; refine blk_put (cs := #[.slice none 0 0, .int .i64 0, .bool false]) ?_ 0 _ rfl; refine kb_ ?_; exact BK606.out, GW606.out, HR605.out, HC605.out⟩ (fun HI606 => ?_); (with_reducible refine (impl_getter_num.calls kj3 gb606 ((l0.take ((wrap64 (t603 + t602)) : Int).toNat).drop (t603 : Int).toNat) 0 false t607 t608 t609 w _ ?side1 ?side2 A12.out).mono ?_); (case side1 => exact in116_ HI606); (case side2 => exact bi116_ HB); rintro e w61 ⟨rfl, hi, hb, hk⟩; refine ⟨_, rfl, ?_⟩; replace BK601 := Aside0.mk (KeepBut.blk hk (g' := gb601) (o := .cells #[.int .i64 0, .string (⟨#[]⟩ : ByteArray)] 37 (0, 0)) (kq_ BK601) NB601_606.out (by simp)); replace HB := Aside0.mk hb; replace HI606 := Aside0.mk hi; clear hb hk hi) | ((with_reducible refine gd_ 13 ?_); (try (refine gate_guard (by rfl) ?_; dsimp only)); refine bx_ 13 37 #[.int .i64 0, .string (⟨#[]⟩ : ByteArray)] ?_; intro gb610 hg w62 hbox hb; have BK610 := Aside0.mk hbox; have GW610 := Aside0.mk (gz_ hg (below_size (bs2_ HB (IsS116.ge HI606.out) GE601.out))); have GE610 := Aside0.mk (gz_ hg (below_size (bs2_ HB (IsS116.ge HI606.out) GE601.out))); replace HB := Aside0.mk (below_step (bs2_ HB (IsS116.ge HI606.out) GE601.out) hb); have NB601_610 := nla_ hg BK601; have NB610_601 := nga_ hg BK601; replace BK601 := kl_ BK601 hb; have NB606_610 := Aside0.mk ((by rw [hg]; exact Nat.ne_of_lt (IsS116.lt (show IsS116 w _ gb606 ((l0.take ((wrap64 (t603 + t602)) : Int).toNat).drop (t603 : Int).toNat) t608 t609 from in116_ HI606)) : gb606 ≠ gb610)); have NB610_606 := Aside0.mk ((by rw [hg]; exact Nat.ne_of_gt (IsS116.lt (show IsS116 w _ gb606 ((l0.take ((wrap64 (t603 + t602)) : Int).toNat).drop (t603 : Int).toNat) t608 t609 from in116_ HI606)) : gb610 ≠ gb606)); replace HI606 := Aside0.mk (IsS116.below (in116_ HI606) hb); clear hb hbox hg; have hnb63 := NB610_601.out; have hnc63 := NB601_610.out; have hnb64 := NB610_606.out; have hnc64 := NB606_610.out; have hz65 := cz2_ BK610) | ((with_reducible refine gq_ 99 48 ?_); refine gc_ 48 Tryz.func99 (impl_getter_text.calls kj3 gb606 ((l0.take ((wrap64 (t603 + t602)) : Int).toNat).drop (t603 : Int).toNat) t608 t609 t611 t612 t613 w _ (in116_ HI606) (bi116_ HB) A13.out) ?_; rintro e w66 ⟨rfl, hi, hb, hk⟩; refine ⟨_, rfl, ?_⟩; replace BK601 := Aside0.mk (KeepBut.blk hk (g' := gb601) (o := .cells #[.int .i64 0, .string (⟨#[]⟩ : ByteArray)] 37 (0, 0)) (kq_ BK601) NB601_606.out (by simp)); replace BK610 := Aside0.mk (KeepBut.blk hk (g' := gb610) (o := .cells #[.int .i64 t607, .string (⟨#[]⟩ : ByteArray)] 37 (0, 0)) (kq_ BK610) NB610_606.out (by simp)); replace HB := Aside0.mk hb; replace HI606 := Aside0.mk hi; clear hb hk hi; have hz67 := cz2_ BK610) | ((with_reducible refine gq_ 100 50 ?_); refine gc_ 50 Tryz.func100 (impl_getter_texts.calls kj3 gb606 ((l0.take ((wrap64 (t603 + t602)) : Int).toNat).drop (t603 : Int).toNat) t612 t613 t614 t617 false w _ (in116_ HI606) (bi116_ HB) A14.out) ?_; rintro e w68 ⟨v615, rfl, ho0, hi, hb, hk⟩; refine ⟨_, rfl, ?_⟩; replace BK601 := Aside0.mk (KeepBut.blk hk (g' := gb601) (o := .cells #[.int .i64 0, .string (⟨#[]⟩ : ByteArray)] 37 (0, 0)) (kq_ BK601) NB601_606.out (by simp)); replace BK610 := Aside0.mk (KeepBut.blk hk (g' := gb610) (o := .cells #[.int .i64 t607, .string t611] 37 (0, 0)) (kq_ BK610) NB610_606.out (by simp)); have HO616 := Aside0.mk (Kd.R_lower ho0 (below_size (bs3_ HB (IsS116.ge HI606.out) GE601.out GE610.out))); replace HB := Aside0.mk hb; replace HI606 := Aside0.mk hi; clear hb hk hi ho0))
      obtain ⟨Aq69_0, cq69_0, hb_, hg_, hrq69_0, hqq69_0⟩ := HI606.out
      have BK606 := Aside0.mk hb_
      have HRq69_0 := Aside0.mk hrq69_0
      have HCq69_0 := Aside0.mk hqq69_0
      clear hb_ hg_ hrq69_0 hqq69_0 HI606
      replace HO616 := Aside0.mk (Kd.R_drew HO616.out)
      replace BK601 := Aside0.mk (blk_drew BK601.out)
      replace BK606 := Aside0.mk (blk_drew BK606.out)
      replace BK610 := Aside0.mk (blk_drew BK610.out)
      replace HB := Aside0.mk (below_drew1 HB.out)
      obtain ⟨i071, hi071, _, hsz71, _⟩ := info_parts info5
      obtain ⟨A71, hcut71, hA71, hC71⟩ := print_mid_of (P := Tryz.prog) (Value.int .u8) 0 27 5 .i64 .i64 Tryz.underlying27 hi071 hsz71 A0 c0 l0 a1 (wrap64 ((wrap64 (t603 + t602)) + 4)) (of_decide_eq_true as_) (by first | omega | exact of_decide_eq_true as_) (of_decide_eq_true as_) HC0.out
      have HR622 := Aside0.mk (Kd.C_of_reads (h1 := fun _ => rfl) (hA71 _ (Kd.reads_of_C HR0.out)))
      have HC622 := Aside0.mk hC71
      clear hA71 hC71 hi071 hsz71
      obtain ⟨Ao72, co72, eo72⟩ := Kd.R_slice HO616.out
      (first | subst eo72 | (injection eo72 with f1_ f2_ f3_; have f4_ := f1_.symm; have f5_ := f3_.symm; clear f1_ f2_ f3_; subst f4_; subst f5_))
      refine start_ (n := 13) (S := fun w' => w'.cell? ⟨gb606, 0, none⟩ = some (.slice Aq69_0 ((l0.take ((wrap64 (t603 + t602)) : Int).toNat).drop (t603 : Int).toNat).length cq69_0) ∧ w'.cell? ⟨gb606, 1, none⟩ = some (.int .i64 t617) ∧ w'.cell? ⟨gb606, 2, none⟩ = some (.bool false) ∧ w'.cell? ⟨gb610, 0, none⟩ = some (.int .i64 t607) ∧ w'.cell? ⟨gb610, 1, none⟩ = some (.string t611)) (ds := []) (lz_ 13 0) (by kernel_rfl) rfl rfl ⟨bc0_ BK606.out, bc1_ BK606.out, bc2_ BK606.out, bc0_ BK610.out, bc1_ BK610.out⟩ (fun hHeld => ?_); refine with_tabW impl_GetCommit.tab9 impl_GetCommit.bits9 (fun HT_ HW_ => ?_)
      generalize w68.drew = w70 at HO616 BK601 BK606 BK610 HB HR622 hHeld ⊢
      refine pt_ 0 51 1 ?_
      refine tt_ 1 52 3 ?_
      refine pt_ 2 53 7 ?_
      refine pt_ 4 55 23 ?_
      refine pt_ 6 57 87 ?_
      refine pt_ 7 58 215 ?_
      refine pt_ 8 59 471 ?_
      refine pt_ 9 60 983 ?_
      refine tt_ 3 54 991 ?_
      refine one_ (i := 5) (N := some 56) (lz_ 13 1023) rfl rfl (one_of HT_.out (by kernel_rfl)) (by decide) (fun K hK => ?_)
      refine gf_ Tryz.func102 (impl_PutCommit.calls kj3 t607 t611 _ _ t614 t619 _ (ch_ HO616) (cl_ HO616) A31.out) ?_
      rintro e w73 ⟨v620, rfl, ho0, hb⟩
      refine ⟨_, rfl, ?_⟩
      replace HO616 := rb_ HO616 hb
      have HO621 := Aside0.mk (Kd.R_lower ho0 (sz_ HB))
      replace BK601 := kl_ BK601 hb
      replace BK606 := kl_ BK606 hb
      replace BK610 := kl_ BK610 hb
      replace HB := ss_ HB hb
      clear hb ho0
      obtain ⟨Ao74, co74, eo74⟩ := Kd.R_slice HO621.out
      (first | subst eo74 | (injection eo74 with f1_ f2_ f3_; have f4_ := f1_.symm; have f5_ := f3_.symm; clear f1_ f2_ f3_; subst f4_; subst f5_))
      refine hK.out _ _ ⟨bc0_ BK606.out, bc1_ BK606.out, bc2_ BK606.out, bc0_ BK610.out, bc1_ BK610.out⟩ (fun hHeld => ?_)
      clear hK K
      refine no_ 56 ?_
      refine one_ (i := 10) (N := some 61) (lz_ 13 2047) rfl rfl (one_of HT_.out (by kernel_rfl)) (by decide) (fun K hK => ?_)
      refine goes_ Tryz.func101 (by kernel_rfl) rfl #[.slice Ao74 t619.length co74, .slice A71 ((l0.take ((wrap64 ((wrap64 (t603 + t602)) + 4)) : Int).toNat).drop (a1 : Int).toNat).length (c0 - a1.toNat)] (by rfl) rfl rfl (by (try simp only [List.map_toArray, List.map_cons, List.map_nil]); first | done | (rw [show ((l0.take ((wrap64 ((wrap64 (t603 + t602)) + 4)) : Int).toNat).drop (a1 : Int).toNat).length = ((wrap64 ((wrap64 (t603 + t602)) + 4)).toNat - a1.toNat) from (by rw [List.length_drop, List.length_take]; have h_ : ((wrap64 ((wrap64 (t603 + t602)) + 4)) : Int) ≤ (l0.length : Int) := of_decide_eq_true as_; omega)] <;> rfl) | rfl | (simp only [List.length_drop, List.length_take]; rfl)) ?_
      with_reducible refine (bytes_Equal.calls _ _ t619 _ _ ((l0.take ((wrap64 ((wrap64 (t603 + t602)) + 4)) : Int).toNat).drop (a1 : Int).toNat) false _ ?side1 ?side2 ?side3 ?side4 A35.out).mono ?_
      (case side1 => exact ch_ HO621)
      (case side2 => exact (cl_ HO621))
      (case side3 => exact cb_ HR622 HB)
      (case side4 => exact HC622.out)
      rintro e w' ⟨rfl, ⟨nd, rfl⟩⟩
      refine ⟨_, rfl, ?_⟩
      refine hK.out _ _ ⟨bc0_ BK606.out, bc1_ BK606.out, bc2_ BK606.out, bc0_ BK610.out, bc1_ BK610.out⟩ (fun hHeld => ?_)
      clear hK K
      refine no_ 61 ?_
      refine pt_ 11 62 4095 ?_
      refine pt_ 12 63 8191 ?_
      refine done_ (done_of HT_.out (by kernel_rfl)) ?_
      have hz75 := cz2_ BK601
      try go_wp2
      refine bodyPost_ret (results_list (rs := [.cell 4 37, .tmp 5, .tmp 6, .tmp 7]) rfl (by simp) (.cell gb601 37 #[.int .i64 0, .string (⟨#[]⟩ : ByteArray)] (0, 0) _ rfl (by exact kq_ BK601) Tryz.underlying37 rfl (by kernel_rfl) (.tmp (.tmp (.tmp .nil))))) rfl ?_
      exact ⟨_, e2_, by first | exact Kd.R_nil _ _ _ _ _ | exact Kd.N_nil _ _ _ _ _ | exact Kd.V_nil _ _ _ _ _ | exact Kd.Q_nil _ _ _ _ _ | exact Kd.S_nil _ _ _ _ _, bw_ HB⟩
end Go.Proofs.YtnlndmoecljicaaGreat.Q
end
section
namespace Go.Proofs.YtnlndmoecljicaaGreat.Q
open Go.RowKit Go.Proofs.YtnlndmoecljicaaGreat.B Go.Proofs.YtnlndmoecljicaaGreatW.PrintWords Go.Proofs.YtnlndmoecljicaaGreatW.PrintMore
set_option linter.unusedVariables false
set_option linter.unusedSimpArgs false
theorem commitB_length (n : Nat) (s : ByteArray) (t : List ByteArray) : (commitB n s t).length = (num (bodyB n s t).length).length + (bodyB n s t).length + 4 := by
 unfold commitB
 rw [List.length_append, List.length_append, sumB_length]
 omega
def CommitOf (b : List Int) (at_ n : Int) (s : ByteArray) (t : List ByteArray) (nx : Int) (ok : Bool) : Prop :=
 (ok = true → ∃ a N : Nat, at_ = (a : Int) ∧ n = (N : Int) ∧ headOk n s = true ∧ 1 ≤ t.length ∧ b.drop a = commitB N s t ++ b.drop (a + (commitB N s t).length) ∧ nx = ((a + (commitB N s t).length : Nat) : Int) ∧ a + (commitB N s t).length ≤ b.length) ∧
 (ok = false → n = 0 ∧ s = ⟨#[]⟩ ∧ t = [] ∧ nx = at_ ∧ ∀ (a N : Nat) (s' : ByteArray) (t' : List ByteArray) r, at_ = (a : Int) → b.drop a = commitB N s' t' ++ r → headOk (N : Int) s' = true → 1 ≤ t'.length → t'.length ≤ 200 → (∀ x ∈ t', x.size ≤ 1000000000) → False)
set_option maxHeartbeats 1000000 in
theorem getCommitI (b : List Int) (hb : InB b) (hl : b.length ≤ 10000000) (at_ : Int) (h0 : -9223372036854775808 ≤ at_) (h1 : at_ ≤ 9223372036854775807) :
  ∃ n s t nx ok, Ev (fun q => impl_GetCommit.f q b at_) (n, s, t, nx, ok) ∧ t.length ≤ 200 ∧ CommitOf b at_ n s t nx ok := by
 obtain ⟨m, x, ok, _, e2, hN⟩ := getNum_both b hb (by omega) at_ h0 h1
 have jT : ∀ m x : Int, Ev (fun q => impl_GetCommit.j0 q b at_ m x true) (0, (⟨#[]⟩ : ByteArray), ([] : List ByteArray), at_, false) := fun m x => by
  refine Ev.step (fun q => by simp only [impl_GetCommit.j0]; rfl) ?_
  exact Ev.pos trivial (Ev.now _)
 have bad : ∀ P : Prop, (∀ (a N : Nat) (s' : ByteArray) (t' : List ByteArray) r, at_ = (a : Int) → b.drop a = commitB N s' t' ++ r → headOk (N : Int) s' = true → 1 ≤ t'.length → t'.length ≤ 200 → (∀ x ∈ t', x.size ≤ 1000000000) → False) → CommitOf b at_ 0 ⟨#[]⟩ [] at_ false := fun _ h => ⟨fun q => (by cases q), fun _ => ⟨rfl, rfl, rfl, rfl, h⟩⟩
 unfold impl_GetCommit.f
 cases ok with
 | false =>
  obtain ⟨rfl, rfl, h3⟩ := hN.1 rfl
  refine ⟨0, ⟨#[]⟩, [], at_, false, Ev.bind e2 (Ev.neg (by simp) (jT _ _)), by simp, bad True fun a N s' t' r ha hr _ _ _ _ => ?_⟩
  unfold commitB at hr
  rw [List.append_assoc] at hr
  refine h3 a _ _ ha hr ?_
  have := congrArg List.length hr
  simp only [List.length_append, List.length_drop] at this
  omega
 | true =>
  obtain ⟨a, m, rfl, rfl, hm, hd, rfl, hle⟩ := hN.2 rfl
  have hp1 := num_pos m
  obtain ⟨p, hp⟩ : ∃ p, a + (num m).length = p := ⟨_, rfl⟩
  rw [hp] at e2 hd hle
  clear hN
  have cut : ∀ (N : Nat) (s' : ByteArray) (t' : List ByteArray) r, b.drop a = commitB N s' t' ++ r → m = (bodyB N s' t').length ∧ b.drop p = bodyB N s' t' ++ (sumB (bodyB N s' t') ++ r) := fun N s' t' r hr => by
   unfold commitB at hr
   rw [hd, List.append_assoc, List.append_assoc] at hr
   exact num_inj _ _ _ _ hr
  have w1 : wrap64 ((b.length : Int) - (p : Int)) = (b.length : Int) - (p : Int) := w64 (by omega) (by omega)
  have w2 : wrap64 ((b.length : Int) - (p : Int) - 4) = (b.length : Int) - (p : Int) - 4 := w64 (by omega) (by omega)
  by_cases hg : (m : Int) > (b.length : Int) - (p : Int) - 4
  ·refine ⟨0, ⟨#[]⟩, [], (a : Int), false, ?_, by simp, bad True fun a' N s' t' r ha hr _ _ _ _ => ?_⟩
   ·refine Ev.bind e2 (Ev.pos rfl ?_)
    simp only [w1, w2, decide_eq_true hg]
    exact jT _ _
   ·obtain rfl : a = a' := by omega
    obtain ⟨k1, k2⟩ := cut N s' t' r hr
    have := congrArg List.length k2
    simp only [List.length_append, List.length_drop, sumB_length] at this
    omega
  ·have w3 : wrap64 ((p : Int) + (m : Int)) = ((p + m : Nat) : Int) := by
    rw [w64 (by omega) (by omega)]
    omega
   have w4 : wrap64 (((p + m : Nat) : Int) + 4) = ((p + m + 4 : Nat) : Int) := by
    rw [w64 (by omega) (by omega)]
    omega
   have t1 : ((p + m : Nat) : Int).toNat = p + m := Int.toNat_natCast _
   have t2 : (p : Int).toNat = p := Int.toNat_natCast _
   have t3 : ((p + m + 4 : Nat) : Int).toNat = p + m + 4 := Int.toNat_natCast _
   have t4 : (a : Int).toNat = a := Int.toNat_natCast _
   obtain ⟨B, hB⟩ : ∃ B, (b.take (p + m)).drop p = B := ⟨_, rfl⟩
   have hB2 : B = (b.drop p).take m := by
    rw [← hB, List.drop_take]
    congr 1
    omega
   have hBl : B.length = m := by
    rw [hB2, List.length_take, List.length_drop]
    omega
   have hBb : InB B := by
    rw [hB2]
    exact inB_take (inB_drop hb p) m
   have cutB : ∀ (N : Nat) (s' : ByteArray) (t' : List ByteArray) r, b.drop a = commitB N s' t' ++ r → B = bodyB N s' t' := fun N s' t' r hr => by
    obtain ⟨k1, k2⟩ := cut N s' t' r hr
    rw [hB2, k2, k1, List.take_left]
   obtain ⟨E, hE⟩ : ∃ E, (b.take (p + m + 4)).drop a = E := ⟨_, rfl⟩
   have start : ∀ r, Ev (fun q => (impl_getter_num.f q B 0 false).bind fun bt607 => ((impl_getter_text.f q B bt607.2.1 bt607.2.2).bind fun bt611 => ((impl_getter_texts.f q B bt611.2.1 bt611.2.2).bind fun bt614 => (if bt614.2.2 = true then (some (0, (⟨#[]⟩ : ByteArray), ([] : List ByteArray), (a : Int), false)) else ((impl_PutCommit.f q bt607.1 bt611.1 bt614.1).bind fun t619 => ((bytes_Equal.f t619 E).bind fun t623 => (if t623 = true then (some (bt607.1, bt611.1, bt614.1, ((p + m + 4 : Nat) : Int), true)) else (some (0, (⟨#[]⟩ : ByteArray), ([] : List ByteArray), (a : Int), false))))))))) r → Ev (fun q => (impl_GetNum.f q b (a : Int)).bind fun bt602 => (if bt602.2.2 = true then (impl_GetCommit.j0 q b (a : Int) bt602.1 bt602.2.1 (decide (bt602.1 > (wrap64 ((wrap64 ((b.length : Int) - bt602.2.1)) - 4))))) else (impl_GetCommit.j0 q b (a : Int) bt602.1 bt602.2.1 true))) r := fun r hr => by
    refine Ev.bind e2 (Ev.pos rfl ?_)
    simp only [w1, w2, decide_eq_false hg]
    refine Ev.step (fun q => by simp only [impl_GetCommit.j0, w3, w4, t1, t2, t3, t4, hB, hE]; rfl) ?_
    refine Ev.neg (by simp) (Ev.pos (by omega) (Ev.pos (by omega) (Ev.pos (by omega) ?_)))
    have i1 : (0 : Int) ≤ (a : Int) := by omega
    have i2 : (a : Int) ≤ ((p + m + 4 : Nat) : Int) := by omega
    have i3 : ((p + m + 4 : Nat) : Int) ≤ (b.length : Int) := by omega
    simp only [if_pos i1, if_pos i2, if_pos i3]
    exact hr
   rcases num_step B hBb (by omega) 0 (by omega) with ⟨_, g0, z0⟩ | ⟨v0, p1, q0, l0, y0, r0, _, g0⟩
   ·refine ⟨0, ⟨#[]⟩, [], (a : Int), false, start _ (Ev.bind g0 (Ev.bind (gtext_bad B hBb (by omega) 0 (by omega) (by omega)) (Ev.bind (gtexts_bad B hBb (by omega) 0 (by omega) (by omega)) (Ev.pos rfl (Ev.now _))))), by simp, bad True fun a' N s' t' r ha hr hk c1 c2 c3 => ?_⟩
    obtain rfl : a = a' := by omega
    have hh := headOk_parts hk
    exact z0 N _ (show B.drop 0 = num N ++ (textB s' ++ textsB t') from cutB N s' t' r hr) (by omega)
   ·rcases text_step B hBb (by omega) p1 (by omega) with ⟨_, g1, z1⟩ | ⟨v1, p2, q1, l1, y1, r1, _, g1⟩
    ·refine ⟨0, ⟨#[]⟩, [], (a : Int), false, start _ (Ev.bind g0 (Ev.bind g1 (Ev.bind (gtexts_bad B hBb (by omega) (p1 : Int) (by omega) (by omega)) (Ev.pos rfl (Ev.now _))))), by simp, bad True fun a' N s' t' r ha hr hk c1 c2 c3 => ?_⟩
     obtain rfl : a = a' := by omega
     have hh := headOk_parts hk
     have d0 : B.drop 0 = num N ++ (textB s' ++ textsB t') := cutB N s' t' r hr
     have d1 := (num_inj _ _ _ _ (y0.symm.trans d0)).2
     exact z1 s' _ d1 (by omega)
    ·rcases texts_step B hBb (by omega) p2 (by omega) with ⟨_, g2, z2⟩ | ⟨v2, p3, q2, s2, l2, y2, r2, _, g2⟩
     ·refine ⟨0, ⟨#[]⟩, [], (a : Int), false, start _ (Ev.bind g0 (Ev.bind g1 (Ev.bind g2 (Ev.pos rfl (Ev.now _))))), by simp, bad True fun a' N s' t' r ha hr hk c1 c2 c3 => ?_⟩
      obtain rfl : a = a' := by omega
      have d0 : B.drop 0 = num N ++ (textB s' ++ textsB t') := cutB N s' t' r hr
      have d1 := (num_inj _ _ _ _ (y0.symm.trans d0)).2
      have d2 := (textB_inj (y1.symm.trans d1)).2
      exact z2 t' [] (by rw [List.append_nil]; exact d2) c2 c3
     ·have hBB : B = bodyB v0 v1 v2 ++ B.drop p3 := by
       have e : B.drop 0 = num v0 ++ (textB v1 ++ (textsB v2 ++ B.drop p3)) := by rw [y0, y1, y2]
       unfold bodyB
       simp only [List.append_assoc]
       exact e
      have hge := bodyB_ge v0 v1 v2
      have hBBl : (bodyB v0 v1 v2).length ≤ m := by
       have := congrArg List.length hBB
       rw [List.length_append] at this
       omega
      have ht0 := total_nonneg v2
      have hP := PutCommit_val (v0 : Int) v1 v2 (by omega) (by omega) s2
      rw [Int.toNat_natCast] at hP
      have hEb : InB E := by
       rw [← hE]
       exact inB_drop (inB_take hb _) _
      have hEl : E.length = (num m).length + m + 4 := by
       rw [← hE, List.length_drop, List.length_take]
       omega
      have hEd : b.drop a = E ++ b.drop (p + m + 4) := by
       have e3 : b.drop a = (b.drop a).take (p + m + 4 - a) ++ (b.drop a).drop (p + m + 4 - a) := (List.take_append_drop _ _).symm
       rw [List.drop_drop, ← List.drop_take, show a + (p + m + 4 - a) = p + m + 4 by omega, hE] at e3
       exact e3
      obtain ⟨W, hW⟩ : ∃ W, (if headOk (v0 : Int) v1 = true ∧ 1 ≤ v2.length ∧ v2.length ≤ 200 then commitB v0 v1 v2 else []) = W := ⟨_, rfl⟩
      rw [hW] at hP
      have hWb : InB W := by
       rw [← hW]
       split
       ·exact commitB_inB _ _ _
       ·exact inB_nil
      have hQ : bytes_Equal.f W E = some (decide (W = E)) := by
       unfold bytes_Equal.f
       rw [nums_eq hWb hEb]
      by_cases he : W = E
      ·have hc : headOk (v0 : Int) v1 = true ∧ 1 ≤ v2.length ∧ v2.length ≤ 200 := Classical.byContradiction fun hn => by
        rw [if_neg hn] at hW
        rw [← hW] at he
        have := congrArg List.length he
        rw [hEl] at this
        simp only [List.length_nil] at this
        omega
       rw [if_pos hc] at hW
       have hlen : (commitB v0 v1 v2).length = (num m).length + m + 4 := by rw [hW, he, hEl]
       refine ⟨(v0 : Int), v1, v2, ((p + m + 4 : Nat) : Int), true, start _ (Ev.bind g0 (Ev.bind g1 (Ev.bind g2 (Ev.neg (by simp) (Ev.bind hP (Ev.bind (Ev.const hQ) (Ev.pos (decide_eq_true he) (Ev.now _)))))))), q2, fun _ => ⟨a, v0, rfl, rfl, hc.1, hc.2.1, ?_, ?_, ?_⟩, fun h => (by cases h)⟩
       ·rw [hlen, hW, he, show a + ((num m).length + m + 4) = p + m + 4 by omega]
        exact hEd
       ·rw [hlen]
        congr 1
        omega
       ·rw [hlen]
        omega
      ·refine ⟨0, ⟨#[]⟩, [], (a : Int), false, start _ (Ev.bind g0 (Ev.bind g1 (Ev.bind g2 (Ev.neg (by simp) (Ev.bind hP (Ev.bind (Ev.const hQ) (Ev.neg (by rw [decide_eq_false he]; simp) (Ev.now _)))))))), by simp, bad True fun a' N s' t' r ha hr hk c1 c2 c3 => ?_⟩
       obtain rfl : a = a' := by omega
       have hb2 := cutB N s' t' r hr
       obtain ⟨k1, k2⟩ := cut N s' t' r hr
       obtain ⟨rfl, rfl, rfl, _⟩ := bodyB_inj (show bodyB v0 v1 v2 ++ B.drop p3 = bodyB N s' t' ++ [] by rw [List.append_nil, ← hBB, hb2])
       rw [if_pos ⟨hk, c1, c2⟩] at hW
       apply he
       rw [← hW]
       have hcl := commitB_length v0 v1 v2
       rw [← k1] at hcl
       exact (List.append_inj (hr.symm.trans hEd) (by rw [hcl, hEl])).1
end Go.Proofs.YtnlndmoecljicaaGreat.Q
end
section
namespace Go.Proofs.YtnlndmoecljicaaGreat.Q
open Go.RowKit Go.Proofs.YtnlndmoecljicaaGreatW.PrintWords Go.Proofs.YtnlndmoecljicaaGreatW.PrintLast Go.Proofs.YtnlndmoecljicaaGreatW.PrintMore
attribute [local go_sem] max2_int min2_int max_two min_two max_three min_three max_four min_four   -- for this text's walks alone
set_option linter.unusedVariables false
set_option linter.unusedSimpArgs false
def spec_GetCommit.j0 : Nat → List Int → Int → Int → Int → Bool → Option (Int × ByteArray × List ByteArray × Int × Bool)
 | 0, _, _, _, _, _ => none
 | k + 1, x0, x1, x8, x9, x39 => if x39 = true then (some (0, (⟨#[]⟩ : ByteArray), (([] : List ByteArray)), x1, false)) else (if 0 ≤ x9 then (if x9 ≤ (wrap64 (x9 + x8)) then (if (wrap64 (x9 + x8)) ≤ (x0.length : Int) then ((spec_GetNum.f k ((x0.take ((wrap64 (x9 + x8)) : Int).toNat).drop (x9 : Int).toNat) 0).bind fun bt609 => ((spec_GetText.f k ((x0.take ((wrap64 (x9 + x8)) : Int).toNat).drop (x9 : Int).toNat) bt609.2.1).bind fun bt612 => ((spec_GetTexts.f k ((x0.take ((wrap64 (x9 + x8)) : Int).toNat).drop (x9 : Int).toNat) bt612.2.1).bind fun bt615 => (if bt609.2.2 = true then (if bt612.2.2 = true then (if bt615.2.2 = true then (if bt615.2.1 = (((x0.take ((wrap64 (x9 + x8)) : Int).toNat).drop (x9 : Int).toNat).length : Int) then ((spec_HeadOk.f bt609.1 bt612.1).bind fun t621 => (if t621 = true then (if (bt615.1.length : Int) = 0 then (some (0, (⟨#[]⟩ : ByteArray), (([] : List ByteArray)), x1, false)) else (if 0 ≤ (wrap64 (x9 + x8)) then (if (wrap64 (x9 + x8)) ≤ (wrap64 ((wrap64 (x9 + x8)) + 4)) then (if (wrap64 ((wrap64 (x9 + x8)) + 4)) ≤ (x0.length : Int) then ((spec_Digest.f k ((x0.take ((wrap64 (x9 + x8)) : Int).toNat).drop (x9 : Int).toNat)).bind fun t626 => (if 0 ≤ 4 then (if 4 ≤ (t626.size : Int) then (if (strOfNums ((x0.take ((wrap64 ((wrap64 (x9 + x8)) + 4)) : Int).toNat).drop ((wrap64 (x9 + x8)) : Int).toNat)).toList = (t626.extract 0 4).toList then (some (bt609.1, bt612.1, bt615.1, wrap64 ((wrap64 (x9 + x8)) + 4), true)) else (some (0, (⟨#[]⟩ : ByteArray), (([] : List ByteArray)), x1, false))) else (none)) else (none))) else (none)) else (none)) else (none))) else (some (0, (⟨#[]⟩ : ByteArray), (([] : List ByteArray)), x1, false)))) else (some (0, (⟨#[]⟩ : ByteArray), (([] : List ByteArray)), x1, false))) else (some (0, (⟨#[]⟩ : ByteArray), (([] : List ByteArray)), x1, false))) else (some (0, (⟨#[]⟩ : ByteArray), (([] : List ByteArray)), x1, false))) else (some (0, (⟨#[]⟩ : ByteArray), (([] : List ByteArray)), x1, false)))))) else (none)) else (none)) else (none))
def spec_GetCommit.f (k : Nat) (l0 : List Int) (a1 : Int) : Option (Int × ByteArray × List ByteArray × Int × Bool) := (spec_GetNum.f k l0 a1).bind fun bt602 => (if bt602.2.2 = true then (spec_GetCommit.j0 k l0 a1 bt602.1 bt602.2.1 (decide (bt602.1 > (wrap64 ((wrap64 ((l0.length : Int) - bt602.2.1)) - 4))))) else (spec_GetCommit.j0 k l0 a1 bt602.1 bt602.2.1 true))
def spec_GetCommit.T9 : Bool × List (List Nat × List Nat) := (true, [([], []), ([0], [0]), ([1], [1]), ([2], [2]), ([3, 2], [2, 3]), ([2, 4], [2, 4]), ([5, 2], [5]), ([6], [6]), ([7, 6], [6, 7]), ([6, 8], [6, 8]), ([9, 6], [9]), ([10], [10]), ([10], [10]), ([12, 10], [10, 12]), ([11, 13, 10], [10, 11, 13]), ([10, 14], [10, 14]), ([15, 10], [15]), ([16], [16]), ([17, 16, 16], [16, 17]), ([18, 16], [16, 18]), ([16, 19], [16, 19]), ([20, 18], [20]), ([21], [21]), ([22, 21], [21, 22]), ([23, 21], [21, 23]), ([21, 24], [21, 24]), ([25, 21], [25]), ([26], [26]), ([26], [26]), ([26], [26]), ([28, 29, 26], [26, 28, 29]), ([26], [26]), ([26], [26]), ([31, 32, 26], [26, 31, 32]), ([33, 26], [26, 33]), ([27, 30, 34, 26], [26, 27, 30, 34]), ([35, 26], [26, 35]), ([26], [26]), ([37, 26, 26], [26, 37]), ([38, 26], [26, 38]), ([36, 39, 26], [26, 36, 39]), ([26, 40], [26, 40])])
def spec_GetCommit.B9 : List Nat := [0, 1, 3, 7, 15, 31, 63, 127, 255, 511, 1023, 2047, 2047, 6143, 16383, 32767, 65535, 131071, 262143, 524287, 1048575, 2097151, 4194303, 8388607, 16777215, 33554431, 67108863, 134217727, 134217727, 134217727, 939524095, 134217727, 134217727, 6576668671, 15166603263, 34359738367, 68719476735, 134217727, 137573171199, 412451078143, 1099511627775, 2199023255551]
theorem spec_GetCommit.tab9 : rtab .any (opsOf Tryz.f127 9) = spec_GetCommit.T9 := by kernel_rfl
theorem spec_GetCommit.bits9 : waitsOk spec_GetCommit.T9.2 spec_GetCommit.B9 = true := by kernel_rfl
def lb (m : Nat) : Array Bool := ((List.range 42).map fun i => Nat.testBit m i).toArray
theorem sT {α : Type} {l : List α} {i : Nat} {a : α} : l.toArray.setIfInBounds i a = (l.set i a).toArray := by simp
theorem sZ {α : Type} {x : α} {l : List α} {a : α} : (x :: l).set 0 a = a :: l := rfl
theorem sS {α : Type} {x : α} {l : List α} {i : Nat} {a : α} : (x :: l).set (i + 1) a = x :: l.set i a := rfl
set_option maxHeartbeats 8000000 in
set_option maxRecDepth 100000 in
theorem spec_GetCommit.calls (k : Nat) (A0 : Option Addr) (c0 : Nat) (l0 : List Int) (a1 : Int) (r1 : Int) (r2 : ByteArray) (r3 : List ByteArray) (r4 : Int) (r5 : Bool) (w : World) (hr0 : Kd.C (Kd.int .u8) w A0 l0.length l0) (hc0 : l0.length ≤ c0) (h : spec_GetCommit.f k l0 a1 = some (r1, r2, r3, r4, r5)) :
  Calls Tryz.prog 127 #[.slice A0 l0.length c0, .int .i64 a1] w fun e w' => ∃ v2_ : Value, e = .returned (.tuple #[.agg #[.int .i64 r1, .string r2], v2_, .int .i64 r4, .bool r5]) ∧ Kd.R Kd.string 9 w' w.heap.size (fun _ => True) v2_ r3 ∧ Below w.heap.size w w' := by
 have hu37 := Tryz.underlying37
 have HR0 := Aside0.mk hr0
 have HC0 := Aside0.mk hc0
 clear hr0 hc0
 have HB := Aside0.mk (Below.refl w.heap.size w)
 have H : ((spec_GetNum.f k l0 a1).bind fun bt602 => (if bt602.2.2 = true then (spec_GetCommit.j0 k l0 a1 bt602.1 bt602.2.1 (decide (bt602.1 > (wrap64 ((wrap64 ((l0.length : Int) - bt602.2.1)) - 4))))) else (spec_GetCommit.j0 k l0 a1 bt602.1 bt602.2.1 true))) = some (r1, r2, r3, r4, r5) := h
 clear h
 replace H := bi_ H; obtain ⟨⟨t602, t603, t604⟩, A3, H⟩ := H
 dsimp only at H
 have HC4 := Aside0.mk H
 clear H
 go_enter Tryz.func127, Tryz.ntmps127
 go_upto_region 2 with (first | ((with_reducible refine gd_ 4 ?_); (try (refine gate_guard (by rfl) ?_; dsimp only)); refine bx_ 4 37 #[.int .i64 0, .string (⟨#[]⟩ : ByteArray)] ?_; intro gb601 hg w5 hbox hb; have BK601 := Aside0.mk hbox; have GW601 := gg_ hg HB; have GE601 := GW601; replace HB := ss_ HB hb; clear hb hbox hg) | ((with_reducible refine gq_ 147 25 ?_); refine gc_ 25 Tryz.func147 (spec_GetNum.calls k _ _ l0 a1 t602 t603 t604 _ (cb_ HR0 HB) HC0.out A3.out) ?_; rintro e w' ⟨rfl, ⟨nd, rfl⟩⟩; refine ⟨_, rfl, ?_⟩))
 (try simp only [Act.put, List.setIfInBounds_toArray, List.set_cons_zero, List.set_cons_succ])
 go_cut [39] (fun v39 wc => ∃ (kq : Nat) (x39_3 : Bool), v39 = .bool x39_3 ∧ Aside0 (spec_GetCommit.j0 kq l0 a1 t602 t603 x39_3 = some (r1, r2, r3, r4, r5)) ∧ Aside0 (kq ≤ k) ∧ Aside0 (wc.heap[gb601]? = some (.cells #[.int .i64 0, .string (⟨#[]⟩ : ByteArray)] 37 (0, 0))) ∧ Aside0 (Below w.heap.size w wc))
 case first =>
  have H := HC4.out
  clear HC4
  replace H := itb_ H; obtain ⟨rfl, H⟩ | ⟨rfl, H⟩ := H
  ·have H' := Aside0.mk H
   clear H
   go_wp2
   go_meet
   case rel => exact ⟨_, (decide (t602 > (wrap64 ((wrap64 ((l0.length : Int) - t603)) - 4)))), e1_, H', ⟨le_⟩, ⟨kb_ BK601.out⟩, ⟨bw_ HB⟩⟩
  ·have H' := Aside0.mk H
   clear H
   go_wp2
   go_meet
   case rel => exact ⟨_, (true), e1_, H', ⟨le_⟩, ⟨kb_ BK601.out⟩, ⟨bw_ HB⟩⟩
 case rest =>
  clear HC4
  obtain ⟨kq, x39_3, rfl, HA, HJ3, BK601, HB⟩ := hcut
  cases kq with
  | zero => exact absurd HA.out (by simp [spec_GetCommit.j0])
  | succ kj3 =>
   have H := HA.out
   clear HA
   simp only [spec_GetCommit.j0] at H
   replace H := itb_ H; obtain ⟨rfl, H⟩ | ⟨rfl, H⟩ := H
   ·obtain ⟨y605, hy605⟩ : ∃ y_ : List ByteArray, y_ = (([] : List ByteArray)) := ⟨_, rfl⟩
    replace H : (some (0, (⟨#[]⟩ : ByteArray), y605, a1, false)) = some (r1, r2, r3, r4, r5) := yh_ hy605 H
    have Ny605 := Aside0.mk hy605
    clear hy605
    replace H := so5_ H; obtain ⟨rfl, rfl, rfl, rfl, rfl⟩ := H
    go_wp2_with (first | ((with_reducible refine gd_ 41 ?_); (try (refine gate_guard (by rfl) ?_; dsimp only)); refine rl_ Kd.string 9 41 ([] : List ByteArray) [] ?_; intro v606 w8 ho9 hb hg_ hnew_; clear hg_ hnew_; (first | rw [← Ny605.out] at ho9 | (simp only [Int.reduceToNat] at ho9; rw [← Ny605.out] at ho9)); have HO607 := Aside0.mk (Kd.R_lower ho9 (sz_ HB)); replace BK601 := kl_ BK601 hb; replace HB := ss_ HB hb; clear hb ho9; have hz10 := cz2_ BK601))
    refine bodyPost_ret (results_list (rs := [.cell 4 37, .tmp 5, .tmp 6, .tmp 7]) rfl (by simp) (.cell gb601 37 #[.int .i64 0, .string (⟨#[]⟩ : ByteArray)] (0, 0) _ rfl (by exact kq_ BK601) Tryz.underlying37 rfl (by kernel_rfl) (.tmp (.tmp (.tmp .nil))))) rfl ?_
    exact ⟨_, e2_, by (with_reducible repeat (first | apply Kd.R_alloc | apply Kd.R_drewN | apply Kd.R_drew)); exact Kd.R_mono (Kd.R_far (p := ⟨gb601, 1, none⟩) (Kd.R_far (p := ⟨gb601, 0, none⟩) (Kd.R_types HO607.out BK601.out (by decide)) (fun _ hk => hk.2) (.int .i64 0)) (fun _ hk => hk.2) (.string (⟨#[]⟩ : ByteArray))) (fun _ hk => trivial), bw_ HB⟩
   ·replace H := ip_ H; obtain ⟨c11, H⟩ := H
    have c11b0 := eq_true c11
    have c11b1 := decide_eq_true c11
    clear c11
    replace H := ip_ H; obtain ⟨c12, H⟩ := H
    have c12b0 := eq_true c12
    have c12b1 := decide_eq_true c12
    replace H := ip_ H; obtain ⟨c13, H⟩ := H
    have c13b0 := eq_true c13
    have c13b1 := decide_eq_true c13
    replace H := bi_ H; obtain ⟨⟨t609, t610, t611⟩, A14, H⟩ := H
    dsimp only at H
    replace H := bi_ H; obtain ⟨⟨t612, t613, t614⟩, A15, H⟩ := H
    dsimp only at H
    replace H := bi_ H; obtain ⟨⟨t615, t616, t617⟩, A16, H⟩ := H
    dsimp only at H
    obtain ⟨i0116, hi0116, _, hsz116, _⟩ := info_parts info5
    obtain ⟨A116, hcut116, hA116, hC116⟩ := print_mid_of (P := Tryz.prog) (Value.int .u8) 0 27 5 .i64 .i64 Tryz.underlying27 hi0116 hsz116 A0 c0 l0 t603 (wrap64 (t603 + t602)) (of_decide_eq_true as_) (by first | omega | exact of_decide_eq_true as_) (of_decide_eq_true as_) HC0.out
    have HR608 := Aside0.mk (Kd.C_of_reads (h1 := fun _ => rfl) (hA116 _ (Kd.reads_of_C HR0.out)))
    have HC608 := Aside0.mk hC116
    clear hA116 hC116 hi0116 hsz116
    try go_wp2_with (first | ((with_reducible refine gk_ 147 ?_); refine gl_ 51 Tryz.func147 #[.slice A116 ((l0.take ((wrap64 (t603 + t602)) : Int).toNat).drop (t603 : Int).toNat).length (c0 - t603.toNat), .int .i64 0] ?_ (hargs := (by (try simp only [List.map_toArray, List.map_cons, List.map_nil]); first | done | (rw [show ((l0.take ((wrap64 (t603 + t602)) : Int).toNat).drop (t603 : Int).toNat).length = ((wrap64 (t603 + t602)).toNat - t603.toNat) from (by rw [List.length_drop, List.length_take]; have h_ : ((wrap64 (t603 + t602)) : Int) ≤ (l0.length : Int) := of_decide_eq_true as_; omega)] <;> rfl) | rfl | (simp only [List.length_drop, List.length_take]; rfl))); (with_reducible refine (spec_GetNum.calls kj3 _ _ ((l0.take ((wrap64 (t603 + t602)) : Int).toNat).drop (t603 : Int).toNat) 0 t609 t610 t611 _ ?side1 ?side2 A14.out).mono ?_); (case side1 => exact cb_ HR608 HB); (case side2 => exact HC608.out); rintro e w' ⟨rfl, ⟨nd, rfl⟩⟩; refine ⟨_, rfl, ?_⟩; (try (rw [drewN_self wc]; generalize hq_ : World.drewN wc _ = wc; have n0_ : Aside0 (wc.heap[gb601]? = some (.cells #[.int .i64 0, .string (⟨#[]⟩ : ByteArray)] 37 (0, 0))) := ⟨by rw [← hq_]; exact (kb_ BK601.out)⟩; have n1_ : Aside0 (Below w.heap.size w wc) := ⟨by rw [← hq_]; exact (bw_ HB)⟩; clear BK601 HB hq_; have BK601 := n0_; have HB := n1_; clear n0_ n1_))) | ((with_reducible refine gk_ 148 ?_); refine gl_ 58 Tryz.func148 #[.slice A116 ((l0.take ((wrap64 (t603 + t602)) : Int).toNat).drop (t603 : Int).toNat).length (c0 - t603.toNat), .int .i64 t610] ?_ (hargs := (by (try simp only [List.map_toArray, List.map_cons, List.map_nil]); first | done | (rw [show ((l0.take ((wrap64 (t603 + t602)) : Int).toNat).drop (t603 : Int).toNat).length = ((wrap64 (t603 + t602)).toNat - t603.toNat) from (by rw [List.length_drop, List.length_take]; have h_ : ((wrap64 (t603 + t602)) : Int) ≤ (l0.length : Int) := of_decide_eq_true as_; omega)] <;> rfl) | rfl | (simp only [List.length_drop, List.length_take]; rfl))); (with_reducible refine (spec_GetText.calls kj3 _ _ ((l0.take ((wrap64 (t603 + t602)) : Int).toNat).drop (t603 : Int).toNat) t610 t612 t613 t614 _ ?side1 ?side2 A15.out).mono ?_); (case side1 => exact cb_ HR608 HB); (case side2 => exact HC608.out); rintro e w' ⟨rfl, ⟨nd, rfl⟩⟩; refine ⟨_, rfl, ?_⟩; (try (rw [drewN_self wc]; generalize hq_ : World.drewN wc _ = wc; have n0_ : Aside0 (wc.heap[gb601]? = some (.cells #[.int .i64 0, .string (⟨#[]⟩ : ByteArray)] 37 (0, 0))) := ⟨by rw [← hq_]; exact (kb_ BK601.out)⟩; have n1_ : Aside0 (Below w.heap.size w wc) := ⟨by rw [← hq_]; exact (bw_ HB)⟩; clear BK601 HB hq_; have BK601 := n0_; have HB := n1_; clear n0_ n1_))) | ((with_reducible refine gk_ 149 ?_); refine gl_ 65 Tryz.func149 #[.slice A116 ((l0.take ((wrap64 (t603 + t602)) : Int).toNat).drop (t603 : Int).toNat).length (c0 - t603.toNat), .int .i64 t613] ?_ (hargs := (by (try simp only [List.map_toArray, List.map_cons, List.map_nil]); first | done | (rw [show ((l0.take ((wrap64 (t603 + t602)) : Int).toNat).drop (t603 : Int).toNat).length = ((wrap64 (t603 + t602)).toNat - t603.toNat) from (by rw [List.length_drop, List.length_take]; have h_ : ((wrap64 (t603 + t602)) : Int) ≤ (l0.length : Int) := of_decide_eq_true as_; omega)] <;> rfl) | rfl | (simp only [List.length_drop, List.length_take]; rfl))); (with_reducible refine (spec_GetTexts.calls kj3 _ _ ((l0.take ((wrap64 (t603 + t602)) : Int).toNat).drop (t603 : Int).toNat) t613 t615 t616 t617 _ ?side1 ?side2 A16.out).mono ?_); (case side1 => exact cb_ HR608 HB); (case side2 => exact HC608.out); rintro e w117 ⟨v618, rfl, ho0, hb⟩; refine ⟨_, rfl, ?_⟩; have HO619 := Aside0.mk (Kd.R_lower ho0 (sz_ HB)); replace BK601 := kl_ BK601 hb; replace HB := ss_ HB hb; clear hb ho0) | ((with_reducible refine gd_ 21 ?_); (try (refine gate_guard (by rfl) ?_; dsimp only)); refine bx_ 21 37 #[.int .i64 0, .string (⟨#[]⟩ : ByteArray)] ?_; intro gb620 hg w118 hbox hb; replace HO619 := rb_ HO619 hb; have BK620 := Aside0.mk hbox; have GW620 := gg_ hg HB; have GE620 := GW620; replace HB := ss_ HB hb; have NB601_620 := nla_ hg BK601; have NB620_601 := nga_ hg BK601; replace BK601 := kl_ BK601 hb; clear hb hbox hg; have hnb119 := NB620_601.out; have hnc119 := NB601_620.out; have hz120 := cz2_ BK620))
    have n0_ : Aside0 (Kd.R Kd.string 9 ((w118.setCell ⟨gb620, 0, none⟩ (.int .i64 t609)).setCell ⟨gb620, 1, none⟩ (.string t612)) w.heap.size (fun _ => True) v618 t615) := ⟨by (with_reducible repeat (first | apply Kd.R_alloc | apply Kd.R_drewN | apply Kd.R_drew)); exact Kd.R_mono (Kd.R_far (p := ⟨gb620, 1, none⟩) (Kd.R_far (p := ⟨gb620, 0, none⟩) (Kd.R_types HO619.out BK620.out (by decide)) (fun _ hk => hk.2) (.int .i64 t609)) (fun _ hk => hk.2) (.string t612)) (fun _ hk => trivial)⟩
    have n1_ : Aside0 (((w118.setCell ⟨gb620, 0, none⟩ (.int .i64 t609)).setCell ⟨gb620, 1, none⟩ (.string t612)).heap[gb601]? = some (.cells #[.int .i64 0, .string (⟨#[]⟩ : ByteArray)] 37 (0, 0))) := ⟨kq_ BK601⟩
    have n2_ : Aside0 (((w118.setCell ⟨gb620, 0, none⟩ (.int .i64 t609)).setCell ⟨gb620, 1, none⟩ (.string t612)).heap[gb620]? = some (.cells #[.int .i64 t609, .string t612] 37 (0, 0))) := ⟨kq_ BK620⟩
    have n3_ : Aside0 (Below w.heap.size w ((w118.setCell ⟨gb620, 0, none⟩ (.int .i64 t609)).setCell ⟨gb620, 1, none⟩ (.string t612))) := ⟨bw_ HB⟩
    generalize ((w118.setCell ⟨gb620, 0, none⟩ (.int .i64 t609)).setCell ⟨gb620, 1, none⟩ (.string t612)) = w121 at n0_ n1_ n2_ n3_ ⊢
    have HO619 := n0_
    have BK601 := n1_
    have BK620 := n2_
    have HB := n3_
    clear n0_ n1_ n2_ n3_
    replace HO619 := Aside0.mk (Kd.R_drew HO619.out)
    replace BK601 := Aside0.mk (blk_drew BK601.out)
    replace BK620 := Aside0.mk (blk_drew BK620.out)
    replace HB := Aside0.mk (below_drew1 HB.out)
    obtain ⟨Ao52, co52, eo52⟩ := Kd.R_slice HO619.out
    subst eo52
    have hlenq : ((l0.take ((wrap64 (t603 + t602)) : Int).toNat).drop (t603 : Int).toNat).length = ((wrap64 (t603 + t602)).toNat - t603.toNat) := (by rw [List.length_drop, List.length_take]; have h_ : ((wrap64 (t603 + t602)) : Int) ≤ (l0.length : Int) := of_decide_eq_true as_; omega)
    refine start_ (n := 42) (S := fun w' => w'.cell? ⟨gb620, 0, none⟩ = some (.int .i64 t609) ∧ w'.cell? ⟨gb620, 1, none⟩ = some (.string t612) ∧ Kd.C (Kd.int .u8) w' A0 l0.length l0) (ds := []) (lz_ 42 0) (by kernel_rfl) rfl rfl ⟨bc0_ BK620.out, bc1_ BK620.out, Kd.C_below HR0.out HB.out⟩ (fun hHeld => ?_); refine with_tabW spec_GetCommit.tab9 spec_GetCommit.bits9 (fun HT_ HW_ => ?_)
    generalize w121.drew = w122 at HO619 BK601 BK620 HB hHeld ⊢
    refine join_ (σ := List Value) 0 (lz_ 42 4398046511103) (fun s => [(72, s.getD 0 undef), (73, s.getD 1 undef), (74, s.getD 2 undef), (75, s.getD 3 undef), (76, s.getD 4 undef), (77, s.getD 5 undef), (78, s.getD 6 undef), (79, s.getD 7 undef), (80, s.getD 8 undef), (81, s.getD 9 undef), (82, s.getD 10 undef), (83, s.getD 11 undef), (84, s.getD 12 undef), (85, s.getD 13 undef), (86, s.getD 14 undef), (87, s.getD 15 undef), (88, s.getD 16 undef), (89, s.getD 17 undef), (90, s.getD 18 undef), (91, s.getD 19 undef), (92, s.getD 20 undef), (93, s.getD 21 undef), (94, s.getD 22 undef), (95, s.getD 23 undef), (96, s.getD 24 undef), (97, s.getD 25 undef), (98, s.getD 26 undef), (99, s.getD 27 undef), (100, s.getD 28 undef), (101, s.getD 29 undef), (102, s.getD 30 undef), (103, s.getD 31 undef), (104, s.getD 32 undef), (105, s.getD 33 undef), (106, s.getD 34 undef), (107, s.getD 35 undef), (108, s.getD 36 undef), (109, s.getD 37 undef), (110, s.getD 38 undef), (111, s.getD 39 undef), (112, s.getD 40 undef), (113, .bool true)]) (fun (s : List Value) (w' : World) => some ((0 : Int), (⟨#[]⟩ : ByteArray), ([] : List ByteArray), a1, false) = some (r1, r2, r3, r4, r5) ∧ Kd.R Kd.string 9 w' w.heap.size (fun _ => True) (.slice Ao52 t615.length co52) t615 ∧ w'.heap[gb601]? = some (.cells #[.int .i64 0, .string (⟨#[]⟩ : ByteArray)] 37 (0, 0)) ∧ w'.heap[gb620]? = some (.cells #[.int .i64 t609, .string t612] 37 (0, 0)) ∧ Below w.heap.size w w') ?_ ?_
    rotate_left
    ·intro hJ41
     refine join_ (σ := List Value) 16 (lz_ 42 67108863) (fun s => [(72, s.getD 0 undef), (73, s.getD 1 undef), (74, s.getD 2 undef), (75, s.getD 3 undef), (76, s.getD 4 undef), (77, s.getD 5 undef), (78, s.getD 6 undef), (79, s.getD 7 undef), (80, s.getD 8 undef), (81, s.getD 9 undef), (82, s.getD 10 undef), (83, s.getD 11 undef), (84, s.getD 12 undef), (85, s.getD 13 undef), (86, s.getD 14 undef), (87, s.getD 15 undef), (88, s.getD 16 undef), (89, s.getD 17 undef), (90, s.getD 18 undef), (91, s.getD 19 undef), (92, s.getD 20 undef), (93, s.getD 21 undef), (94, s.getD 22 undef), (95, s.getD 23 undef), (96, s.getD 24 undef), (97, .bool true)]) (fun (s : List Value) (w' : World) => some ((0 : Int), (⟨#[]⟩ : ByteArray), ([] : List ByteArray), a1, false) = some (r1, r2, r3, r4, r5) ∧ Kd.R Kd.string 9 w' w.heap.size (fun _ => True) (.slice Ao52 t615.length co52) t615 ∧ w'.heap[gb601]? = some (.cells #[.int .i64 0, .string (⟨#[]⟩ : ByteArray)] 37 (0, 0)) ∧ w'.heap[gb620]? = some (.cells #[.int .i64 t609, .string t612] 37 (0, 0)) ∧ Below w.heap.size w w') ?_ ?_
     rotate_left
     ·intro hJ25
      refine join_ (σ := List Value) 21 (lz_ 42 2097151) (fun s => [(72, s.getD 0 undef), (73, s.getD 1 undef), (74, s.getD 2 undef), (75, s.getD 3 undef), (76, s.getD 4 undef), (77, s.getD 5 undef), (78, s.getD 6 undef), (79, s.getD 7 undef), (80, s.getD 8 undef), (81, s.getD 9 undef), (82, s.getD 10 undef), (83, s.getD 11 undef), (84, s.getD 12 undef), (85, s.getD 13 undef), (86, s.getD 14 undef), (87, s.getD 15 undef), (88, s.getD 16 undef), (89, s.getD 17 undef), (90, s.getD 18 undef), (91, s.getD 19 undef), (92, .bool true)]) (fun (s : List Value) (w' : World) => some ((0 : Int), (⟨#[]⟩ : ByteArray), ([] : List ByteArray), a1, false) = some (r1, r2, r3, r4, r5) ∧ Kd.R Kd.string 9 w' w.heap.size (fun _ => True) (.slice Ao52 t615.length co52) t615 ∧ w'.heap[gb601]? = some (.cells #[.int .i64 0, .string (⟨#[]⟩ : ByteArray)] 37 (0, 0)) ∧ w'.heap[gb620]? = some (.cells #[.int .i64 t609, .string t612] 37 (0, 0)) ∧ Below w.heap.size w w') ?_ ?_
      rotate_left
      ·intro hJ20
       refine join_ (σ := List Value) 26 (lz_ 42 65535) (fun s => [(72, s.getD 0 undef), (73, s.getD 1 undef), (74, s.getD 2 undef), (75, s.getD 3 undef), (76, s.getD 4 undef), (77, s.getD 5 undef), (78, s.getD 6 undef), (79, s.getD 7 undef), (80, s.getD 8 undef), (81, s.getD 9 undef), (82, s.getD 10 undef), (83, s.getD 11 undef), (84, s.getD 12 undef), (85, s.getD 13 undef), (86, s.getD 14 undef), (87, .bool true)]) (fun (s : List Value) (w' : World) => some ((0 : Int), (⟨#[]⟩ : ByteArray), ([] : List ByteArray), a1, false) = some (r1, r2, r3, r4, r5) ∧ Kd.R Kd.string 9 w' w.heap.size (fun _ => True) (.slice Ao52 t615.length co52) t615 ∧ w'.heap[gb601]? = some (.cells #[.int .i64 0, .string (⟨#[]⟩ : ByteArray)] 37 (0, 0)) ∧ w'.heap[gb620]? = some (.cells #[.int .i64 t609, .string t612] 37 (0, 0)) ∧ Below w.heap.size w w') ?_ ?_
       rotate_left
       ·intro hJ15
        refine join_ (σ := List Value) 32 (lz_ 42 1023) (fun s => [(72, s.getD 0 undef), (73, s.getD 1 undef), (74, s.getD 2 undef), (75, s.getD 3 undef), (76, s.getD 4 undef), (77, s.getD 5 undef), (78, s.getD 6 undef), (79, s.getD 7 undef), (80, s.getD 8 undef), (81, .bool true)]) (fun (s : List Value) (w' : World) => some ((0 : Int), (⟨#[]⟩ : ByteArray), ([] : List ByteArray), a1, false) = some (r1, r2, r3, r4, r5) ∧ Kd.R Kd.string 9 w' w.heap.size (fun _ => True) (.slice Ao52 t615.length co52) t615 ∧ w'.heap[gb601]? = some (.cells #[.int .i64 0, .string (⟨#[]⟩ : ByteArray)] 37 (0, 0)) ∧ w'.heap[gb620]? = some (.cells #[.int .i64 t609, .string t612] 37 (0, 0)) ∧ Below w.heap.size w w') ?_ ?_
        rotate_left
        ·intro hJ9
         refine join_ (σ := List Value) 36 (lz_ 42 63) (fun s => [(72, s.getD 0 undef), (73, s.getD 1 undef), (74, s.getD 2 undef), (75, s.getD 3 undef), (76, s.getD 4 undef), (77, .bool true)]) (fun (s : List Value) (w' : World) => some ((0 : Int), (⟨#[]⟩ : ByteArray), ([] : List ByteArray), a1, false) = some (r1, r2, r3, r4, r5) ∧ Kd.R Kd.string 9 w' w.heap.size (fun _ => True) (.slice Ao52 t615.length co52) t615 ∧ w'.heap[gb601]? = some (.cells #[.int .i64 0, .string (⟨#[]⟩ : ByteArray)] 37 (0, 0)) ∧ w'.heap[gb620]? = some (.cells #[.int .i64 t609, .string t612] 37 (0, 0)) ∧ Below w.heap.size w w') ?_ ?_
         rotate_left
         ·intro hJ5
          cases t611 with
          | false =>
           rw [if_neg (by decide)] at H
           refine pts_ 0 72 1 ?_
           refine pts_ 1 73 3 ?_
           refine pts_ 2 74 7 ?_
           refine uts_ 3 75 15 ?_
           refine uts_ 4 76 31 ?_
           refine pts_ 5 77 63 ?_
           exact njs_ (hJ5 [_, _, _, _, _] _ ⟨H, (kr_ HO619.out), (kb_ BK601.out), (kb_ BK620.out), (bw_ HB)⟩)
          | true =>
           rw [if_pos rfl] at H
           refine pts_ 0 72 1 ?_
           refine pts_ 1 73 3 ?_
           refine pts_ 2 74 7 ?_
           cases t614 with
           | false =>
            rw [if_neg (by decide)] at H
            refine pts_ 3 75 15 ?_
            refine pts_ 4 76 31 ?_
            refine pts_ 5 77 63 ?_
            exact njs_ (hJ5 [_, _, _, _, _] _ ⟨H, (kr_ HO619.out), (kb_ BK601.out), (kb_ BK620.out), (bw_ HB)⟩)
           | true =>
            rw [if_pos rfl] at H
            refine pts_ 3 75 15 ?_
            refine pts_ 4 76 31 ?_
            refine pts_ 5 77 63 ?_
            cases t617 with
            | false =>
             rw [if_neg (by decide)] at H
             refine pts_ 6 78 127 ?_
             refine pts_ 7 79 255 ?_
             refine pts_ 8 80 511 ?_
             refine pts_ 9 81 1023 ?_
             exact njs_ (hJ9 [_, _, _, _, _, _, _, _, _] _ ⟨H, (kr_ HO619.out), (kb_ BK601.out), (kb_ BK620.out), (bw_ HB)⟩)
            | true =>
             rw [if_pos rfl] at H
             refine pts_ 6 78 127 ?_
             refine pts_ 7 79 255 ?_
             refine pts_ 8 80 511 ?_
             refine pts_ 9 81 1023 ?_
             refine pts_ 10 82 2047 ?_
             replace H := it_ H; obtain ⟨c20, H⟩ | ⟨c20, H⟩ := H
             ·have c20b0 : (t616 == (((l0.take ((wrap64 (t603 + t602)) : Int).toNat).drop (t603 : Int).toNat).length : Int)) = true := beq_iff_eq.mpr c20
              have c20b1 : (t616 != (((l0.take ((wrap64 (t603 + t602)) : Int).toNat).drop (t603 : Int).toNat).length : Int)) = false := bne_eq_false_iff_eq.mpr c20
              have c20n0 := c20b0
              rw [hlenq] at c20n0
              have c20n1 := c20b1
              rw [hlenq] at c20n1
              refine pts_ 11 83 4095 ?_
              refine pts_ 12 84 8191 ?_
              refine pts_ 13 85 16383 ?_
              refine pts_ 14 86 32767 ?_
              refine pts_ 15 87 65535 ?_
              refine pts_ 16 88 131071 ?_
              replace H := bi_ H; obtain ⟨t621, A21, H⟩ := H
              refine tts_ 17 89 262143 ?_
              refine one_ (i := 18) (N := some 90) (lz_ 42 524287) rfl rfl (one_of HT_.out (by kernel_rfl)) (by decide) (fun K hK => ?_)
              refine goes_ Tryz.func74 (by kernel_rfl) rfl #[.agg #[.int .i64 t609, .string t612]] (by rfl) rfl rfl (by (try simp only [List.map_toArray, List.map_cons, List.map_nil]); first | done | (rw [hlenq] <;> rfl) | rfl) ?_
              with_reducible refine (spec_HeadOk.calls t609 t612 t621 _ A21.out).mono ?_
              rintro e w51 ⟨rfl, hb⟩
              refine ⟨_, rfl, ?_⟩
              have n0_ := rb_ HO619 hb
              have n1_ := Aside0.mk (blk_below BK601.out hb)
              have n2_ := Aside0.mk (blk_below BK620.out hb)
              have n3_ := Aside0.mk (below_step HB.out hb)
              clear HO619 BK601 BK620 HB
              have HO619 := n0_
              have BK601 := n1_
              have BK620 := n2_
              have HB := n3_
              clear n0_ n1_ n2_ n3_
              clear hb
              refine hK.out _ _ ⟨bc0_ BK620.out, bc1_ BK620.out, Kd.C_below HR0.out HB.out⟩ (fun hHeld => ?_)
              clear hK K
              refine nos_ 90 ?_
              cases t621 with
              | false =>
               rw [if_neg (by decide)] at H
               refine pts_ 19 91 1048575 ?_
               refine pts_ 20 92 2097151 ?_
               exact njs_ (hJ20 [_, _, _, _, _, _, _, _, _, _, _, _, _, _, _, _, _, _, _, _] _ ⟨H, (kr_ HO619.out), (kb_ BK601.out), (kb_ BK620.out), (bw_ HB)⟩)
              | true =>
               rw [if_pos rfl] at H
               refine pts_ 19 91 1048575 ?_
               refine pts_ 20 92 2097151 ?_
               refine pts_ 21 93 4194303 ?_
               replace H := it_ H; obtain ⟨c23, H⟩ | ⟨c23, H⟩ := H
               ·have c23b0 : ((t615.length : Int) == 0) = true := beq_iff_eq.mpr c23
                have c23b1 : ((t615.length : Int) != 0) = false := bne_eq_false_iff_eq.mpr c23
                have c23b2 : t615 = [] := List.eq_nil_of_length_eq_zero (by omega)
                refine pts_ 22 94 8388607 ?_
                refine pts_ 23 95 16777215 ?_
                refine pts_ 24 96 33554431 ?_
                refine pts_ 25 97 67108863 ?_
                exact njs_ (hJ25 [_, _, _, _, _, _, _, _, _, _, _, _, _, _, _, _, _, _, _, _, _, _, _, _, _] _ ⟨H, (kr_ HO619.out), (kb_ BK601.out), (kb_ BK620.out), (bw_ HB)⟩)
               ·have c23b0 : ((t615.length : Int) == 0) = false := beq_eq_false_iff_ne.mpr c23
                have c23b1 : ((t615.length : Int) != 0) = true := bne_iff_ne.mpr c23
                have c23b2 : ¬ (t615 = []) := fun h_ => c23 (by rw [h_]; rfl)
                refine pts_ 22 94 8388607 ?_
                refine pts_ 23 95 16777215 ?_
                refine pts_ 24 96 33554431 ?_
                refine pts_ 25 97 67108863 ?_
                refine pts_ 26 98 134217727 ?_
                replace H := ip_ H; obtain ⟨c37, H⟩ := H
                have c37b0 := eq_true c37
                have c37b1 := decide_eq_true c37
                replace H := ip_ H; obtain ⟨c38, H⟩ := H
                have c38b0 := eq_true c38
                have c38b1 := decide_eq_true c38
                replace H := ip_ H; obtain ⟨c39, H⟩ := H
                have c39b0 := eq_true c39
                have c39b1 := decide_eq_true c39
                obtain ⟨t626, A400, H⟩ := Option.bind_eq_some_iff.mp H
                have A40 := Aside0.mk A400
                clear A400
                rw [if_pos (by decide)] at H
                replace H := ip_ H; obtain ⟨c42, H⟩ := H
                have c41b0 := eq_true (show (0 : Int) ≤ 4 by decide)
                have c41b1 : decide ((0 : Int) ≤ 4) = true := by decide
                have c42b0 := eq_true c42
                have c42b1 := decide_eq_true c42
                obtain ⟨i053, hi053, _, hsz53, _⟩ := info_parts info5
                obtain ⟨A53, hcut53, hA53, hC53⟩ := print_mid_of (P := Tryz.prog) (Value.int .u8) 0 27 5 .i64 .i64 Tryz.underlying27 hi053 hsz53 A0 c0 l0 (wrap64 (t603 + t602)) (wrap64 ((wrap64 (t603 + t602)) + 4)) c37 c38 c39 HC0.out
                have hleno : ((l0.take ((wrap64 ((wrap64 (t603 + t602)) + 4)) : Int).toNat).drop ((wrap64 (t603 + t602)) : Int).toNat).length = ((wrap64 ((wrap64 (t603 + t602)) + 4)).toNat - (wrap64 (t603 + t602)).toNat) := by rw [List.length_drop, List.length_take]; omega
                have hcut54 := hcut53
                simp only [hleno] at hcut54
                clear hi053 hsz53 hC53
                refine pts_ 27 99 268435455 ?_
                refine pts_ 28 100 536870911 ?_
                refine pts_ 29 101 1073741823 ?_
                refine pts_ 30 102 2147483647 ?_
                refine pts_ 31 103 4294967295 ?_
                refine pts_ 32 104 8589934591 ?_
                refine pts_ 33 105 17179869183 ?_
                refine pts_ 34 106 34359738367 ?_
                refine pts_ 35 107 68719476735 ?_
                refine take_ (i := 36) (N := some 108) (v := ?_) (a' := ?_) (lz_ 42 137438953471) rfl rfl (take_ofW HT_.out HW_.out (by kernel_rfl)) (fun _ _ _ h => h) (Or.inl ⟨by rfl, ?_⟩) hHeld ?_ ?_
                rotate_left
                ·rintro w' ⟨s0, s1, s2⟩
                 have hcv := Kd.C_string (P := Tryz.prog) (A := A53) (c := (c0 - (wrap64 (t603 + t602)).toNat)) Tryz.underlying27 Tryz.underlying5 Tryz.underlying9 (Kd.C_of_reads (h1 := fun _ => rfl) (hA53 _ (Kd.reads_of_C s2)))
                 have hcw := hcv
                 rw [hleno] at hcw
                 go_simp
                 with_reducible rfl
                rotate_left
                ·simp only [Act.put, sT, sZ, sS, i64_w, i32_w]
                 rfl
                refine pts_ 37 109 274877906943 ?_
                refine one_ (i := 38) (N := some 110) (lz_ 42 549755813887) rfl rfl (one_of HT_.out (by kernel_rfl)) (by decide) (fun K hK => ?_)
                refine goes_ Tryz.func119 (by kernel_rfl) rfl #[.slice A116 ((l0.take ((wrap64 (t603 + t602)) : Int).toNat).drop (t603 : Int).toNat).length (c0 - t603.toNat)] (by rfl) rfl rfl (by (try simp only [List.map_toArray, List.map_cons, List.map_nil]); first | done | (rw [hlenq] <;> rfl) | rfl) ?_
                with_reducible refine (spec_Digest.calls kj3 _ _ ((l0.take ((wrap64 (t603 + t602)) : Int).toNat).drop (t603 : Int).toNat) t626 _ ?side1 ?side2 A40.out).mono ?_
                (case side1 => exact cb_ HR608 HB)
                (case side2 => exact HC608.out)
                rintro e w55 ⟨rfl, hb⟩
                refine ⟨_, rfl, ?_⟩
                have n0_ := rb_ HO619 hb
                have n1_ := Aside0.mk (blk_below BK601.out hb)
                have n2_ := Aside0.mk (blk_below BK620.out hb)
                have n3_ := Aside0.mk (below_step HB.out hb)
                clear HO619 BK601 BK620 HB
                have HO619 := n0_
                have BK601 := n1_
                have BK620 := n2_
                have HB := n3_
                clear n0_ n1_ n2_ n3_
                clear hb
                refine hK.out _ _ ⟨bc0_ BK620.out, bc1_ BK620.out, Kd.C_below HR0.out HB.out⟩ (fun hHeld => ?_)
                clear hK K
                refine nos_ 110 ?_
                replace H := it_ H; obtain ⟨c43, H⟩ | ⟨c43, H⟩ := H
                ·have c43b0 : ((strOfNums ((l0.take ((wrap64 ((wrap64 (t603 + t602)) + 4)) : Int).toNat).drop ((wrap64 (t603 + t602)) : Int).toNat)).toList == (t626.extract 0 4).toList) = true := beq_iff_eq.mpr c43
                 have c43b1 : ((strOfNums ((l0.take ((wrap64 ((wrap64 (t603 + t602)) + 4)) : Int).toNat).drop ((wrap64 (t603 + t602)) : Int).toNat)).toList != (t626.extract 0 4).toList) = false := bne_eq_false_iff_eq.mpr c43
                 clear c43
                 replace H := so5_ H; obtain ⟨rfl, rfl, rfl, rfl, rfl⟩ := H
                 refine pts_ 39 111 1099511627775 ?_
                 refine pts_ 40 112 2199023255551 ?_
                 refine pts_ 41 113 4398046511103 ?_
                 refine done_ (done_of HT_.out (by kernel_rfl)) ?_
                 have hz57 := cz2_ BK620
                 have hz58 := cz2_ BK601
                 try go_wp2
                 refine bodyPost_ret (results_list (rs := [.cell 4 37, .tmp 5, .tmp 6, .tmp 7]) rfl (by simp) (.cell gb601 37 #[.int .i64 t609, .string t612] (0, 0) _ rfl (by exact kq_ BK601) Tryz.underlying37 rfl (by kernel_rfl) (.tmp (.tmp (.tmp .nil))))) rfl ?_
                 exact ⟨_, by first | rfl | (simp [errW_none, errW_some] <;> rfl) | (first | rfl | (simp [errW_none, errW_some] <;> rfl)) | (simp [*, errW_none, errW_some] <;> rfl), by (with_reducible repeat (first | apply Kd.R_alloc | apply Kd.R_drewN | apply Kd.R_drew)); exact Kd.R_mono (Kd.R_far (p := ⟨gb601, 1, none⟩) (Kd.R_far (p := ⟨gb601, 0, none⟩) (Kd.R_types HO619.out BK601.out (by decide)) (fun _ hk => hk.2) (.int .i64 t609)) (fun _ hk => hk.2) (.string t612)) (fun _ hk => trivial), bw_ HB⟩
                ·have c43b0 : ((strOfNums ((l0.take ((wrap64 ((wrap64 (t603 + t602)) + 4)) : Int).toNat).drop ((wrap64 (t603 + t602)) : Int).toNat)).toList == (t626.extract 0 4).toList) = false := beq_eq_false_iff_ne.mpr c43
                 have c43b1 : ((strOfNums ((l0.take ((wrap64 ((wrap64 (t603 + t602)) + 4)) : Int).toNat).drop ((wrap64 (t603 + t602)) : Int).toNat)).toList != (t626.extract 0 4).toList) = true := bne_iff_ne.mpr c43
                 refine pts_ 39 111 1099511627775 ?_
                 refine pts_ 40 112 2199023255551 ?_
                 refine pts_ 41 113 4398046511103 ?_
                 exact njs_ (hJ41 [_, _, _, _, _, _, _, _, _, _, _, _, _, _, _, _, _, _, _, _, _, _, _, _, _, _, _, _, _, _, _, _, _, _, _, _, _, _, _, _, _] _ ⟨H, (kr_ HO619.out), (kb_ BK601.out), (kb_ BK620.out), (bw_ HB)⟩)
             ·have c20b0 : (t616 == (((l0.take ((wrap64 (t603 + t602)) : Int).toNat).drop (t603 : Int).toNat).length : Int)) = false := beq_eq_false_iff_ne.mpr c20
              have c20b1 : (t616 != (((l0.take ((wrap64 (t603 + t602)) : Int).toNat).drop (t603 : Int).toNat).length : Int)) = true := bne_iff_ne.mpr c20
              have c20n0 := c20b0
              rw [hlenq] at c20n0
              have c20n1 := c20b1
              rw [hlenq] at c20n1
              refine pts_ 11 83 4095 ?_
              refine pts_ 12 84 8191 ?_
              refine pts_ 13 85 16383 ?_
              refine pts_ 14 86 32767 ?_
              refine pts_ 15 87 65535 ?_
              exact njs_ (hJ15 [_, _, _, _, _, _, _, _, _, _, _, _, _, _, _] _ ⟨H, (kr_ HO619.out), (kb_ BK601.out), (kb_ BK620.out), (bw_ HB)⟩)
         ·rintro s w122 ⟨H, hF0, hF1, hF2, hF3⟩
          have HO619 := Aside0.mk hF0
          have BK601 := Aside0.mk hF1
          have BK620 := Aside0.mk hF2
          have HB := Aside0.mk hF3
          clear hF0 hF1 hF2 hF3
          refine norm_ (a' := ?_) ?_ ?_
          rotate_left
          ·simp only [putAll, Act.put, sT, sZ, sS]
           rfl
          refine pts_ 6 78 127 ?_
          refine uts_ 7 79 255 ?_
          refine uts_ 8 80 511 ?_
          refine pts_ 9 81 1023 ?_
          exact njs_ (hJ9 [_, _, _, _, _, _, _, _, _] _ ⟨H, (kr_ HO619.out), (kb_ BK601.out), (kb_ BK620.out), (bw_ HB)⟩)
        ·rintro s w122 ⟨H, hF0, hF1, hF2, hF3⟩
         have HO619 := Aside0.mk hF0
         have BK601 := Aside0.mk hF1
         have BK620 := Aside0.mk hF2
         have HB := Aside0.mk hF3
         clear hF0 hF1 hF2 hF3
         refine norm_ (a' := ?_) ?_ ?_
         rotate_left
         ·simp only [putAll, Act.put, sT, sZ, sS]
          rfl
         refine pts_ 10 82 2047 ?_
         refine uts_ 11 83 4095 ?_
         refine uts_ 12 84 8191 ?_
         refine uts_ 13 85 16383 ?_
         refine uts_ 14 86 32767 ?_
         refine pts_ 15 87 65535 ?_
         exact njs_ (hJ15 [_, _, _, _, _, _, _, _, _, _, _, _, _, _, _] _ ⟨H, (kr_ HO619.out), (kb_ BK601.out), (kb_ BK620.out), (bw_ HB)⟩)
       ·rintro s w122 ⟨H, hF0, hF1, hF2, hF3⟩
        have HO619 := Aside0.mk hF0
        have BK601 := Aside0.mk hF1
        have BK620 := Aside0.mk hF2
        have HB := Aside0.mk hF3
        clear hF0 hF1 hF2 hF3
        refine norm_ (a' := ?_) ?_ ?_
        rotate_left
        ·simp only [putAll, Act.put, sT, sZ, sS]
         rfl
        refine pts_ 16 88 131071 ?_
        refine uts_ 17 89 262143 ?_
        refine uts_ 18 90 524287 ?_
        refine uts_ 19 91 1048575 ?_
        refine pts_ 20 92 2097151 ?_
        exact njs_ (hJ20 [_, _, _, _, _, _, _, _, _, _, _, _, _, _, _, _, _, _, _, _] _ ⟨H, (kr_ HO619.out), (kb_ BK601.out), (kb_ BK620.out), (bw_ HB)⟩)
      ·rintro s w122 ⟨H, hF0, hF1, hF2, hF3⟩
       have HO619 := Aside0.mk hF0
       have BK601 := Aside0.mk hF1
       have BK620 := Aside0.mk hF2
       have HB := Aside0.mk hF3
       clear hF0 hF1 hF2 hF3
       refine norm_ (a' := ?_) ?_ ?_
       rotate_left
       ·simp only [putAll, Act.put, sT, sZ, sS]
        rfl
       refine pts_ 21 93 4194303 ?_
       refine uts_ 22 94 8388607 ?_
       refine uts_ 23 95 16777215 ?_
       refine uts_ 24 96 33554431 ?_
       refine pts_ 25 97 67108863 ?_
       exact njs_ (hJ25 [_, _, _, _, _, _, _, _, _, _, _, _, _, _, _, _, _, _, _, _, _, _, _, _, _] _ ⟨H, (kr_ HO619.out), (kb_ BK601.out), (kb_ BK620.out), (bw_ HB)⟩)
     ·rintro s w122 ⟨H, hF0, hF1, hF2, hF3⟩
      have HO619 := Aside0.mk hF0
      have BK601 := Aside0.mk hF1
      have BK620 := Aside0.mk hF2
      have HB := Aside0.mk hF3
      clear hF0 hF1 hF2 hF3
      refine norm_ (a' := ?_) ?_ ?_
      rotate_left
      ·simp only [putAll, Act.put, sT, sZ, sS]
       rfl
      refine pts_ 26 98 134217727 ?_
      refine uts_ 27 99 268435455 ?_
      refine uts_ 28 100 536870911 ?_
      refine uts_ 29 101 1073741823 ?_
      refine uts_ 30 102 2147483647 ?_
      refine uts_ 31 103 4294967295 ?_
      refine uts_ 32 104 8589934591 ?_
      refine uts_ 33 105 17179869183 ?_
      refine uts_ 34 106 34359738367 ?_
      refine uts_ 35 107 68719476735 ?_
      refine uts_ 36 108 137438953471 ?_
      refine uts_ 37 109 274877906943 ?_
      refine uts_ 38 110 549755813887 ?_
      refine uts_ 39 111 1099511627775 ?_
      refine uts_ 40 112 2199023255551 ?_
      refine pts_ 41 113 4398046511103 ?_
      exact njs_ (hJ41 [_, _, _, _, _, _, _, _, _, _, _, _, _, _, _, _, _, _, _, _, _, _, _, _, _, _, _, _, _, _, _, _, _, _, _, _, _, _, _, _, _] _ ⟨H, (kr_ HO619.out), (kb_ BK601.out), (kb_ BK620.out), (bw_ HB)⟩)
    ·rintro s w122 ⟨H, hF0, hF1, hF2, hF3⟩
     have HO619 := Aside0.mk hF0
     have BK601 := Aside0.mk hF1
     have BK620 := Aside0.mk hF2
     have HB := Aside0.mk hF3
     clear hF0 hF1 hF2 hF3
     refine norm_ (a' := ?_) ?_ ?_
     rotate_left
     ·simp only [putAll, Act.put, sT, sZ, sS]
      rfl
     obtain ⟨y642, hy642⟩ : ∃ y_ : List ByteArray, y_ = ([] : List ByteArray) := ⟨_, rfl⟩
     rw [← hy642] at H
     have Ny642 := Aside0.mk hy642
     clear hy642
     replace H := so5_ H; obtain ⟨rfl, rfl, rfl, rfl, rfl⟩ := H
     refine done_ (done_of HT_.out (by kernel_rfl)) ?_
     try go_wp2_with (first | ((with_reducible refine gd_ 115 ?_); (try (refine gate_guard (by rfl) ?_; dsimp only)); refine rl_ Kd.string 9 115 ([] : List ByteArray) [] ?_; intro v643 w123 ho124 hb hg_ hnew_; clear hg_ hnew_; (first | rw [← Ny642.out] at ho124 | (simp only [Int.reduceToNat] at ho124; rw [← Ny642.out] at ho124)); have HO644 := Aside0.mk (Kd.R_lower (Kd.R_new' ho124 (lt_ HO619)) (sz_ HB)); replace HO619 := re_ HO619 ho124 hb; replace BK601 := kl_ BK601 hb; replace BK620 := kl_ BK620 hb; replace HB := ss_ HB hb; clear hb ho124; have hz125 := cz2_ BK601))
     refine bodyPost_ret (results_list (rs := [.cell 4 37, .tmp 5, .tmp 6, .tmp 7]) rfl (by simp) (.cell gb601 37 #[.int .i64 0, .string (⟨#[]⟩ : ByteArray)] (0, 0) _ rfl (by exact kq_ BK601) Tryz.underlying37 rfl (by kernel_rfl) (.tmp (.tmp (.tmp .nil))))) rfl ?_
     exact ⟨_, e2_, by (with_reducible repeat (first | apply Kd.R_alloc | apply Kd.R_drewN | apply Kd.R_drew)); exact Kd.R_mono (Kd.R_far (p := ⟨gb601, 1, none⟩) (Kd.R_far (p := ⟨gb601, 0, none⟩) (Kd.R_types HO644.out BK601.out (by decide)) (fun _ hk => hk.2) (.int .i64 0)) (fun _ hk => hk.2) (.string (⟨#[]⟩ : ByteArray))) (fun _ hk => trivial), bw_ HB⟩
end Go.Proofs.YtnlndmoecljicaaGreat.Q
end
section
namespace Go.Proofs.YtnlndmoecljicaaGreat.Q
open Go.RowKit Go.Proofs.YtnlndmoecljicaaGreat.B Go.Proofs.YtnlndmoecljicaaGreatW.PrintWords Go.Proofs.YtnlndmoecljicaaGreatW.PrintMore
set_option linter.unusedVariables false
set_option linter.unusedSimpArgs false
theorem nums_bytes (s : ByteArray) : strOfNums (bytesOf s) = s := bytesOf_inj (bytes_nums _ (inB_text s))
theorem sum_iff {G : List Int} (hG : InB G) (B : List Int) : (strOfNums G).toList = ((sha B).extract 0 4).toList ↔ G = sumB B := by
 unfold sumB
 constructor
 ·intro h
  rw [← bytes_nums G hG, bytes_ext h]
 ·intro h
  rw [h, nums_bytes]
set_option maxHeartbeats 1000000 in
theorem getCommitS (b : List Int) (hb : InB b) (hl : b.length ≤ 10000000) (at_ : Int) (h0 : -9223372036854775808 ≤ at_) (h1 : at_ ≤ 9223372036854775807) :
  ∃ n s t nx ok, Ev (fun q => spec_GetCommit.f q b at_) (n, s, t, nx, ok) ∧ t.length ≤ 200 ∧ CommitOf b at_ n s t nx ok := by
 obtain ⟨m, x, ok, e2, _, hN⟩ := getNum_both b hb (by omega) at_ h0 h1
 have jT : ∀ m x : Int, Ev (fun q => spec_GetCommit.j0 q b at_ m x true) (0, (⟨#[]⟩ : ByteArray), ([] : List ByteArray), at_, false) := fun m x => by
  refine Ev.step (fun q => by simp only [spec_GetCommit.j0]; rfl) ?_
  exact Ev.pos trivial (Ev.now _)
 have bad : ∀ P : Prop, (∀ (a N : Nat) (s' : ByteArray) (t' : List ByteArray) r, at_ = (a : Int) → b.drop a = commitB N s' t' ++ r → headOk (N : Int) s' = true → 1 ≤ t'.length → t'.length ≤ 200 → (∀ x ∈ t', x.size ≤ 1000000000) → False) → CommitOf b at_ 0 ⟨#[]⟩ [] at_ false := fun _ h => ⟨fun q => (by cases q), fun _ => ⟨rfl, rfl, rfl, rfl, h⟩⟩
 unfold spec_GetCommit.f
 cases ok with
 | false =>
  obtain ⟨rfl, rfl, h3⟩ := hN.1 rfl
  refine ⟨0, ⟨#[]⟩, [], at_, false, Ev.bind e2 (Ev.neg (by simp) (jT _ _)), by simp, bad True fun a N s' t' r ha hr _ _ _ _ => ?_⟩
  unfold commitB at hr
  rw [List.append_assoc] at hr
  refine h3 a _ _ ha hr ?_
  have := congrArg List.length hr
  simp only [List.length_append, List.length_drop] at this
  omega
 | true =>
  obtain ⟨a, m, rfl, rfl, hm, hd, rfl, hle⟩ := hN.2 rfl
  have hp1 := num_pos m
  obtain ⟨p, hp⟩ : ∃ p, a + (num m).length = p := ⟨_, rfl⟩
  rw [hp] at e2 hd hle
  clear hN
  have cut : ∀ (N : Nat) (s' : ByteArray) (t' : List ByteArray) r, b.drop a = commitB N s' t' ++ r → m = (bodyB N s' t').length ∧ b.drop p = bodyB N s' t' ++ (sumB (bodyB N s' t') ++ r) := fun N s' t' r hr => by
   unfold commitB at hr
   rw [hd, List.append_assoc, List.append_assoc] at hr
   exact num_inj _ _ _ _ hr
  have w1 : wrap64 ((b.length : Int) - (p : Int)) = (b.length : Int) - (p : Int) := w64 (by omega) (by omega)
  have w2 : wrap64 ((b.length : Int) - (p : Int) - 4) = (b.length : Int) - (p : Int) - 4 := w64 (by omega) (by omega)
  by_cases hg : (m : Int) > (b.length : Int) - (p : Int) - 4
  ·refine ⟨0, ⟨#[]⟩, [], (a : Int), false, ?_, by simp, bad True fun a' N s' t' r ha hr _ _ _ _ => ?_⟩
   ·refine Ev.bind e2 (Ev.pos rfl ?_)
    simp only [w1, w2, decide_eq_true hg]
    exact jT _ _
   ·obtain rfl : a = a' := by omega
    obtain ⟨k1, k2⟩ := cut N s' t' r hr
    have := congrArg List.length k2
    simp only [List.length_append, List.length_drop, sumB_length] at this
    omega
  ·have w3 : wrap64 ((p : Int) + (m : Int)) = ((p + m : Nat) : Int) := by
    rw [w64 (by omega) (by omega)]
    omega
   have w4 : wrap64 (((p + m : Nat) : Int) + 4) = ((p + m + 4 : Nat) : Int) := by
    rw [w64 (by omega) (by omega)]
    omega
   have t1 : ((p + m : Nat) : Int).toNat = p + m := Int.toNat_natCast _
   have t2 : (p : Int).toNat = p := Int.toNat_natCast _
   have t3 : ((p + m + 4 : Nat) : Int).toNat = p + m + 4 := Int.toNat_natCast _
   obtain ⟨B, hB⟩ : ∃ B, (b.take (p + m)).drop p = B := ⟨_, rfl⟩
   have hB2 : B = (b.drop p).take m := by
    rw [← hB, List.drop_take]
    congr 1
    omega
   have hBl : B.length = m := by
    rw [hB2, List.length_take, List.length_drop]
    omega
   have hBb : InB B := by
    rw [hB2]
    exact inB_take (inB_drop hb p) m
   obtain ⟨G, hG⟩ : ∃ G, (b.take (p + m + 4)).drop (p + m) = G := ⟨_, rfl⟩
   have hGb : InB G := by
    rw [← hG]
    exact inB_drop (inB_take hb _) _
   have hBG : b.drop p = B ++ (G ++ b.drop (p + m + 4)) := by
    have i1 : b.drop p = (b.drop p).take m ++ (b.drop p).drop m := (List.take_append_drop _ _).symm
    have i2 : b.drop (p + m) = (b.drop (p + m)).take 4 ++ (b.drop (p + m)).drop 4 := (List.take_append_drop _ _).symm
    have i3 : G = (b.drop (p + m)).take 4 := by
     rw [← hG, List.drop_take]
     congr 1
     omega
    rw [List.drop_drop] at i1 i2
    rw [← i3] at i2
    rw [← hB2, i2] at i1
    exact i1
   have cutB : ∀ (N : Nat) (s' : ByteArray) (t' : List ByteArray) r, b.drop a = commitB N s' t' ++ r → B = bodyB N s' t' ∧ G = sumB (bodyB N s' t') := fun N s' t' r hr => by
    obtain ⟨k1, k2⟩ := cut N s' t' r hr
    rw [hBG] at k2
    obtain ⟨k3, k4⟩ := List.append_inj k2 (by rw [hBl, k1])
    refine ⟨k3, (List.append_inj k4 ?_).1⟩
    rw [sumB_length, ← hG, List.length_drop, List.length_take]
    omega
   have start : ∀ r, Ev (fun q => (spec_GetNum.f q B 0).bind fun bt609 => ((spec_GetText.f q B bt609.2.1).bind fun bt612 => ((spec_GetTexts.f q B bt612.2.1).bind fun bt615 => (if bt609.2.2 = true then (if bt612.2.2 = true then (if bt615.2.2 = true then (if bt615.2.1 = (B.length : Int) then ((spec_HeadOk.f bt609.1 bt612.1).bind fun t621 => (if t621 = true then (if (bt615.1.length : Int) = 0 then (some (0, (⟨#[]⟩ : ByteArray), (([] : List ByteArray)), (a : Int), false)) else ((spec_Digest.f q B).bind fun t626 => (if 4 ≤ (t626.size : Int) then (if (strOfNums G).toList = (t626.extract 0 4).toList then (some (bt609.1, bt612.1, bt615.1, ((p + m + 4 : Nat) : Int), true)) else (some (0, (⟨#[]⟩ : ByteArray), (([] : List ByteArray)), (a : Int), false))) else (none)))) else (some (0, (⟨#[]⟩ : ByteArray), (([] : List ByteArray)), (a : Int), false)))) else (some (0, (⟨#[]⟩ : ByteArray), (([] : List ByteArray)), (a : Int), false))) else (some (0, (⟨#[]⟩ : ByteArray), (([] : List ByteArray)), (a : Int), false))) else (some (0, (⟨#[]⟩ : ByteArray), (([] : List ByteArray)), (a : Int), false))) else (some (0, (⟨#[]⟩ : ByteArray), (([] : List ByteArray)), (a : Int), false)))))) r → Ev (fun q => (spec_GetNum.f q b (a : Int)).bind fun bt602 => (if bt602.2.2 = true then (spec_GetCommit.j0 q b (a : Int) bt602.1 bt602.2.1 (decide (bt602.1 > (wrap64 ((wrap64 ((b.length : Int) - bt602.2.1)) - 4))))) else (spec_GetCommit.j0 q b (a : Int) bt602.1 bt602.2.1 true))) r := fun r hr => by
    refine Ev.bind e2 (Ev.pos rfl ?_)
    simp only [w1, w2, decide_eq_false hg]
    have i1 : (0 : Int) ≤ ((p + m : Nat) : Int) := by omega
    have i2 : ((p + m : Nat) : Int) ≤ ((p + m + 4 : Nat) : Int) := by omega
    have i3 : ((p + m + 4 : Nat) : Int) ≤ (b.length : Int) := by omega
    have i4 : (0 : Nat) ≤ 4 := by decide
    refine Ev.step (fun q => by simp only [spec_GetCommit.j0, w3, w4, t1, t2, t3, hB, hG, if_pos i1, if_pos i2, if_pos i3, if_pos i4]; rfl) ?_
    exact Ev.neg (by simp) (Ev.pos (by omega) (Ev.pos (by omega) (Ev.pos (by omega) hr)))
   rcases num_step B hBb (by omega) 0 (by omega) with ⟨g0, _, z0⟩ | ⟨v0, p1, q0, l0, y0, r0, g0, _⟩
   ·obtain ⟨u1, x1, o1, s1, r1⟩ := text_any B hBb (by omega) 0 (by omega)
    obtain ⟨u2, x2, o2, s2, r2⟩ := texts_any B hBb (by omega) x1 (by omega)
    refine ⟨0, ⟨#[]⟩, [], (a : Int), false, start _ (Ev.bind g0 (Ev.bind s1 (Ev.bind s2 (Ev.neg (by simp) (Ev.now _))))), by simp, bad True fun a' N s' t' r ha hr hk c1 c2 c3 => ?_⟩
    obtain rfl : a = a' := by omega
    have hh := headOk_parts hk
    exact z0 N _ (show B.drop 0 = num N ++ (textB s' ++ textsB t') from (cutB N s' t' r hr).1) (by omega)
   ·rcases text_step B hBb (by omega) p1 (by omega) with ⟨g1, _, z1⟩ | ⟨v1, p2, q1, l1, y1, r1, g1, _⟩
    ·obtain ⟨u2, x2, o2, s2, r2⟩ := texts_any B hBb (by omega) 0 (by omega)
     refine ⟨0, ⟨#[]⟩, [], (a : Int), false, start _ (Ev.bind g0 (Ev.bind g1 (Ev.bind s2 (Ev.pos rfl (Ev.neg (by simp) (Ev.now _)))))), by simp, bad True fun a' N s' t' r ha hr hk c1 c2 c3 => ?_⟩
     obtain rfl : a = a' := by omega
     have hh := headOk_parts hk
     have d0 : B.drop 0 = num N ++ (textB s' ++ textsB t') := (cutB N s' t' r hr).1
     have d1 := (num_inj _ _ _ _ (y0.symm.trans d0)).2
     exact z1 s' _ d1 (by omega)
    ·rcases texts_step B hBb (by omega) p2 (by omega) with ⟨g2, _, z2⟩ | ⟨v2, p3, q2, s2, l2, y2, r2, g2, _⟩
     ·refine ⟨0, ⟨#[]⟩, [], (a : Int), false, start _ (Ev.bind g0 (Ev.bind g1 (Ev.bind g2 (Ev.pos rfl (Ev.pos rfl (Ev.neg (by simp) (Ev.now _))))))), by simp, bad True fun a' N s' t' r ha hr hk c1 c2 c3 => ?_⟩
      obtain rfl : a = a' := by omega
      have d0 : B.drop 0 = num N ++ (textB s' ++ textsB t') := (cutB N s' t' r hr).1
      have d1 := (num_inj _ _ _ _ (y0.symm.trans d0)).2
      have d2 := (textB_inj (y1.symm.trans d1)).2
      exact z2 t' [] (by rw [List.append_nil]; exact d2) c2 c3
     ·have hBB : B = bodyB v0 v1 v2 ++ B.drop p3 := by
       have e : B.drop 0 = num v0 ++ (textB v1 ++ (textsB v2 ++ B.drop p3)) := by rw [y0, y1, y2]
       unfold bodyB
       simp only [List.append_assoc]
       exact e
      have same : ∀ (N : Nat) (s' : ByteArray) (t' : List ByteArray) r, b.drop a = commitB N s' t' ++ r → v0 = N ∧ v1 = s' ∧ v2 = t' ∧ B.drop p3 = [] ∧ G = sumB B := fun N s' t' r hr => by
       obtain ⟨k1, k2⟩ := cutB N s' t' r hr
       obtain ⟨h1, h2, h3, h4⟩ := bodyB_inj (show bodyB v0 v1 v2 ++ B.drop p3 = bodyB N s' t' ++ [] by rw [List.append_nil, ← hBB, k1])
       exact ⟨h1, h2, h3, h4, by rw [k1]; exact k2⟩
      have hD := spec_Digest_ev B (by omega) hBb
      have hsz : (sha B).size = 32 := sha_size _
      by_cases hp3 : (p3 : Int) = (B.length : Int)
      ·have hnil : B.drop p3 = [] := List.drop_eq_nil_of_le (by omega)
       rw [hnil, List.append_nil] at hBB
       by_cases hk : headOk (v0 : Int) v1 = true
       ·by_cases hz : (v2.length : Int) = 0
        ·refine ⟨0, ⟨#[]⟩, [], (a : Int), false, start _ (Ev.bind g0 (Ev.bind g1 (Ev.bind g2 (Ev.pos rfl (Ev.pos rfl (Ev.pos rfl (Ev.pos hp3 (Ev.bind (Ev.const (spec_HeadOk_eq _ _)) (Ev.pos hk (Ev.pos hz (Ev.now _))))))))))), by simp, bad True fun a' N s' t' r ha hr hk2 c1 c2 c3 => ?_⟩
         obtain rfl : a = a' := by omega
         obtain ⟨_, _, rfl, _⟩ := same N s' t' r hr
         omega
        ·by_cases hsum : (strOfNums G).toList = ((sha B).extract 0 4).toList
         ·have hGs := (sum_iff hGb B).1 hsum
          have hlen : (commitB v0 v1 v2).length = (num m).length + m + 4 := by rw [commitB_length, ← hBB, hBl]
          refine ⟨(v0 : Int), v1, v2, ((p + m + 4 : Nat) : Int), true, start _ (Ev.bind g0 (Ev.bind g1 (Ev.bind g2 (Ev.pos rfl (Ev.pos rfl (Ev.pos rfl (Ev.pos hp3 (Ev.bind (Ev.const (spec_HeadOk_eq _ _)) (Ev.pos hk (Ev.neg hz (Ev.bind hD (Ev.pos (by omega) (Ev.pos hsum (Ev.now _)))))))))))))), q2, fun _ => ⟨a, v0, rfl, rfl, hk, by omega, ?_, ?_, ?_⟩, fun h => (by cases h)⟩
          ·rw [hlen, show a + ((num m).length + m + 4) = p + m + 4 by omega, hd, hBG, hGs]
           unfold commitB
           rw [← hBB, hBl]
           simp only [List.append_assoc]
          ·rw [hlen]
           congr 1
           omega
          ·rw [hlen]
           omega
         ·refine ⟨0, ⟨#[]⟩, [], (a : Int), false, start _ (Ev.bind g0 (Ev.bind g1 (Ev.bind g2 (Ev.pos rfl (Ev.pos rfl (Ev.pos rfl (Ev.pos hp3 (Ev.bind (Ev.const (spec_HeadOk_eq _ _)) (Ev.pos hk (Ev.neg hz (Ev.bind hD (Ev.pos (by omega) (Ev.neg hsum (Ev.now _)))))))))))))), by simp, bad True fun a' N s' t' r ha hr hk2 c1 c2 c3 => ?_⟩
          obtain rfl : a = a' := by omega
          obtain ⟨_, _, _, _, h5⟩ := same N s' t' r hr
          exact hsum ((sum_iff hGb B).2 h5)
       ·refine ⟨0, ⟨#[]⟩, [], (a : Int), false, start _ (Ev.bind g0 (Ev.bind g1 (Ev.bind g2 (Ev.pos rfl (Ev.pos rfl (Ev.pos rfl (Ev.pos hp3 (Ev.bind (Ev.const (spec_HeadOk_eq _ _)) (Ev.neg hk (Ev.now _)))))))))), by simp, bad True fun a' N s' t' r ha hr hk2 c1 c2 c3 => ?_⟩
        obtain rfl : a = a' := by omega
        obtain ⟨rfl, rfl, _⟩ := same N s' t' r hr
        exact hk hk2
      ·refine ⟨0, ⟨#[]⟩, [], (a : Int), false, start _ (Ev.bind g0 (Ev.bind g1 (Ev.bind g2 (Ev.pos rfl (Ev.pos rfl (Ev.pos rfl (Ev.neg hp3 (Ev.now _)))))))), by simp, bad True fun a' N s' t' r ha hr hk2 c1 c2 c3 => ?_⟩
       obtain rfl : a = a' := by omega
       obtain ⟨_, _, _, h4, _⟩ := same N s' t' r hr
       have := congrArg List.length h4
       rw [List.length_drop] at this
       simp only [List.length_nil] at this
       omega
theorem commit_small {b : List Int} {a N : Nat} {s : ByteArray} {t : List ByteArray} {r : List Int} (hl : b.length ≤ 10000000) (h : b.drop a = commitB N s t ++ r) : ∀ x ∈ t, x.size ≤ 1000000000 := fun x hx => by
 have h1 := congrArg List.length h
 rw [List.length_drop, List.length_append, commitB_length] at h1
 have h2 := bodyB_ge N s t
 have h3 := total_mem hx
 omega
theorem getCommit_both (b : List Int) (hb : InB b) (hl : b.length ≤ 10000000) (at_ : Int) (h0 : -9223372036854775808 ≤ at_) (h1 : at_ ≤ 9223372036854775807) :
  ∃ n s t nx ok, Ev (fun q => spec_GetCommit.f q b at_) (n, s, t, nx, ok) ∧ Ev (fun q => impl_GetCommit.f q b at_) (n, s, t, nx, ok) ∧ t.length ≤ 200 := by
 obtain ⟨n, s, t, nx, ok, e1, ht, c1, c2⟩ := getCommitI b hb hl at_ h0 h1
 obtain ⟨n', s', t', nx', ok', e2, ht', d1, d2⟩ := getCommitS b hb hl at_ h0 h1
 cases ok with
 | true =>
  obtain ⟨a, N, rfl, rfl, hk, hz, hd, rfl, hle⟩ := c1 rfl
  cases ok' with
  | true =>
   obtain ⟨a', N', ha, rfl, hk', hz', hd', rfl, hle'⟩ := d1 rfl
   obtain rfl : a = a' := by omega
   obtain ⟨rfl, rfl, rfl, _⟩ := commitB_inj (hd.symm.trans hd')
   exact ⟨_, _, _, _, _, e2, e1, ht⟩
  | false => exact absurd ((d2 rfl).2.2.2.2 a N s t _ rfl hd hk hz ht (commit_small hl hd)) id
 | false =>
  obtain ⟨rfl, rfl, rfl, rfl, c3⟩ := c2 rfl
  cases ok' with
  | true =>
   obtain ⟨a', N', rfl, rfl, hk', hz', hd', rfl, hle'⟩ := d1 rfl
   exact absurd (c3 a' N' s' t' _ rfl hd' hk' hz' ht' (commit_small hl hd')) id
  | false =>
   obtain ⟨rfl, rfl, rfl, rfl, _⟩ := d2 rfl
   exact ⟨_, _, _, _, _, e2, e1, ht⟩
end Go.Proofs.YtnlndmoecljicaaGreat.Q
end
section
namespace Go.Proofs.YtnlndmoecljicaaGreat.Q
open Go.RowKit Go.Proofs.YtnlndmoecljicaaGreatW.PrintWords Go.Proofs.YtnlndmoecljicaaGreatW.PrintLast Go.Proofs.YtnlndmoecljicaaGreatW.PrintMore
attribute [local go_sem] max2_int min2_int max_two min_two max_three min_three max_four min_four   -- for this text's walks alone
set_option linter.unusedVariables false
set_option linter.unusedSimpArgs false
def impl_rootOf.f : Nat → List ByteArray → Option (ByteArray)
 | 0, _ => none
 | k + 1, l0 => if (l0.length : Int) = 0 then ((impl_Digest.f ([] : List Int)).bind fun t601 => (some t601)) else (if (l0.length : Int) = 1 then (if 0 < (l0.length : Int) then ((impl_LeafHash.f (rdOf ByteArray.empty l0 0)).bind fun t603 => (some t603)) else (none)) else ((impl_half.f k (l0.length : Int)).bind fun t604 => (if 0 ≤ t604 then (if t604 ≤ (l0.length : Int) then ((impl_rootOf.f k (l0.take (t604 : Int).toNat)).bind fun t606 => ((impl_rootOf.f k (l0.drop (t604 : Int).toNat)).bind fun t608 => ((impl_NodeHash.f t606 t608).bind fun t609 => (some t609)))) else (none)) else (none))))
def impl_rootOf.T7 : Bool × List (List Nat × List Nat) := (true, [([], []), ([], []), ([0, 1], [0, 1]), ([2], [2]), ([], []), ([], []), ([4, 5], [4, 5]), ([6, 3], [6]), ([3, 7, 7], [3, 7]), ([8, 8, 0, 1, 2, 3, 4, 5, 6, 7, 8], [8])])
def impl_rootOf.B7 : List Nat := [0, 0, 3, 7, 0, 0, 48, 127, 255, 511]
theorem impl_rootOf.tab7 : rtab .any (opsOf Tryz.f103 7) = impl_rootOf.T7 := by kernel_rfl
theorem impl_rootOf.bits7 : waitsOk impl_rootOf.T7.2 impl_rootOf.B7 = true := by kernel_rfl
set_option maxHeartbeats 8000000 in
set_option maxRecDepth 100000 in
theorem impl_rootOf.calls (k : Nat) : ∀ (A0 : Option Addr) (c0 : Nat) (l0 : List ByteArray) (r : ByteArray) (w : World) (hr0 : Kd.C Kd.string w A0 l0.length l0) (hc0 : l0.length ≤ c0) (h : impl_rootOf.f k l0 = some r),
  Calls Tryz.prog 103 #[.slice A0 l0.length c0] w fun e w' => e = .returned (.string r) ∧ Below w.heap.size w w' := by
 induction k using Nat.strongRecOn with
 | _ k ih =>
 intro A0 c0 l0 r w hr0 hc0 h
 cases k with
 | zero => exact absurd h (by simp [impl_rootOf.f])
 | succ k =>
 simp only [impl_rootOf.f] at h
 have HR0 := Aside0.mk hr0
 have HC0 := Aside0.mk hc0
 clear hr0 hc0
 have HB := Aside0.mk (Below.refl w.heap.size w)
 have H : (if (l0.length : Int) = 0 then ((impl_Digest.f ([] : List Int)).bind fun t601 => (some t601)) else (if (l0.length : Int) = 1 then (if 0 < (l0.length : Int) then ((impl_LeafHash.f (rdOf ByteArray.empty l0 0)).bind fun t603 => (some t603)) else (none)) else ((impl_half.f k (l0.length : Int)).bind fun t604 => (if 0 ≤ t604 then (if t604 ≤ (l0.length : Int) then ((impl_rootOf.f k (l0.take (t604 : Int).toNat)).bind fun t606 => ((impl_rootOf.f k (l0.drop (t604 : Int).toNat)).bind fun t608 => ((impl_NodeHash.f t606 t608).bind fun t609 => (some t609)))) else (none)) else (none))))) = some r := h
 clear h
 replace H := it_ H; obtain ⟨c2, H⟩ | ⟨c2, H⟩ := H
 ·have c2b0 : ((l0.length : Int) == 0) = true := beq_iff_eq.mpr c2
  have c2b1 : ((l0.length : Int) != 0) = false := bne_eq_false_iff_eq.mpr c2
  clear c2
  replace H := bi_ H; obtain ⟨t601, A3, H⟩ := H
  obtain rfl := Option.some.inj H
  go_enter Tryz.func103, Tryz.ntmps103
  go_wp2_with (first | ((with_reducible refine gk_ 133 ?_); refine gl_ 8 Tryz.func133 #[.slice none 0 0] ?_; (refine (impl_Digest.calls _ _ ([] : List Int) t601 _ ?side1 ?side2 A3.out).mono ?_); (case side1 => exact Kd.C_nil _ _); (case side2 => exact Nat.le_refl _); rintro e w4 ⟨rfl, hb⟩; refine ⟨_, rfl, ?_⟩; replace HB := ss_ HB hb; clear hb))
  go_ret
  exact ⟨e2_, bw_ HB⟩
 ·have c2b0 : ((l0.length : Int) == 0) = false := beq_eq_false_iff_ne.mpr c2
  have c2b1 : ((l0.length : Int) != 0) = true := bne_iff_ne.mpr c2
  have c2b2 : ¬ (l0 = []) := fun h_ => c2 (by rw [h_]; rfl)
  replace H := it_ H; obtain ⟨c5, H⟩ | ⟨c5, H⟩ := H
  ·have c5b0 : ((l0.length : Int) == 1) = true := beq_iff_eq.mpr c5
   have c5b1 : ((l0.length : Int) != 1) = false := bne_eq_false_iff_eq.mpr c5
   clear c5
   replace H := ip_ H; obtain ⟨c6, H⟩ := H
   have c6b0 := decide_eq_true c6
   have c6b1 : decide (0 < l0.length) = true := decide_eq_true (by omega)
   clear c6
   replace H := bi_ H; obtain ⟨t603, A7, H⟩ := H
   obtain rfl := Option.some.inj H
   have p602 : 0 ≤ (0 : Int) := (by omega)
   have q602 : 0 < (l0.length : Int) := of_decide_eq_true as_
   obtain ⟨ad602, e602, hx602_0⟩ := Kd.at_string HR0.out 0 p602 q602
   cases e602
   have qi602 : (0 < l0.length) = True := eq_true (by omega)
   (try rw [show ((0 : Int)).toNat = 0 from rfl] at hx602_0)
   (try rw [Addr.add_zero'] at hx602_0)
   replace p602 := eq_true p602
   replace q602 := eq_true q602
   go_enter Tryz.func103, Tryz.ntmps103
   go_wp2_with (first | ((with_reducible refine gq_ 134 14 ?_); refine gc_ 14 Tryz.func134 (impl_LeafHash.calls (rdOf ByteArray.empty l0 0) t603 _ A7.out) ?_; rintro e w8 ⟨rfl, hb⟩; refine ⟨_, rfl, ?_⟩; replace HB := ss_ HB hb; clear hb))
   go_ret
   exact ⟨e2_, bw_ HB⟩
  ·have c5b0 : ((l0.length : Int) == 1) = false := beq_eq_false_iff_ne.mpr c5
   have c5b1 : ((l0.length : Int) != 1) = true := bne_iff_ne.mpr c5
   replace H := bi_ H; obtain ⟨t604, A9, H⟩ := H
   replace H := ip_ H; obtain ⟨c10, H⟩ := H
   have c10b0 := eq_true c10
   have c10b1 := decide_eq_true c10
   clear c10
   replace H := ip_ H; obtain ⟨c11, H⟩ := H
   have c11b0 := eq_true c11
   have c11b1 := decide_eq_true c11
   clear c11
   replace H := bi_ H; obtain ⟨t606, A12, H⟩ := H
   have c13b0 := eq_true (of_decide_eq_true as_ : 0 ≤ t604)
   have c14b0 := eq_true (of_decide_eq_true as_ : t604 ≤ (l0.length : Int))
   replace H := bi_ H; obtain ⟨t608, A15, H⟩ := H
   replace H := bi_ H; obtain ⟨t609, A16, H⟩ := H
   obtain rfl := Option.some.inj H
   go_enter Tryz.func103, Tryz.ntmps103
   try go_wp2_with (first | ((with_reducible refine gq_ 135 17 ?_); refine gc_ 17 Tryz.func135 (impl_half.calls k (l0.length : Int) t604 _ A9.out) ?_; rintro e w17 ⟨rfl, hb⟩; refine ⟨_, rfl, ?_⟩; replace HB := ss_ HB hb; clear hb))
   replace HB := Aside0.mk (below_drew1 HB.out)
   obtain ⟨i019, hi019, _, hsz19, _⟩ := info_parts info9
   obtain ⟨hcut19, hA19, hC19⟩ := print_take_of (P := Tryz.prog) Value.string (⟨#[]⟩ : ByteArray) 22 9 .i64 Tryz.underlying22 hi019 hsz19 A0 c0 l0 t604 (of_decide_eq_true as_) (of_decide_eq_true as_) HC0.out
   have HR605 := Aside0.mk (Kd.C_of_reads (h1 := fun _ => rfl) (hA19 _ (Kd.reads_of_C HR0.out)))
   have HC605 := Aside0.mk hC19
   clear hA19 hC19 hi019 hsz19
   obtain ⟨i020, hi020, _, hsz20, _⟩ := info_parts info9
   obtain ⟨A20, hcut20, hA20, hC20⟩ := print_drop_of (P := Tryz.prog) Value.string (⟨#[]⟩ : ByteArray) 22 9 .i64 Tryz.underlying22 hi020 hsz20 A0 c0 l0 t604 (of_decide_eq_true as_) (of_decide_eq_true as_) HC0.out
   have HR607 := Aside0.mk (Kd.C_of_reads (h1 := fun _ => rfl) (hA20 _ (Kd.reads_of_C HR0.out)))
   have HC607 := Aside0.mk hC20
   clear hA20 hC20 hi020 hsz20
   refine start_ (n := 10) (S := fun w' => True) (ds := []) (lz_ 10 0) (by kernel_rfl) rfl rfl trivial (fun hHeld => ?_); refine with_tabW impl_rootOf.tab7 impl_rootOf.bits7 (fun HT_ HW_ => ?_)
   generalize w17.drew = w18 at HB HR605 HR607 hHeld ⊢
   refine pt_ 0 18 1 ?_
   refine pt_ 1 19 3 ?_
   refine pt_ 2 20 7 ?_
   refine pt_ 4 22 23 ?_
   refine pt_ 5 23 55 ?_
   refine pt_ 6 24 119 ?_
   refine one_ (i := 3) (N := some 21) (lz_ 10 127) rfl rfl (one_of HT_.out (by kernel_rfl)) (by decide) (fun K hK => ?_)
   refine goes_ Tryz.func103 (by kernel_rfl) rfl #[.slice A0 (l0.take (t604 : Int).toNat).length c0] (by rfl) rfl rfl (by (try simp only [List.map_toArray, List.map_cons, List.map_nil]); first | done | (rw [show (l0.take (t604 : Int).toNat).length = t604.toNat from (by rw [List.length_take]; have h_ : (t604 : Int) ≤ (l0.length : Int) := of_decide_eq_true as_; omega)] <;> rfl) | rfl | (simp only [List.length_drop, List.length_take]; rfl)) ?_
   with_reducible refine (ih k (by omega) _ _ (l0.take (t604 : Int).toNat) t606 _ ?side1 ?side2 A12.out).mono ?_
   (case side1 => exact cb_ HR605 HB)
   (case side2 => exact HC605.out)
   rintro e w21 ⟨rfl, hb⟩
   refine ⟨_, rfl, ?_⟩
   replace HB := ss_ HB hb
   clear hb
   refine hK.out _ _ trivial (fun hHeld => ?_)
   clear hK K
   refine no_ 21 ?_
   refine one_ (i := 7) (N := some 25) (lz_ 10 255) rfl rfl (one_of HT_.out (by kernel_rfl)) (by decide) (fun K hK => ?_)
   refine goes_ Tryz.func103 (by kernel_rfl) rfl #[.slice A20 (l0.drop (t604 : Int).toNat).length (c0 - t604.toNat)] (by rfl) rfl rfl (by (try simp only [List.map_toArray, List.map_cons, List.map_nil]); first | done | (rw [show (l0.drop (t604 : Int).toNat).length = (l0.length - t604.toNat) from List.length_drop] <;> rfl) | rfl | (simp only [List.length_drop, List.length_take]; rfl)) ?_
   with_reducible refine (ih k (by omega) _ _ (l0.drop (t604 : Int).toNat) t608 _ ?side1 ?side2 A15.out).mono ?_
   (case side1 => exact cb_ HR607 HB)
   (case side2 => exact HC607.out)
   rintro e w22 ⟨rfl, hb⟩
   refine ⟨_, rfl, ?_⟩
   replace HB := ss_ HB hb
   clear hb
   refine hK.out _ _ trivial (fun hHeld => ?_)
   clear hK K
   refine no_ 25 ?_
   refine one_ (i := 8) (N := some 26) (lz_ 10 511) rfl rfl (one_of HT_.out (by kernel_rfl)) (by decide) (fun K hK => ?_)
   refine gf_ Tryz.func136 (impl_NodeHash.calls t606 t608 t609 _ A16.out) ?_
   rintro e w23 ⟨rfl, hb⟩
   refine ⟨_, rfl, ?_⟩
   replace HB := ss_ HB hb
   clear hb
   refine hK.out _ _ trivial (fun hHeld => ?_)
   clear hK K
   refine no_ 26 ?_
   refine pt_ 9 2 1023 ?_
   refine done_ (done_of HT_.out (by kernel_rfl)) ?_
   try go_wp2
   go_ret
   exact ⟨e2_, bw_ HB⟩
def spec_l6Root.f : Nat → List ByteArray → Option (ByteArray)
 | 0, _ => none
 | k + 1, l0 => if (l0.length : Int) = 0 then ((spec_Digest.f k (([] : List Int))).bind fun t604 => (some t604)) else (if (l0.length : Int) = 1 then (if 0 < (l0.length : Int) then ((spec_LeafHash.f k (rdOf ByteArray.empty l0 0)).bind fun t606 => (some t606)) else (none)) else ((spec_l6Half.f k (l0.length : Int)).bind fun t607 => (if 0 ≤ t607 then (if t607 ≤ (l0.length : Int) then ((spec_l6Root.f k (l0.take (t607 : Int).toNat)).bind fun t609 => ((spec_l6Root.f k (l0.drop (t607 : Int).toNat)).bind fun t611 => ((spec_NodeHash.f k t609 t611).bind fun t612 => (some t612)))) else (none)) else (none))))
def spec_l6Root.T7 : Bool × List (List Nat × List Nat) := (true, [([], []), ([], []), ([0, 1], [0, 1]), ([2], [2]), ([], []), ([], []), ([4, 5], [4, 5]), ([6, 3], [6]), ([3, 7, 7], [3, 7]), ([8, 8, 0, 1, 2, 3, 4, 5, 6, 7, 8], [8])])
def spec_l6Root.B7 : List Nat := [0, 0, 3, 7, 0, 0, 48, 127, 255, 511]
theorem spec_l6Root.tab7 : rtab .any (opsOf Tryz.f138 7) = spec_l6Root.T7 := by kernel_rfl
theorem spec_l6Root.bits7 : waitsOk spec_l6Root.T7.2 spec_l6Root.B7 = true := by kernel_rfl
set_option maxHeartbeats 8000000 in
set_option maxRecDepth 100000 in
theorem spec_l6Root.calls (k : Nat) : ∀ (A0 : Option Addr) (c0 : Nat) (l0 : List ByteArray) (r : ByteArray) (w : World) (hr0 : Kd.C Kd.string w A0 l0.length l0) (hc0 : l0.length ≤ c0) (h : spec_l6Root.f k l0 = some r),
  Calls Tryz.prog 138 #[.slice A0 l0.length c0] w fun e w' => e = .returned (.string r) ∧ Below w.heap.size w w' := by
 induction k using Nat.strongRecOn with
 | _ k ih =>
 intro A0 c0 l0 r w hr0 hc0 h
 cases k with
 | zero => exact absurd h (by simp [spec_l6Root.f])
 | succ k =>
 simp only [spec_l6Root.f] at h
 have HR0 := Aside0.mk hr0
 have HC0 := Aside0.mk hc0
 clear hr0 hc0
 have HB := Aside0.mk (Below.refl w.heap.size w)
 have H : (if (l0.length : Int) = 0 then ((spec_Digest.f k (([] : List Int))).bind fun t604 => (some t604)) else (if (l0.length : Int) = 1 then (if 0 < (l0.length : Int) then ((spec_LeafHash.f k (rdOf ByteArray.empty l0 0)).bind fun t606 => (some t606)) else (none)) else ((spec_l6Half.f k (l0.length : Int)).bind fun t607 => (if 0 ≤ t607 then (if t607 ≤ (l0.length : Int) then ((spec_l6Root.f k (l0.take (t607 : Int).toNat)).bind fun t609 => ((spec_l6Root.f k (l0.drop (t607 : Int).toNat)).bind fun t611 => ((spec_NodeHash.f k t609 t611).bind fun t612 => (some t612)))) else (none)) else (none))))) = some r := h
 clear h
 replace H := it_ H; obtain ⟨c2, H⟩ | ⟨c2, H⟩ := H
 ·have c2b0 : ((l0.length : Int) == 0) = true := beq_iff_eq.mpr c2
  have c2b1 : ((l0.length : Int) != 0) = false := bne_eq_false_iff_eq.mpr c2
  clear c2
  obtain ⟨y601, hy601⟩ : ∃ y_ : List Int, y_ = (([] : List Int)) := ⟨_, rfl⟩
  replace H : ((spec_Digest.f k y601).bind fun t604 => (some t604)) = some r := yh_ hy601 H
  have Ny601 := Aside0.mk hy601
  clear hy601
  replace H := bi_ H; obtain ⟨t604, A3, H⟩ := H
  obtain rfl := Option.some.inj H
  go_enter Tryz.func138, Tryz.ntmps138
  go_wp2_with (first | ((with_reducible refine gd_ 8 ?_); refine rl_ (Kd.int .u8) 5 8 ([] : List Int) [] ?_; intro v602 w4 ho5 hb hg_ hnew_; clear hg_ hnew_; (first | rw [← Ny601.out] at ho5 | (simp only [Int.reduceToNat] at ho5; rw [← Ny601.out] at ho5)); have HO603 := Aside0.mk (Kd.R_lower ho5 (sz_ HB)); replace HB := ss_ HB hb; clear hb ho5; obtain ⟨Ao6, co6, eo6⟩ := Kd.R_slice HO603.out; subst eo6) | ((with_reducible refine gq_ 119 9 ?_); refine gc_ 9 Tryz.func119 (spec_Digest.calls k _ _ y601 t604 _ (ch_ HO603) (cl_ HO603) A3.out) ?_; rintro e w7 ⟨rfl, hb⟩; refine ⟨_, rfl, ?_⟩; replace HO603 := rb_ HO603 hb; replace HB := ss_ HB hb; clear hb))
  go_ret
  exact ⟨e2_, bw_ HB⟩
 ·have c2b0 : ((l0.length : Int) == 0) = false := beq_eq_false_iff_ne.mpr c2
  have c2b1 : ((l0.length : Int) != 0) = true := bne_iff_ne.mpr c2
  have c2b2 : ¬ (l0 = []) := fun h_ => c2 (by rw [h_]; rfl)
  replace H := it_ H; obtain ⟨c8, H⟩ | ⟨c8, H⟩ := H
  ·have c8b0 : ((l0.length : Int) == 1) = true := beq_iff_eq.mpr c8
   have c8b1 : ((l0.length : Int) != 1) = false := bne_eq_false_iff_eq.mpr c8
   clear c8
   replace H := ip_ H; obtain ⟨c9, H⟩ := H
   have c9b0 := decide_eq_true c9
   have c9b1 : decide (0 < l0.length) = true := decide_eq_true (by omega)
   clear c9
   replace H := bi_ H; obtain ⟨t606, A10, H⟩ := H
   obtain rfl := Option.some.inj H
   have p605 : 0 ≤ (0 : Int) := (by omega)
   have q605 : 0 < (l0.length : Int) := of_decide_eq_true as_
   obtain ⟨ad605, e605, hx605_0⟩ := Kd.at_string HR0.out 0 p605 q605
   cases e605
   have qi605 : (0 < l0.length) = True := eq_true (by omega)
   (try rw [show ((0 : Int)).toNat = 0 from rfl] at hx605_0)
   (try rw [Addr.add_zero'] at hx605_0)
   replace p605 := eq_true p605
   replace q605 := eq_true q605
   go_enter Tryz.func138, Tryz.ntmps138
   go_wp2_with (first | ((with_reducible refine gq_ 160 15 ?_); refine gc_ 15 Tryz.func160 (spec_LeafHash.calls k (rdOf ByteArray.empty l0 0) t606 _ A10.out) ?_; rintro e w11 ⟨rfl, hb⟩; refine ⟨_, rfl, ?_⟩; replace HB := ss_ HB hb; clear hb))
   go_ret
   exact ⟨e2_, bw_ HB⟩
  ·have c8b0 : ((l0.length : Int) == 1) = false := beq_eq_false_iff_ne.mpr c8
   have c8b1 : ((l0.length : Int) != 1) = true := bne_iff_ne.mpr c8
   replace H := bi_ H; obtain ⟨t607, A12, H⟩ := H
   replace H := ip_ H; obtain ⟨c13, H⟩ := H
   have c13b0 := eq_true c13
   have c13b1 := decide_eq_true c13
   clear c13
   replace H := ip_ H; obtain ⟨c14, H⟩ := H
   have c14b0 := eq_true c14
   have c14b1 := decide_eq_true c14
   clear c14
   replace H := bi_ H; obtain ⟨t609, A15, H⟩ := H
   have c16b0 := eq_true (of_decide_eq_true as_ : 0 ≤ t607)
   have c17b0 := eq_true (of_decide_eq_true as_ : t607 ≤ (l0.length : Int))
   replace H := bi_ H; obtain ⟨t611, A18, H⟩ := H
   replace H := bi_ H; obtain ⟨t612, A19, H⟩ := H
   obtain rfl := Option.some.inj H
   go_enter Tryz.func138, Tryz.ntmps138
   try go_wp2_with (first | ((with_reducible refine gq_ 161 18 ?_); refine gc_ 18 Tryz.func161 (spec_l6Half.calls k (l0.length : Int) t607 _ A12.out) ?_; rintro e w20 ⟨rfl, hb⟩; refine ⟨_, rfl, ?_⟩; replace HB := ss_ HB hb; clear hb))
   replace HB := Aside0.mk (below_drew1 HB.out)
   obtain ⟨i022, hi022, _, hsz22, _⟩ := info_parts info9
   obtain ⟨hcut22, hA22, hC22⟩ := print_take_of (P := Tryz.prog) Value.string (⟨#[]⟩ : ByteArray) 22 9 .i64 Tryz.underlying22 hi022 hsz22 A0 c0 l0 t607 (of_decide_eq_true as_) (of_decide_eq_true as_) HC0.out
   have HR608 := Aside0.mk (Kd.C_of_reads (h1 := fun _ => rfl) (hA22 _ (Kd.reads_of_C HR0.out)))
   have HC608 := Aside0.mk hC22
   clear hA22 hC22 hi022 hsz22
   obtain ⟨i023, hi023, _, hsz23, _⟩ := info_parts info9
   obtain ⟨A23, hcut23, hA23, hC23⟩ := print_drop_of (P := Tryz.prog) Value.string (⟨#[]⟩ : ByteArray) 22 9 .i64 Tryz.underlying22 hi023 hsz23 A0 c0 l0 t607 (of_decide_eq_true as_) (of_decide_eq_true as_) HC0.out
   have HR610 := Aside0.mk (Kd.C_of_reads (h1 := fun _ => rfl) (hA23 _ (Kd.reads_of_C HR0.out)))
   have HC610 := Aside0.mk hC23
   clear hA23 hC23 hi023 hsz23
   refine start_ (n := 10) (S := fun w' => True) (ds := []) (lz_ 10 0) (by kernel_rfl) rfl rfl trivial (fun hHeld => ?_); refine with_tabW spec_l6Root.tab7 spec_l6Root.bits7 (fun HT_ HW_ => ?_)
   generalize w20.drew = w21 at HB HR608 HR610 hHeld ⊢
   refine pt_ 0 19 1 ?_
   refine pt_ 1 20 3 ?_
   refine pt_ 2 21 7 ?_
   refine pt_ 4 23 23 ?_
   refine pt_ 5 24 55 ?_
   refine pt_ 6 25 119 ?_
   refine one_ (i := 3) (N := some 22) (lz_ 10 127) rfl rfl (one_of HT_.out (by kernel_rfl)) (by decide) (fun K hK => ?_)
   refine goes_ Tryz.func138 (by kernel_rfl) rfl #[.slice A0 (l0.take (t607 : Int).toNat).length c0] (by rfl) rfl rfl (by (try simp only [List.map_toArray, List.map_cons, List.map_nil]); first | done | (rw [show (l0.take (t607 : Int).toNat).length = t607.toNat from (by rw [List.length_take]; have h_ : (t607 : Int) ≤ (l0.length : Int) := of_decide_eq_true as_; omega)] <;> rfl) | rfl | (simp only [List.length_drop, List.length_take]; rfl)) ?_
   with_reducible refine (ih k (by omega) _ _ (l0.take (t607 : Int).toNat) t609 _ ?side1 ?side2 A15.out).mono ?_
   (case side1 => exact cb_ HR608 HB)
   (case side2 => exact HC608.out)
   rintro e w24 ⟨rfl, hb⟩
   refine ⟨_, rfl, ?_⟩
   replace HB := ss_ HB hb
   clear hb
   refine hK.out _ _ trivial (fun hHeld => ?_)
   clear hK K
   refine no_ 22 ?_
   refine one_ (i := 7) (N := some 26) (lz_ 10 255) rfl rfl (one_of HT_.out (by kernel_rfl)) (by decide) (fun K hK => ?_)
   refine goes_ Tryz.func138 (by kernel_rfl) rfl #[.slice A23 (l0.drop (t607 : Int).toNat).length (c0 - t607.toNat)] (by rfl) rfl rfl (by (try simp only [List.map_toArray, List.map_cons, List.map_nil]); first | done | (rw [show (l0.drop (t607 : Int).toNat).length = (l0.length - t607.toNat) from List.length_drop] <;> rfl) | rfl | (simp only [List.length_drop, List.length_take]; rfl)) ?_
   with_reducible refine (ih k (by omega) _ _ (l0.drop (t607 : Int).toNat) t611 _ ?side1 ?side2 A18.out).mono ?_
   (case side1 => exact cb_ HR610 HB)
   (case side2 => exact HC610.out)
   rintro e w25 ⟨rfl, hb⟩
   refine ⟨_, rfl, ?_⟩
   replace HB := ss_ HB hb
   clear hb
   refine hK.out _ _ trivial (fun hHeld => ?_)
   clear hK K
   refine no_ 26 ?_
   refine one_ (i := 8) (N := some 27) (lz_ 10 511) rfl rfl (one_of HT_.out (by kernel_rfl)) (by decide) (fun K hK => ?_)
   refine gf_ Tryz.func162 (spec_NodeHash.calls k t609 t611 t612 _ A19.out) ?_
   rintro e w26 ⟨rfl, hb⟩
   refine ⟨_, rfl, ?_⟩
   replace HB := ss_ HB hb
   clear hb
   refine hK.out _ _ trivial (fun hHeld => ?_)
   clear hK K
   refine no_ 27 ?_
   refine pt_ 9 2 1023 ?_
   refine done_ (done_of HT_.out (by kernel_rfl)) ?_
   try go_wp2
   go_ret
   exact ⟨e2_, bw_ HB⟩
def spec_HeadOf.f (k : Nat) (l0 : List ByteArray) : Option (Int × ByteArray) := if (l0.length : Int) > 200 then (some (0, (⟨#[]⟩ : ByteArray))) else ((spec_l6Root.f k l0).bind fun t602 => (some ((l0.length : Int), t602)))
set_option maxHeartbeats 8000000 in
set_option maxRecDepth 100000 in
theorem spec_HeadOf.calls (k : Nat) (A0 : Option Addr) (c0 : Nat) (l0 : List ByteArray) (r1 : Int) (r2 : ByteArray) (w : World) (hr0 : Kd.C Kd.string w A0 l0.length l0) (hc0 : l0.length ≤ c0) (h : spec_HeadOf.f k l0 = some (r1, r2)) :
  Calls Tryz.prog 110 #[.slice A0 l0.length c0] w fun e w' => e = .returned (.agg #[.int .i64 r1, .string r2]) ∧ Below w.heap.size w w' := by
 have hu37 := Tryz.underlying37
 have HR0 := Aside0.mk hr0
 have HC0 := Aside0.mk hc0
 clear hr0 hc0
 have HB := Aside0.mk (Below.refl w.heap.size w)
 have H : (if (l0.length : Int) > 200 then (some (0, (⟨#[]⟩ : ByteArray))) else ((spec_l6Root.f k l0).bind fun t602 => (some ((l0.length : Int), t602)))) = some (r1, r2) := h
 clear h
 replace H := it_ H; obtain ⟨c2, H⟩ | ⟨c2, H⟩ := H
 ·have c2b0 : decide (200 < (l0.length : Int)) = true := decide_eq_true c2
  have c2b1 : decide (200 < l0.length) = true := decide_eq_true (by omega)
  clear c2
  replace H := so2_ H; obtain ⟨rfl, rfl⟩ := H
  go_enter Tryz.func110, Tryz.ntmps110
  go_wp2_with (first | ((with_reducible refine gd_ 2 ?_); refine bx_ 2 37 #[.int .i64 0, .string (⟨#[]⟩ : ByteArray)] ?_; intro gb601 hg w3 hbox hb; have BK601 := Aside0.mk hbox; have GW601 := gg_ hg HB; have GE601 := GW601; replace HB := ss_ HB hb; clear hb hbox hg; have hz4 := cz2_ BK601))
  refine bodyPost_ret (results_cell_row rfl _ _ gb601 37 #[.int .i64 0, .string (⟨#[]⟩ : ByteArray)] (0, 0) _ rfl (by exact kq_ BK601) Tryz.underlying37 rfl (by kernel_rfl)) rfl ?_
  exact ⟨e2_, bw_ HB⟩
 ·have c2b0 : decide (200 < (l0.length : Int)) = false := decide_eq_false c2
  have c2b1 : decide (200 < l0.length) = false := decide_eq_false (by omega)
  clear c2
  replace H := bi_ H; obtain ⟨t602, A5, H⟩ := H
  replace H := so2_ H; obtain ⟨rfl, rfl⟩ := H
  go_enter Tryz.func110, Tryz.ntmps110
  go_wp2_with (first | ((with_reducible refine gd_ 2 ?_); refine bx_ 2 37 #[.int .i64 0, .string (⟨#[]⟩ : ByteArray)] ?_; intro gb601 hg w6 hbox hb; have BK601 := Aside0.mk hbox; have GW601 := gg_ hg HB; have GE601 := GW601; replace HB := ss_ HB hb; clear hb hbox hg) | ((with_reducible refine gq_ 138 10 ?_); refine gc_ 10 Tryz.func138 (spec_l6Root.calls k _ _ l0 t602 _ (cb_ HR0 HB) HC0.out A5.out) ?_; rintro e w7 ⟨rfl, hb⟩; refine ⟨_, rfl, ?_⟩; replace BK601 := kl_ BK601 hb; replace HB := ss_ HB hb; clear hb; have hz8 := cz2_ BK601))
  refine bodyPost_ret (results_cell_row rfl _ _ gb601 37 #[.int .i64 (l0.length : Int), .string t602] (0, 0) _ rfl (by exact kq_ BK601) Tryz.underlying37 rfl (by kernel_rfl)) rfl ?_
  exact ⟨e2_, bw_ HB⟩
end Go.Proofs.YtnlndmoecljicaaGreat.Q
end
section
namespace Go.Proofs.YtnlndmoecljicaaGreat.Q
open Go.RowKit Go.Proofs.YtnlndmoecljicaaGreat.B Go.Proofs.YtnlndmoecljicaaGreatW.PrintWords Go.Proofs.YtnlndmoecljicaaGreatW.PrintMore
set_option linter.unusedVariables false
set_option linter.unusedSimpArgs false
def bigB : Nat := 1048608
theorem node_small {a b : ByteArray} (ha : a.size ≤ bigB) (hb : b.size ≤ bigB) : a.size + b.size ≤ 1099511627775 := by unfold bigB at *; omega
theorem mem_take_of {l : List ByteArray} {n : Nat} (h : ∀ x ∈ l, x.size ≤ bigB) : ∀ x ∈ l.take n, x.size ≤ bigB := fun x hx => h x (List.mem_of_mem_take hx)
theorem mem_drop_of {l : List ByteArray} {n : Nat} (h : ∀ x ∈ l, x.size ≤ bigB) : ∀ x ∈ l.drop n, x.size ≤ bigB := fun x hx => h x (List.mem_of_mem_drop hx)
theorem leafs_small (l : List ByteArray) : ∀ x ∈ l, (leafH x).size ≤ bigB := fun x _ => by rw [leafH_size]; decide
theorem root_small (l : List ByteArray) : (rootBy leafH l).size ≤ bigB := rootBy_size leafH bigB (by decide) _ (leafs_small l)
theorem rooted_impl : ∀ (n : Nat) (l : List ByteArray), l.length ≤ n → l.length ≤ 4611686018427387904 → (∀ x ∈ l, x.size ≤ bigB) → Ev (fun k => impl_rootOf.f k l) (rootBy leafH l) := by
 intro n
 induction n with
 | zero =>
  intro l h1 h2 hs
  obtain rfl := List.eq_nil_of_length_eq_zero (show l.length = 0 by omega)
  rw [rootBy_nil]
  refine Ev.step (fun k => by simp only [impl_rootOf.f]; rfl) ?_
  exact Ev.pos rfl (Ev.bind (Ev.const (impl_Digest_is [] (by decide))) (Ev.now _))
 | succ n ih =>
  intro l h1 h3 hs
  by_cases h : 2 ≤ l.length
  ·obtain ⟨p1, p2, p3, p4⟩ := cut_parts l h
   have hh := half_lt h
   have e1 := ih (l.take (half l.length)) (by omega) (by omega) (mem_take_of hs)
   have e2 := ih (l.drop (half l.length)) (by omega) (by omega) (mem_drop_of hs)
   have e3 := impl_node _ _ (node_small (root_small (l.take (half l.length))) (root_small (l.drop (half l.length))))
   rw [rootBy_more leafH h]
   refine Ev.step (fun k => by simp only [impl_rootOf.f]; rfl) ?_
   refine Ev.neg (by omega) (Ev.neg (by omega) (Ev.bind (impl_half_ev l.length h h3) ?_))
   exact Ev.pos (by omega) (Ev.pos (by omega) (Ev.bind e1 (Ev.bind e2 (Ev.bind (Ev.const e3) (Ev.now _)))))
  ·match l, h with
   | [], _ =>
    rw [rootBy_nil]
    refine Ev.step (fun k => by simp only [impl_rootOf.f]; rfl) ?_
    exact Ev.pos rfl (Ev.bind (Ev.const (impl_Digest_is [] (by decide))) (Ev.now _))
   | [a], _ =>
    rw [rootBy_one]
    have ha := hs a (by simp)
    refine Ev.step (fun k => by simp only [impl_rootOf.f]; rfl) ?_
    refine Ev.neg (by simp) (Ev.pos rfl (Ev.pos (by simp) ?_))
    exact Ev.bind (Ev.const (impl_leaf a (by unfold bigB at ha; omega))) (Ev.now _)
   | _ :: _ :: _, h => simp at h
theorem rooted_spec : ∀ (n : Nat) (l : List ByteArray), l.length ≤ n → l.length ≤ 4611686018427387904 → (∀ x ∈ l, x.size ≤ bigB) → Ev (fun k => spec_l6Root.f k l) (rootBy leafH l) := by
 intro n
 induction n with
 | zero =>
  intro l h1 h2 hs
  obtain rfl := List.eq_nil_of_length_eq_zero (show l.length = 0 by omega)
  rw [rootBy_nil]
  refine Ev.step (fun k => by simp only [spec_l6Root.f]; rfl) ?_
  exact Ev.pos rfl (Ev.bind (spec_Digest_ev [] (by decide) (by simp)) (Ev.now _))
 | succ n ih =>
  intro l h1 h3 hs
  by_cases h : 2 ≤ l.length
  ·obtain ⟨p1, p2, p3, p4⟩ := cut_parts l h
   have hh := half_lt h
   have e1 := ih (l.take (half l.length)) (by omega) (by omega) (mem_take_of hs)
   have e2 := ih (l.drop (half l.length)) (by omega) (by omega) (mem_drop_of hs)
   have e3 := spec_node _ _ (node_small (root_small (l.take (half l.length))) (root_small (l.drop (half l.length))))
   rw [rootBy_more leafH h]
   refine Ev.step (fun k => by simp only [spec_l6Root.f]; rfl) ?_
   refine Ev.neg (by omega) (Ev.neg (by omega) (Ev.bind (spec_half l.length h h3) ?_))
   exact Ev.pos (by omega) (Ev.pos (by omega) (Ev.bind e1 (Ev.bind e2 (Ev.bind e3 (Ev.now _)))))
  ·match l, h with
   | [], _ =>
    rw [rootBy_nil]
    refine Ev.step (fun k => by simp only [spec_l6Root.f]; rfl) ?_
    exact Ev.pos rfl (Ev.bind (spec_Digest_ev [] (by decide) (by simp)) (Ev.now _))
   | [a], _ =>
    rw [rootBy_one]
    have ha := hs a (by simp)
    refine Ev.step (fun k => by simp only [spec_l6Root.f]; rfl) ?_
    refine Ev.neg (by simp) (Ev.pos rfl (Ev.pos (by simp) ?_))
    exact Ev.bind (spec_leaf a (by unfold bigB at ha; omega)) (Ev.now _)
   | _ :: _ :: _, h => simp at h
def headOf (l : List ByteArray) : Int × ByteArray := if (l.length : Int) > 200 then (0, ⟨#[]⟩) else ((l.length : Int), rootBy leafH l)
theorem headOf_few {l : List ByteArray} (h : l.length ≤ 200) : headOf l = ((l.length : Int), rootBy leafH l) := if_neg (by omega)
theorem headOf_many {l : List ByteArray} (h : ¬ l.length ≤ 200) : headOf l = (0, ⟨#[]⟩) := if_pos (by omega)
theorem spec_HeadOf_ev (l : List ByteArray) (hs : ∀ x ∈ l, x.size ≤ bigB) : Ev (fun k => spec_HeadOf.f k l) (headOf l) := by
 unfold spec_HeadOf.f
 by_cases h : l.length ≤ 200
 ·rw [headOf_few h]
  exact Ev.neg (by omega) (Ev.bind (rooted_spec l.length l (Nat.le_refl _) (by omega) hs) (Ev.now _))
 ·rw [headOf_many h]
  exact Ev.pos (by omega) (Ev.now _)
end Go.Proofs.YtnlndmoecljicaaGreat.Q
end
section
namespace Go.Proofs.YtnlndmoecljicaaGreat.Q
open Go.RowKit Go.Proofs.YtnlndmoecljicaaGreatW.PrintWords Go.Proofs.YtnlndmoecljicaaGreatW.PrintLast Go.Proofs.YtnlndmoecljicaaGreatW.PrintMore
attribute [local go_sem] max2_int min2_int max_two min_two max_three min_three max_four min_four   -- for this text's walks alone
set_option linter.unusedVariables false
set_option linter.unusedSimpArgs false
def impl_HeadOf.f (k : Nat) (l0 : List ByteArray) : Option (Int × ByteArray) := if (l0.length : Int) > 200 then (some (0, (⟨#[]⟩ : ByteArray))) else ((impl_rootOf.f k l0).bind fun t602 => (some ((l0.length : Int), t602)))
set_option maxHeartbeats 8000000 in
set_option maxRecDepth 100000 in
theorem impl_HeadOf.calls (k : Nat) (A0 : Option Addr) (c0 : Nat) (l0 : List ByteArray) (r1 : Int) (r2 : ByteArray) (w : World) (hr0 : Kd.C Kd.string w A0 l0.length l0) (hc0 : l0.length ≤ c0) (h : impl_HeadOf.f k l0 = some (r1, r2)) :
  Calls Tryz.prog 65 #[.slice A0 l0.length c0] w fun e w' => e = .returned (.agg #[.int .i64 r1, .string r2]) ∧ Below w.heap.size w w' := by
 have hu37 := Tryz.underlying37
 have HR0 := Aside0.mk hr0
 have HC0 := Aside0.mk hc0
 clear hr0 hc0
 have HB := Aside0.mk (Below.refl w.heap.size w)
 have H : (if (l0.length : Int) > 200 then (some (0, (⟨#[]⟩ : ByteArray))) else ((impl_rootOf.f k l0).bind fun t602 => (some ((l0.length : Int), t602)))) = some (r1, r2) := h
 clear h
 replace H := it_ H; obtain ⟨c2, H⟩ | ⟨c2, H⟩ := H
 ·have c2b0 : decide (200 < (l0.length : Int)) = true := decide_eq_true c2
  have c2b1 : decide (200 < l0.length) = true := decide_eq_true (by omega)
  clear c2
  replace H := so2_ H; obtain ⟨rfl, rfl⟩ := H
  go_enter Tryz.func65, Tryz.ntmps65
  go_wp2_with (first | ((with_reducible refine gd_ 2 ?_); refine bx_ 2 37 #[.int .i64 0, .string (⟨#[]⟩ : ByteArray)] ?_; intro gb601 hg w3 hbox hb; have BK601 := Aside0.mk hbox; have GW601 := gg_ hg HB; have GE601 := GW601; replace HB := ss_ HB hb; clear hb hbox hg; have hz4 := cz2_ BK601))
  refine bodyPost_ret (results_cell_row rfl _ _ gb601 37 #[.int .i64 0, .string (⟨#[]⟩ : ByteArray)] (0, 0) _ rfl (by exact kq_ BK601) Tryz.underlying37 rfl (by kernel_rfl)) rfl ?_
  exact ⟨e2_, bw_ HB⟩
 ·have c2b0 : decide (200 < (l0.length : Int)) = false := decide_eq_false c2
  have c2b1 : decide (200 < l0.length) = false := decide_eq_false (by omega)
  clear c2
  replace H := bi_ H; obtain ⟨t602, A5, H⟩ := H
  replace H := so2_ H; obtain ⟨rfl, rfl⟩ := H
  go_enter Tryz.func65, Tryz.ntmps65
  go_wp2_with (first | ((with_reducible refine gd_ 2 ?_); refine bx_ 2 37 #[.int .i64 0, .string (⟨#[]⟩ : ByteArray)] ?_; intro gb601 hg w6 hbox hb; have BK601 := Aside0.mk hbox; have GW601 := gg_ hg HB; have GE601 := GW601; replace HB := ss_ HB hb; clear hb hbox hg) | ((with_reducible refine gq_ 103 10 ?_); refine gc_ 10 Tryz.func103 (impl_rootOf.calls k _ _ l0 t602 _ (cb_ HR0 HB) HC0.out A5.out) ?_; rintro e w7 ⟨rfl, hb⟩; refine ⟨_, rfl, ?_⟩; replace BK601 := kl_ BK601 hb; replace HB := ss_ HB hb; clear hb; have hz8 := cz2_ BK601))
  refine bodyPost_ret (results_cell_row rfl _ _ gb601 37 #[.int .i64 (l0.length : Int), .string t602] (0, 0) _ rfl (by exact kq_ BK601) Tryz.underlying37 rfl (by kernel_rfl)) rfl ?_
  exact ⟨e2_, bw_ HB⟩
end Go.Proofs.YtnlndmoecljicaaGreat.Q
end
section
namespace Go.Proofs.YtnlndmoecljicaaGreat.Q
open Go.RowKit Go.Proofs.YtnlndmoecljicaaGreat.B Go.Proofs.YtnlndmoecljicaaGreatW.PrintWords Go.Proofs.YtnlndmoecljicaaGreatW.PrintMore
set_option linter.unusedVariables false
theorem impl_HeadOf_ev (l : List ByteArray) (hs : ∀ x ∈ l, x.size ≤ bigB) : Ev (fun k => impl_HeadOf.f k l) (headOf l) := by
 unfold impl_HeadOf.f
 by_cases h : l.length ≤ 200
 ·rw [headOf_few h]
  exact Ev.neg (by omega) (Ev.bind (rooted_impl l.length l (Nat.le_refl _) (by omega) hs) (Ev.now _))
 ·rw [headOf_many h]
  exact Ev.pos (by omega) (Ev.now _)
theorem total_small {l : List ByteArray} (h : total l ≤ 1048576) : ∀ x ∈ l, x.size ≤ bigB := fun x hx => by
 have := total_mem hx
 unfold bigB
 omega
end Go.Proofs.YtnlndmoecljicaaGreat.Q
end
section
namespace Go.Proofs.YtnlndmoecljicaaGreat.Q
open Go.RowKit Go.Proofs.YtnlndmoecljicaaGreatW.PrintWords Go.Proofs.YtnlndmoecljicaaGreatW.PrintLast Go.Proofs.YtnlndmoecljicaaGreatW.PrintMore
attribute [local go_sem] max2_int min2_int max_two min_two max_three min_three max_four min_four   -- for this text's walks alone
set_option linter.unusedVariables false
set_option linter.unusedSimpArgs false
theorem eqA37 (d : Nat) (w : World) (x0 y0 : Int) (x1 y1 : ByteArray) :
  (Op.equalIn (d + 2) 37 (.agg #[.int .i64 x0, .string x1]) (.agg #[.int .i64 y0, .string y1])).run Tryz.prog w = .ok (x0 == y0 && (x1.toList == y1.toList)) w := by
 refine eqA_of Tryz.underlying37 (by kernel_rfl) ?_
 refine eqf_cons (by rfl) (by go_simp; rfl) (by go_simp; rfl) (by go_simp) ?_
 exact eqf_last (by rfl) (by go_simp; rfl) (by go_simp; rfl) (by go_simp)
end Go.Proofs.YtnlndmoecljicaaGreat.Q
end
section
namespace Go.Proofs.YtnlndmoecljicaaGreat.Q
open Go.RowKit Go.Proofs.YtnlndmoecljicaaGreatW.PrintWords Go.Proofs.YtnlndmoecljicaaGreatW.PrintLast Go.Proofs.YtnlndmoecljicaaGreatW.PrintMore
attribute [local go_sem] max2_int min2_int max_two min_two max_three min_three max_four min_four   -- for this text's walks alone
set_option linter.unusedVariables false
set_option linter.unusedSimpArgs false
attribute [local go_sem high] eqA37
def impl_LogOk.f (k : Nat) (l0_0 : List ByteArray) (a0_1 : Int) (a0_2 : ByteArray) : Option (Bool) := if (l0_0.length : Int) ≤ 200 then ((impl_HeadOf.f k l0_0).bind fun bt602 => (some (a0_1 == bt602.1 && (a0_2.toList == bt602.2.toList)))) else (some false)
def impl_LogOk.T1 : Bool × List (List Nat × List Nat) := (true, [([], []), ([0], [0]), ([1], [1]), ([2], [2]), ([3], [3]), ([4], [4]), ([5, 4], [4, 5]), ([4], [4]), ([7, 4], [4, 7]), ([8, 4, 4], [4, 8]), ([6, 9, 4], [4, 6, 9]), ([4, 10], [4, 10]), ([11, 9, 0, 1, 2, 3, 4, 5, 6, 7, 8, 9, 10, 11], [11])])
def impl_LogOk.B1 : List Nat := [0, 1, 3, 7, 15, 31, 63, 31, 159, 415, 1023, 2047, 4095]
theorem impl_LogOk.tab1 : rtab .any (opsOf Tryz.f62 1) = impl_LogOk.T1 := by kernel_rfl
theorem impl_LogOk.bits1 : waitsOk impl_LogOk.T1.2 impl_LogOk.B1 = true := by kernel_rfl
set_option maxHeartbeats 8000000 in
set_option maxRecDepth 100000 in
theorem impl_LogOk.calls (k : Nat) (A0_0 : Option Addr) (c0_0 : Nat) (l0_0 : List ByteArray) (a0_1 : Int) (a0_2 : ByteArray) (r : Bool) (w : World) (hr0_0 : Kd.C Kd.string w A0_0 l0_0.length l0_0) (hc0_0 : l0_0.length ≤ c0_0) (h : impl_LogOk.f k l0_0 a0_1 a0_2 = some r) :
  Calls Tryz.prog 62 #[.agg #[.slice A0_0 l0_0.length c0_0, .int .i64 a0_1, .string a0_2]] w fun e w' => e = .returned (.bool r) ∧ Below w.heap.size w w' := by
 have hu39 := Tryz.underlying39
 have hu37 := Tryz.underlying37
 have HR0_0 := Aside0.mk hr0_0
 have HC0_0 := Aside0.mk hc0_0
 clear hr0_0 hc0_0
 have HB := Aside0.mk (Below.refl w.heap.size w)
 have H : (if (l0_0.length : Int) ≤ 200 then ((impl_HeadOf.f k l0_0).bind fun bt602 => (some (a0_1 == bt602.1 && (a0_2.toList == bt602.2.toList)))) else (some false)) = some r := h
 clear h
 replace H := it_ H; obtain ⟨c2, H⟩ | ⟨c2, H⟩ := H
 ·have c2b0 := decide_eq_true c2
  have c2b1 : decide (l0_0.length ≤ 200) = true := decide_eq_true (by omega)
  clear c2
  replace H := bi_ H; obtain ⟨⟨t602, t603⟩, A3, H⟩ := H
  dsimp only at H
  obtain rfl := Option.some.inj H
  go_enter Tryz.func62, Tryz.ntmps62
  try go_wp2_with (first | ((with_reducible refine gd_ 1 ?_); refine bx_ 1 39 #[.slice A0_0 l0_0.length c0_0, .int .i64 a0_1, .string a0_2] ?_; intro gb601 hg w4 hbox hb; have BK601 := Aside0.mk hbox; have GW601 := gg_ hg HB; have GE601 := GW601; replace HB := ss_ HB hb; clear hb hbox hg))
  replace BK601 := Aside0.mk (blk_drew BK601.out)
  replace HB := Aside0.mk (below_drew1 HB.out)
  refine start_ (n := 13) (S := fun w' => w'.cell? ⟨gb601, 0, none⟩ = some (.slice A0_0 l0_0.length c0_0) ∧ w'.cell? ⟨gb601, 1, none⟩ = some (.int .i64 a0_1) ∧ w'.cell? ⟨gb601, 2, none⟩ = some (.string a0_2)) (ds := []) (lz_ 13 0) (by kernel_rfl) rfl rfl ⟨bc0_ BK601.out, bc1_ BK601.out, bc2_ BK601.out⟩ (fun hHeld => ?_); refine with_tabW impl_LogOk.tab1 impl_LogOk.bits1 (fun HT_ HW_ => ?_)
  generalize w4.drew = w5 at BK601 HB hHeld ⊢
  refine pt_ 0 3 1 ?_
  refine tt_ 1 4 3 ?_
  refine pt_ 2 5 7 ?_
  refine pt_ 3 6 15 ?_
  refine pt_ 4 7 31 ?_
  refine pt_ 5 8 63 ?_
  refine pt_ 7 10 191 ?_
  refine tt_ 6 9 255 ?_
  refine tt_ 8 11 511 ?_
  refine one_ (i := 9) (N := some 12) (lz_ 13 1023) rfl rfl (one_of HT_.out (by kernel_rfl)) (by decide) (fun K hK => ?_)
  refine gf_ Tryz.func65 (impl_HeadOf.calls k _ _ l0_0 t602 t603 _ (cb_ HR0_0 HB) HC0_0.out A3.out) ?_
  rintro e w6 ⟨rfl, hb⟩
  refine ⟨_, rfl, ?_⟩
  replace BK601 := kl_ BK601 hb
  replace HB := ss_ HB hb
  clear hb
  refine hK.out _ _ ⟨bc0_ BK601.out, bc1_ BK601.out, bc2_ BK601.out⟩ (fun hHeld => ?_)
  clear hK K
  refine no_ 12 ?_
  refine pt_ 10 13 2047 ?_
  refine pt_ 11 14 4095 ?_
  refine pt_ 12 2 8191 ?_
  refine done_ (done_of HT_.out (by kernel_rfl)) ?_
  try go_wp2
  go_ret
  exact ⟨e2_, bw_ HB⟩
 ·have c2b0 := decide_eq_false c2
  have c2b1 : decide (l0_0.length ≤ 200) = false := decide_eq_false (by omega)
  clear c2
  obtain rfl := Option.some.inj H
  go_enter Tryz.func62, Tryz.ntmps62
  try go_wp2_with (first | ((with_reducible refine gd_ 1 ?_); refine bx_ 1 39 #[.slice A0_0 l0_0.length c0_0, .int .i64 a0_1, .string a0_2] ?_; intro gb601 hg w7 hbox hb; have BK601 := Aside0.mk hbox; have GW601 := gg_ hg HB; have GE601 := GW601; replace HB := ss_ HB hb; clear hb hbox hg))
  replace BK601 := Aside0.mk (blk_drew BK601.out)
  replace HB := Aside0.mk (below_drew1 HB.out)
  refine start_ (n := 13) (S := fun w' => w'.cell? ⟨gb601, 0, none⟩ = some (.slice A0_0 l0_0.length c0_0) ∧ w'.cell? ⟨gb601, 1, none⟩ = some (.int .i64 a0_1) ∧ w'.cell? ⟨gb601, 2, none⟩ = some (.string a0_2)) (ds := []) (lz_ 13 0) (by kernel_rfl) rfl rfl ⟨bc0_ BK601.out, bc1_ BK601.out, bc2_ BK601.out⟩ (fun hHeld => ?_); refine with_tabW impl_LogOk.tab1 impl_LogOk.bits1 (fun HT_ HW_ => ?_)
  generalize w7.drew = w8 at BK601 HB hHeld ⊢
  refine pt_ 0 3 1 ?_
  refine tt_ 1 4 3 ?_
  refine pt_ 2 5 7 ?_
  refine pt_ 3 6 15 ?_
  refine pt_ 4 7 31 ?_
  refine ut_ 5 8 63 ?_
  refine ut_ 6 9 127 ?_
  refine ut_ 7 10 255 ?_
  refine ut_ 8 11 511 ?_
  refine ut_ 9 12 1023 ?_
  refine ut_ 10 13 2047 ?_
  refine pt_ 11 14 4095 ?_
  refine pt_ 12 2 8191 ?_
  refine done_ (done_of HT_.out (by kernel_rfl)) ?_
  try go_wp2
  go_ret
  exact ⟨e2_, bw_ HB⟩
def spec_LogOk.f (k : Nat) (l0_0 : List ByteArray) (a0_1 : Int) (a0_2 : ByteArray) : Option (Bool) := if (l0_0.length : Int) ≤ 200 then ((spec_HeadOf.f k l0_0).bind fun bt602 => (some (a0_1 == bt602.1 && (a0_2.toList == bt602.2.toList)))) else (some false)
def spec_LogOk.T1 : Bool × List (List Nat × List Nat) := (true, [([], []), ([0], [0]), ([1], [1]), ([2], [2]), ([3], [3]), ([4], [4]), ([5, 4], [4, 5]), ([4], [4]), ([7, 4], [4, 7]), ([8, 4, 4], [4, 8]), ([6, 9, 4], [4, 6, 9]), ([4, 10], [4, 10]), ([11, 9, 0, 1, 2, 3, 4, 5, 6, 7, 8, 9, 10, 11], [11])])
def spec_LogOk.B1 : List Nat := [0, 1, 3, 7, 15, 31, 63, 31, 159, 415, 1023, 2047, 4095]
theorem spec_LogOk.tab1 : rtab .any (opsOf Tryz.f107 1) = spec_LogOk.T1 := by kernel_rfl
theorem spec_LogOk.bits1 : waitsOk spec_LogOk.T1.2 spec_LogOk.B1 = true := by kernel_rfl
set_option maxHeartbeats 8000000 in
set_option maxRecDepth 100000 in
theorem spec_LogOk.calls (k : Nat) (A0_0 : Option Addr) (c0_0 : Nat) (l0_0 : List ByteArray) (a0_1 : Int) (a0_2 : ByteArray) (r : Bool) (w : World) (hr0_0 : Kd.C Kd.string w A0_0 l0_0.length l0_0) (hc0_0 : l0_0.length ≤ c0_0) (h : spec_LogOk.f k l0_0 a0_1 a0_2 = some r) :
  Calls Tryz.prog 107 #[.agg #[.slice A0_0 l0_0.length c0_0, .int .i64 a0_1, .string a0_2]] w fun e w' => e = .returned (.bool r) ∧ Below w.heap.size w w' := by
 have hu39 := Tryz.underlying39
 have hu37 := Tryz.underlying37
 have HR0_0 := Aside0.mk hr0_0
 have HC0_0 := Aside0.mk hc0_0
 clear hr0_0 hc0_0
 have HB := Aside0.mk (Below.refl w.heap.size w)
 have H : (if (l0_0.length : Int) ≤ 200 then ((spec_HeadOf.f k l0_0).bind fun bt602 => (some (a0_1 == bt602.1 && (a0_2.toList == bt602.2.toList)))) else (some false)) = some r := h
 clear h
 replace H := it_ H; obtain ⟨c2, H⟩ | ⟨c2, H⟩ := H
 ·have c2b0 := decide_eq_true c2
  have c2b1 : decide (l0_0.length ≤ 200) = true := decide_eq_true (by omega)
  clear c2
  replace H := bi_ H; obtain ⟨⟨t602, t603⟩, A3, H⟩ := H
  dsimp only at H
  obtain rfl := Option.some.inj H
  go_enter Tryz.func107, Tryz.ntmps107
  try go_wp2_with (first | ((with_reducible refine gd_ 1 ?_); refine bx_ 1 39 #[.slice A0_0 l0_0.length c0_0, .int .i64 a0_1, .string a0_2] ?_; intro gb601 hg w4 hbox hb; have BK601 := Aside0.mk hbox; have GW601 := gg_ hg HB; have GE601 := GW601; replace HB := ss_ HB hb; clear hb hbox hg))
  replace BK601 := Aside0.mk (blk_drew BK601.out)
  replace HB := Aside0.mk (below_drew1 HB.out)
  refine start_ (n := 13) (S := fun w' => w'.cell? ⟨gb601, 0, none⟩ = some (.slice A0_0 l0_0.length c0_0) ∧ w'.cell? ⟨gb601, 1, none⟩ = some (.int .i64 a0_1) ∧ w'.cell? ⟨gb601, 2, none⟩ = some (.string a0_2)) (ds := []) (lz_ 13 0) (by kernel_rfl) rfl rfl ⟨bc0_ BK601.out, bc1_ BK601.out, bc2_ BK601.out⟩ (fun hHeld => ?_); refine with_tabW spec_LogOk.tab1 spec_LogOk.bits1 (fun HT_ HW_ => ?_)
  generalize w4.drew = w5 at BK601 HB hHeld ⊢
  refine pt_ 0 3 1 ?_
  refine tt_ 1 4 3 ?_
  refine pt_ 2 5 7 ?_
  refine pt_ 3 6 15 ?_
  refine pt_ 4 7 31 ?_
  refine pt_ 5 8 63 ?_
  refine pt_ 7 10 191 ?_
  refine tt_ 6 9 255 ?_
  refine tt_ 8 11 511 ?_
  refine one_ (i := 9) (N := some 12) (lz_ 13 1023) rfl rfl (one_of HT_.out (by kernel_rfl)) (by decide) (fun K hK => ?_)
  refine gf_ Tryz.func110 (spec_HeadOf.calls k _ _ l0_0 t602 t603 _ (cb_ HR0_0 HB) HC0_0.out A3.out) ?_
  rintro e w6 ⟨rfl, hb⟩
  refine ⟨_, rfl, ?_⟩
  replace BK601 := kl_ BK601 hb
  replace HB := ss_ HB hb
  clear hb
  refine hK.out _ _ ⟨bc0_ BK601.out, bc1_ BK601.out, bc2_ BK601.out⟩ (fun hHeld => ?_)
  clear hK K
  refine no_ 12 ?_
  refine pt_ 10 13 2047 ?_
  refine pt_ 11 14 4095 ?_
  refine pt_ 12 2 8191 ?_
  refine done_ (done_of HT_.out (by kernel_rfl)) ?_
  try go_wp2
  go_ret
  exact ⟨e2_, bw_ HB⟩
 ·have c2b0 := decide_eq_false c2
  have c2b1 : decide (l0_0.length ≤ 200) = false := decide_eq_false (by omega)
  clear c2
  obtain rfl := Option.some.inj H
  go_enter Tryz.func107, Tryz.ntmps107
  try go_wp2_with (first | ((with_reducible refine gd_ 1 ?_); refine bx_ 1 39 #[.slice A0_0 l0_0.length c0_0, .int .i64 a0_1, .string a0_2] ?_; intro gb601 hg w7 hbox hb; have BK601 := Aside0.mk hbox; have GW601 := gg_ hg HB; have GE601 := GW601; replace HB := ss_ HB hb; clear hb hbox hg))
  replace BK601 := Aside0.mk (blk_drew BK601.out)
  replace HB := Aside0.mk (below_drew1 HB.out)
  refine start_ (n := 13) (S := fun w' => w'.cell? ⟨gb601, 0, none⟩ = some (.slice A0_0 l0_0.length c0_0) ∧ w'.cell? ⟨gb601, 1, none⟩ = some (.int .i64 a0_1) ∧ w'.cell? ⟨gb601, 2, none⟩ = some (.string a0_2)) (ds := []) (lz_ 13 0) (by kernel_rfl) rfl rfl ⟨bc0_ BK601.out, bc1_ BK601.out, bc2_ BK601.out⟩ (fun hHeld => ?_); refine with_tabW spec_LogOk.tab1 spec_LogOk.bits1 (fun HT_ HW_ => ?_)
  generalize w7.drew = w8 at BK601 HB hHeld ⊢
  refine pt_ 0 3 1 ?_
  refine tt_ 1 4 3 ?_
  refine pt_ 2 5 7 ?_
  refine pt_ 3 6 15 ?_
  refine pt_ 4 7 31 ?_
  refine ut_ 5 8 63 ?_
  refine ut_ 6 9 127 ?_
  refine ut_ 7 10 255 ?_
  refine ut_ 8 11 511 ?_
  refine ut_ 9 12 1023 ?_
  refine ut_ 10 13 2047 ?_
  refine pt_ 11 14 4095 ?_
  refine pt_ 12 2 8191 ?_
  refine done_ (done_of HT_.out (by kernel_rfl)) ?_
  try go_wp2
  go_ret
  exact ⟨e2_, bw_ HB⟩
end Go.Proofs.YtnlndmoecljicaaGreat.Q
end
section
namespace Go.Proofs.YtnlndmoecljicaaGreat.Q
open Go.RowKit Go.Proofs.YtnlndmoecljicaaGreat.B Go.Proofs.YtnlndmoecljicaaGreatW.PrintWords Go.Proofs.YtnlndmoecljicaaGreatW.PrintMore
set_option linter.unusedVariables false
def logOk (l : List ByteArray) (n : Int) (s : ByteArray) : Bool := if (l.length : Int) ≤ 200 then (n == (headOf l).1 && (s.toList == (headOf l).2.toList)) else false
theorem spec_LogOk_ev (l : List ByteArray) (n : Int) (s : ByteArray) (hs : ∀ x ∈ l, x.size ≤ bigB) : Ev (fun k => spec_LogOk.f k l n s) (logOk l n s) := by
 unfold spec_LogOk.f logOk
 by_cases h : (l.length : Int) ≤ 200
 ·rw [if_pos h]
  exact Ev.pos h (Ev.bind (spec_HeadOf_ev l hs) (Ev.now _))
 ·rw [if_neg h]
  exact Ev.neg h (Ev.now _)
theorem impl_LogOk_ev (l : List ByteArray) (n : Int) (s : ByteArray) (hs : ∀ x ∈ l, x.size ≤ bigB) : Ev (fun k => impl_LogOk.f k l n s) (logOk l n s) := by
 unfold impl_LogOk.f logOk
 by_cases h : (l.length : Int) ≤ 200
 ·rw [if_pos h]
  exact Ev.pos h (Ev.bind (impl_HeadOf_ev l hs) (Ev.now _))
 ·rw [if_neg h]
  exact Ev.neg h (Ev.now _)
end Go.Proofs.YtnlndmoecljicaaGreat.Q
end
section
namespace Go.Proofs.YtnlndmoecljicaaGreat.Q
open Go.RowKit Go.Proofs.YtnlndmoecljicaaGreatW.PrintWords Go.Proofs.YtnlndmoecljicaaGreatW.PrintLast Go.Proofs.YtnlndmoecljicaaGreatW.PrintMore
attribute [local go_sem] max2_int min2_int max_two min_two max_three min_three max_four min_four   -- for this text's walks alone
set_option linter.unusedVariables false
set_option linter.unusedSimpArgs false
def spec_LogNew.f (k : Nat)  : Option (List ByteArray × Int × ByteArray) := (spec_HeadOf.f k (([] : List ByteArray))).bind fun bt605 => (some (([] : List ByteArray), bt605.1, bt605.2))
set_option maxHeartbeats 8000000 in
set_option maxRecDepth 100000 in
theorem spec_LogNew.calls (k : Nat)  (r1 : List ByteArray) (r2 : Int) (r3 : ByteArray) (w : World) (h : spec_LogNew.f k  = some (r1, r2, r3)) :
  Calls Tryz.prog 137 #[] w fun e w' => ∃ v0_ : Value, e = .returned (.agg #[v0_, .int .i64 r2, .string r3]) ∧ Kd.R Kd.string 9 w' w.heap.size (fun _ => True) v0_ r1 ∧ Below w.heap.size w w' := by
 have hu39 := Tryz.underlying39
 have HB := Aside0.mk (Below.refl w.heap.size w)
 have H : ((spec_HeadOf.f k (([] : List ByteArray))).bind fun bt605 => (some (([] : List ByteArray), bt605.1, bt605.2))) = some (r1, r2, r3) := h
 clear h
 obtain ⟨y602, hy602⟩ : ∃ y_ : List ByteArray, y_ = (([] : List ByteArray)) := ⟨_, rfl⟩
 replace H : ((spec_HeadOf.f k y602).bind fun bt605 => (some (([] : List ByteArray), bt605.1, bt605.2))) = some (r1, r2, r3) := yh_ hy602 H
 have Ny602 := Aside0.mk hy602
 clear hy602
 replace H := bi_ H; obtain ⟨⟨t605, t606⟩, A1, H⟩ := H
 dsimp only at H
 replace H := so3_ H; obtain ⟨rfl, rfl, rfl⟩ := H
 go_enter Tryz.func137, Tryz.ntmps137
 go_wp2_with (first | ((with_reducible refine gd_ 0 ?_); refine bx_ 0 39 #[.slice none 0 0, .int .i64 0, .string (⟨#[]⟩ : ByteArray)] ?_; intro gb601 hg w2 hbox hb; have BK601 := Aside0.mk hbox; have GW601 := gg_ hg HB; have GE601 := GW601; replace HB := ss_ HB hb; clear hb hbox hg) | ((with_reducible refine gd_ 1 ?_); refine rl_ Kd.string 9 1 ([] : List ByteArray) [] ?_; intro v603 w3 ho4 hb hg_ hnew_; clear hg_ hnew_; (first | rw [← Ny602.out] at ho4 | (simp only [Int.reduceToNat] at ho4; rw [← Ny602.out] at ho4)); have HO604 := Aside0.mk (Kd.R_lower ho4 (sz_ HB)); replace BK601 := kl_ BK601 hb; replace HB := ss_ HB hb; clear hb ho4; obtain ⟨Ao5, co5, eo5⟩ := Kd.R_slice HO604.out; subst eo5) | ((with_reducible refine gq_ 110 2 ?_); refine gc_ 2 Tryz.func110 (spec_HeadOf.calls k _ _ y602 t605 t606 _ (ch_ HO604) (cl_ HO604) A1.out) ?_; rintro e w6 ⟨rfl, hb⟩; refine ⟨_, rfl, ?_⟩; replace HO604 := rb_ HO604 hb; replace BK601 := kl_ BK601 hb; replace HB := ss_ HB hb; clear hb; have hz7 := cz3_ BK601))
 refine bodyPost_ret (results_cell_row rfl _ _ gb601 39 #[.slice none 0 0, .int .i64 t605, .string t606] (0, 0) _ rfl (by exact kq_ BK601) Tryz.underlying39 rfl (by kernel_rfl)) rfl ?_
 exact ⟨_, e2_, by first | exact Kd.R_nil _ _ _ _ _ | exact Kd.N_nil _ _ _ _ _ | exact Kd.V_nil _ _ _ _ _ | exact Kd.Q_nil _ _ _ _ _ | exact Kd.S_nil _ _ _ _ _, bw_ HB⟩
def spec_l8Same.l0 : Nat → List ByteArray → List ByteArray → Int → Option (Bool)
 | 0, _, _, _ => none
 | k + 1, x0, x1, x5 => if x5 < (x0.length : Int) then (if 0 ≤ x5 then (if x5 < (x1.length : Int) then (if (rdOf ByteArray.empty x0 x5).toList = (rdOf ByteArray.empty x1 x5).toList then (spec_l8Same.l0 k x0 x1 (wrap64 (x5 + 1))) else (some false)) else (none)) else (none)) else (some true)
def spec_l8Same.f (k : Nat) (l0 : List ByteArray) (l1 : List ByteArray) : Option (Bool) := if (l0.length : Int) = (l1.length : Int) then (spec_l8Same.l0 k l0 l1 0) else (some false)
set_option maxHeartbeats 8000000 in
set_option maxRecDepth 100000 in
theorem spec_l8Same.calls (k : Nat) (A0 : Option Addr) (c0 : Nat) (l0 : List ByteArray) (A1 : Option Addr) (c1 : Nat) (l1 : List ByteArray) (r : Bool) (w : World) (hr0 : Kd.C Kd.string w A0 l0.length l0) (hc0 : l0.length ≤ c0) (hr1 : Kd.C Kd.string w A1 l1.length l1) (hc1 : l1.length ≤ c1) (h : spec_l8Same.f k l0 l1 = some r) :
  Calls Tryz.prog 109 #[.slice A0 l0.length c0, .slice A1 l1.length c1] w fun e w' => e = .returned (.bool r) ∧ Drawn0 w w' := by
 have HR0 := Aside0.mk hr0
 have HC0 := Aside0.mk hc0
 clear hr0 hc0
 have HR1 := Aside0.mk hr1
 have HC1 := Aside0.mk hc1
 clear hr1 hc1
 have H : (if (l0.length : Int) = (l1.length : Int) then (spec_l8Same.l0 k l0 l1 0) else (some false)) = some r := h
 clear h
 replace H := it_ H; obtain ⟨c3, H⟩ | ⟨c3, H⟩ := H
 ·have c3b0 : ((l0.length : Int) == (l1.length : Int)) = true := beq_iff_eq.mpr c3
  have c3b1 : ((l0.length : Int) != (l1.length : Int)) = false := bne_eq_false_iff_eq.mpr c3
  have c3b2 : (l0.length == l1.length) = true := by first | simpa using c3 | (simp at c3 ⊢; omega)
  clear c3
  have H' := Aside0.mk H
  clear H
  go_enter Tryz.func109, Tryz.ntmps109
  go_wp2
  repeat (go_quiet (fail); try go_wp2)
  go_loopg [5] k (fun kq v5 w' => ∃ (x5_1 : Int), v5 = .int .i64 x5_1 ∧ Aside0 (spec_l8Same.l0 kq l0 l1 x5_1 = some r) ∧ Aside0 (kq ≤ k) ∧ Drawn0 w w')
  case atStart => exact ⟨(0), e1_, H', ⟨Nat.le_refl _⟩, dw_⟩
  case round =>
   clear H'
   try clear c3
   try clear c3b0
   try clear c3b1
   try clear c3b2
   obtain ⟨x5_1, rfl, HA, HK1, ⟨m1, rfl⟩⟩ := hrel
   cases gk with
   | zero => exact absurd HA.out (by simp [spec_l8Same.l0])
   | succ k1 =>
    have H := HA.out
    clear HA
    simp only [spec_l8Same.l0] at H
    replace H := itd_ H; obtain ⟨c4b0, H⟩ | ⟨c4b0, H⟩ := H
    ·replace H := ipd_ H; obtain ⟨c5b0, H⟩ := H
     replace H := ipd_ H; obtain ⟨c6b0, H⟩ := H
     replace H := it_ H; obtain ⟨c7, H⟩ | ⟨c7, H⟩ := H
     ·have c7b0 : ((rdOf ByteArray.empty l0 x5_1).toList == (rdOf ByteArray.empty l1 x5_1).toList) = true := beq_iff_eq.mpr c7
      have c7b1 : ((rdOf ByteArray.empty l0 x5_1).toList != (rdOf ByteArray.empty l1 x5_1).toList) = false := bne_eq_false_iff_eq.mpr c7
      clear c7
      have H' := Aside0.mk H
      clear H
      have p601 : 0 ≤ (x5_1 : Int) := of_decide_eq_true as_
      have q601 : x5_1 < (l0.length : Int) := of_decide_eq_true as_
      obtain ⟨ad601, e601, hx601_0⟩ := Kd.at_string HR0.out x5_1 p601 q601
      cases e601
      replace p601 := eq_true p601
      replace q601 := eq_true q601
      have p602 : 0 ≤ (x5_1 : Int) := of_decide_eq_true as_
      have q602 : x5_1 < (l1.length : Int) := of_decide_eq_true as_
      obtain ⟨ad602, e602, hx602_0⟩ := Kd.at_string HR1.out x5_1 p602 q602
      cases e602
      replace p602 := eq_true p602
      replace q602 := eq_true q602
      go_wp2
      repeat (go_quiet (fail); try go_wp2)
      go_roundg k1
      case measure => have := HK1.out; omega
      case rel => exact ⟨(wrap64 (x5_1 + 1)), e1_, H', ⟨by have := HK1.out; omega⟩, dw_⟩
     ·have c7b0 : ((rdOf ByteArray.empty l0 x5_1).toList == (rdOf ByteArray.empty l1 x5_1).toList) = false := beq_eq_false_iff_ne.mpr c7
      have c7b1 : ((rdOf ByteArray.empty l0 x5_1).toList != (rdOf ByteArray.empty l1 x5_1).toList) = true := bne_iff_ne.mpr c7
      obtain rfl := Option.some.inj H
      have p601 : 0 ≤ (x5_1 : Int) := of_decide_eq_true as_
      have q601 : x5_1 < (l0.length : Int) := of_decide_eq_true as_
      obtain ⟨ad601, e601, hx601_0⟩ := Kd.at_string HR0.out x5_1 p601 q601
      cases e601
      replace p601 := eq_true p601
      replace q601 := eq_true q601
      have p602 : 0 ≤ (x5_1 : Int) := of_decide_eq_true as_
      have q602 : x5_1 < (l1.length : Int) := of_decide_eq_true as_
      obtain ⟨ad602, e602, hx602_0⟩ := Kd.at_string HR1.out x5_1 p602 q602
      cases e602
      replace p602 := eq_true p602
      replace q602 := eq_true q602
      go_wp2
      repeat (go_quiet (fail); try go_wp2)
      go_ret
      exact ⟨e1_, dw_⟩
    ·obtain rfl := Option.some.inj H
     go_wp2
     repeat (go_quiet (fail); try go_wp2)
     go_ret
     exact ⟨e1_, dw_⟩
 ·have c3b0 : ((l0.length : Int) == (l1.length : Int)) = false := beq_eq_false_iff_ne.mpr c3
  have c3b1 : ((l0.length : Int) != (l1.length : Int)) = true := bne_iff_ne.mpr c3
  have c3b2 : (l0.length == l1.length) = false := by first | simpa using c3 | (simp at c3 ⊢; omega)
  obtain rfl := Option.some.inj H
  go_enter Tryz.func109, Tryz.ntmps109
  go_wp2
  repeat (go_quiet (fail); try go_wp2)
  go_ret
  exact ⟨e1_, dw_⟩
def slices_Equal_string_string.l0 : Nat → List ByteArray → List ByteArray → Int → Int → Option (Bool)
 | 0, _, _, _, _ => none
 | k + 1, x0, x1, x12, x13 => if x13 < x12 then (if 0 ≤ x13 then (if x13 < (x0.length : Int) then (if x13 < (x1.length : Int) then (if (rdOf ByteArray.empty x0 x13).toList = (rdOf ByteArray.empty x1 x13).toList then (slices_Equal_string_string.l0 k x0 x1 x12 (wrap64 (x13 + 1))) else (some false)) else (none)) else (none)) else (none)) else (some true)
def slices_Equal_string_string.f (k : Nat) (l0 : List ByteArray) (l1 : List ByteArray) : Option (Bool) := if (l0.length : Int) = (l1.length : Int) then (slices_Equal_string_string.l0 k l0 l1 (l0.length : Int) 0) else (some false)
set_option maxHeartbeats 8000000 in
set_option maxRecDepth 100000 in
theorem slices_Equal_string_string.calls (k : Nat) (A0 : Option Addr) (c0 : Nat) (l0 : List ByteArray) (A1 : Option Addr) (c1 : Nat) (l1 : List ByteArray) (r : Bool) (w : World) (hr0 : Kd.C Kd.string w A0 l0.length l0) (hc0 : l0.length ≤ c0) (hr1 : Kd.C Kd.string w A1 l1.length l1) (hc1 : l1.length ≤ c1) (h : slices_Equal_string_string.f k l0 l1 = some r) :
  Calls Tryz.prog 66 #[.slice A0 l0.length c0, .slice A1 l1.length c1] w fun e w' => e = .returned (.bool r) ∧ Drawn0 w w' := by
 have HR0 := Aside0.mk hr0
 have HC0 := Aside0.mk hc0
 clear hr0 hc0
 have HR1 := Aside0.mk hr1
 have HC1 := Aside0.mk hc1
 clear hr1 hc1
 have H : (if (l0.length : Int) = (l1.length : Int) then (slices_Equal_string_string.l0 k l0 l1 (l0.length : Int) 0) else (some false)) = some r := h
 clear h
 replace H := it_ H; obtain ⟨c3, H⟩ | ⟨c3, H⟩ := H
 ·have c3b0 : ((l0.length : Int) == (l1.length : Int)) = true := beq_iff_eq.mpr c3
  have c3b1 : ((l0.length : Int) != (l1.length : Int)) = false := bne_eq_false_iff_eq.mpr c3
  have c3b2 : (l0.length == l1.length) = true := by first | simpa using c3 | (simp at c3 ⊢; omega)
  clear c3
  have H' := Aside0.mk H
  clear H
  go_enter Tryz.func66, Tryz.ntmps66
  go_wp2
  repeat (go_quiet (fail); try go_wp2)
  go_loopg [13] k (fun kq v13 w' => ∃ (x13_1 : Int), v13 = .int .i64 x13_1 ∧ Aside0 (slices_Equal_string_string.l0 kq l0 l1 (l0.length : Int) x13_1 = some r) ∧ Aside0 (kq ≤ k) ∧ Drawn0 w w')
  case atStart => exact ⟨(0), e1_, H', ⟨Nat.le_refl _⟩, dw_⟩
  case round =>
   clear H'
   try clear c3
   try clear c3b0
   try clear c3b1
   try clear c3b2
   obtain ⟨x13_1, rfl, HA, HK1, ⟨m1, rfl⟩⟩ := hrel
   cases gk with
   | zero => exact absurd HA.out (by simp [slices_Equal_string_string.l0])
   | succ k1 =>
    have H := HA.out
    clear HA
    simp only [slices_Equal_string_string.l0] at H
    replace H := itd_ H; obtain ⟨c4b0, H⟩ | ⟨c4b0, H⟩ := H
    ·replace H := ipd_ H; obtain ⟨c5b0, H⟩ := H
     replace H := ipd_ H; obtain ⟨c6b0, H⟩ := H
     replace H := ipd_ H; obtain ⟨c7b0, H⟩ := H
     replace H := it_ H; obtain ⟨c8, H⟩ | ⟨c8, H⟩ := H
     ·have c8b0 : ((rdOf ByteArray.empty l0 x13_1).toList == (rdOf ByteArray.empty l1 x13_1).toList) = true := beq_iff_eq.mpr c8
      have c8b1 : ((rdOf ByteArray.empty l0 x13_1).toList != (rdOf ByteArray.empty l1 x13_1).toList) = false := bne_eq_false_iff_eq.mpr c8
      clear c8
      have H' := Aside0.mk H
      clear H
      have p601 : 0 ≤ (x13_1 : Int) := of_decide_eq_true as_
      have q601 : x13_1 < (l0.length : Int) := of_decide_eq_true as_
      obtain ⟨ad601, e601, hx601_0⟩ := Kd.at_string HR0.out x13_1 p601 q601
      cases e601
      replace p601 := eq_true p601
      replace q601 := eq_true q601
      have p602 : 0 ≤ (x13_1 : Int) := of_decide_eq_true as_
      have q602 : x13_1 < (l1.length : Int) := of_decide_eq_true as_
      obtain ⟨ad602, e602, hx602_0⟩ := Kd.at_string HR1.out x13_1 p602 q602
      cases e602
      replace p602 := eq_true p602
      replace q602 := eq_true q602
      go_wp2
      repeat (go_quiet (fail); try go_wp2)
      go_roundg k1
      case measure => have := HK1.out; omega
      case rel => exact ⟨(wrap64 (x13_1 + 1)), e1_, H', ⟨by have := HK1.out; omega⟩, dw_⟩
     ·have c8b0 : ((rdOf ByteArray.empty l0 x13_1).toList == (rdOf ByteArray.empty l1 x13_1).toList) = false := beq_eq_false_iff_ne.mpr c8
      have c8b1 : ((rdOf ByteArray.empty l0 x13_1).toList != (rdOf ByteArray.empty l1 x13_1).toList) = true := bne_iff_ne.mpr c8
      obtain rfl := Option.some.inj H
      have p601 : 0 ≤ (x13_1 : Int) := of_decide_eq_true as_
      have q601 : x13_1 < (l0.length : Int) := of_decide_eq_true as_
      obtain ⟨ad601, e601, hx601_0⟩ := Kd.at_string HR0.out x13_1 p601 q601
      cases e601
      replace p601 := eq_true p601
      replace q601 := eq_true q601
      have p602 : 0 ≤ (x13_1 : Int) := of_decide_eq_true as_
      have q602 : x13_1 < (l1.length : Int) := of_decide_eq_true as_
      obtain ⟨ad602, e602, hx602_0⟩ := Kd.at_string HR1.out x13_1 p602 q602
      cases e602
      replace p602 := eq_true p602
      replace q602 := eq_true q602
      go_wp2
      repeat (go_quiet (fail); try go_wp2)
      go_ret
      exact ⟨e1_, dw_⟩
    ·obtain rfl := Option.some.inj H
     go_wp2
     repeat (go_quiet (fail); try go_wp2)
     go_ret
     exact ⟨e1_, dw_⟩
 ·have c3b0 : ((l0.length : Int) == (l1.length : Int)) = false := beq_eq_false_iff_ne.mpr c3
  have c3b1 : ((l0.length : Int) != (l1.length : Int)) = true := bne_iff_ne.mpr c3
  have c3b2 : (l0.length == l1.length) = false := by first | simpa using c3 | (simp at c3 ⊢; omega)
  obtain rfl := Option.some.inj H
  go_enter Tryz.func66, Tryz.ntmps66
  go_wp2
  repeat (go_quiet (fail); try go_wp2)
  go_ret
  exact ⟨e1_, dw_⟩
end Go.Proofs.YtnlndmoecljicaaGreat.Q
end
section
namespace Go.Proofs.YtnlndmoecljicaaGreat.Q
open Go.RowKit Go.Proofs.YtnlndmoecljicaaGreat.B Go.Proofs.YtnlndmoecljicaaGreatW.PrintWords
set_option linter.unusedVariables false
set_option linter.unusedSimpArgs false
theorem nextC {i n : Nat} (h : i < n) (hn : n ≤ 9223372036854775807) : wrap64 ((i : Int) + 1) = ((i + 1 : Nat) : Int) := by
 rw [w64 (by omega) (by omega)]
 omega
theorem spec_same_ev (a b : List ByteArray) (ha : a.length ≤ 9223372036854775807) : Ev (fun k => spec_l8Same.f k a b) (decide (a = b)) := by
 unfold spec_l8Same.f
 by_cases hl : a.length = b.length
 ·have main : ∀ (d i : Nat), i + d = a.length → a.take i = b.take i → Ev (fun k => spec_l8Same.l0 k a b (i : Int)) (decide (a = b)) := by
   intro d
   induction d with
   | zero =>
    intro i hi ht
    rw [List.take_of_length_le (by omega), List.take_of_length_le (by omega)] at ht
    rw [decide_eq_true ht]
    refine Ev.step (fun k => by simp only [spec_l8Same.l0]; rfl) ?_
    exact Ev.neg (by omega) (Ev.now _)
   | succ d ih =>
    intro i hi ht
    obtain ⟨x, hx⟩ := get_some (l := a) (i := i) (by omega)
    obtain ⟨y, hy⟩ := get_some (l := b) (i := i) (by omega)
    refine Ev.step (fun k => by simp only [spec_l8Same.l0]; rfl) ?_
    rw [rdOf_at hx, rdOf_at hy, nextC (show i < a.length by omega) ha]
    by_cases h : x.toList = y.toList
    ·have e := bytes_ext h
     subst e
     exact Ev.pos (by omega) (Ev.pos (by omega) (Ev.pos (by omega) (Ev.pos rfl (ih (i + 1) (by omega) (by rw [take_one hx, take_one hy, ht])))))
    ·have hn : ¬ a = b := by
      intro e
      subst e
      rw [hx] at hy
      exact h (by rw [Option.some.inj hy])
     rw [decide_eq_false hn]
     exact Ev.pos (by omega) (Ev.pos (by omega) (Ev.pos (by omega) (Ev.neg h (Ev.now _))))
  exact Ev.pos (by omega) (main a.length 0 (by omega) (by simp))
 ·have hn : ¬ a = b := fun e => hl (by rw [e])
  rw [decide_eq_false hn]
  exact Ev.neg (by omega) (Ev.now _)
theorem impl_same_ev (a b : List ByteArray) (ha : a.length ≤ 9223372036854775807) : Ev (fun k => slices_Equal_string_string.f k a b) (decide (a = b)) := by
 unfold slices_Equal_string_string.f
 by_cases hl : a.length = b.length
 ·have main : ∀ (d i : Nat), i + d = a.length → a.take i = b.take i → Ev (fun k => slices_Equal_string_string.l0 k a b (a.length : Int) (i : Int)) (decide (a = b)) := by
   intro d
   induction d with
   | zero =>
    intro i hi ht
    rw [List.take_of_length_le (by omega), List.take_of_length_le (by omega)] at ht
    rw [decide_eq_true ht]
    refine Ev.step (fun k => by simp only [slices_Equal_string_string.l0]; rfl) ?_
    exact Ev.neg (by omega) (Ev.now _)
   | succ d ih =>
    intro i hi ht
    obtain ⟨x, hx⟩ := get_some (l := a) (i := i) (by omega)
    obtain ⟨y, hy⟩ := get_some (l := b) (i := i) (by omega)
    refine Ev.step (fun k => by simp only [slices_Equal_string_string.l0]; rfl) ?_
    rw [rdOf_at hx, rdOf_at hy, nextC (show i < a.length by omega) ha]
    by_cases h : x.toList = y.toList
    ·have e := bytes_ext h
     subst e
     exact Ev.pos (by omega) (Ev.pos (by omega) (Ev.pos (by omega) (Ev.pos (by omega) (Ev.pos rfl (ih (i + 1) (by omega) (by rw [take_one hx, take_one hy, ht]))))))
    ·have hn : ¬ a = b := by
      intro e
      subst e
      rw [hx] at hy
      exact h (by rw [Option.some.inj hy])
     rw [decide_eq_false hn]
     exact Ev.pos (by omega) (Ev.pos (by omega) (Ev.pos (by omega) (Ev.pos (by omega) (Ev.neg h (Ev.now _)))))
  exact Ev.pos (by omega) (main a.length 0 (by omega) (by simp))
 ·have hn : ¬ a = b := fun e => hl (by rw [e])
  rw [decide_eq_false hn]
  exact Ev.neg (by omega) (Ev.now _)
end Go.Proofs.YtnlndmoecljicaaGreat.Q
end
section
namespace Go.Proofs.YtnlndmoecljicaaGreat.Q
open Go.RowKit Go.Proofs.YtnlndmoecljicaaGreatW.PrintWords Go.Proofs.YtnlndmoecljicaaGreatW.PrintLast Go.Proofs.YtnlndmoecljicaaGreatW.PrintMore
attribute [local go_sem] max2_int min2_int max_two min_two max_three min_three max_four min_four   -- for this text's walks alone
set_option linter.unusedVariables false
set_option linter.unusedSimpArgs false
attribute [local go_sem high] eqA37
mutual
def impl_StoreOk.j0 : Nat → Bool → List ByteArray → Int → ByteArray → List Int → Int → Option (Bool)
 | 0, _, _, _, _, _, _ => none
 | k + 1, x27, x602000, x602001, x602002, x602003, x602004 => if x27 = true then (some false) else (impl_StoreOk.l0 k ([] : List ByteArray) 0 x602000 x602001 x602002 x602003 x602004)
def impl_StoreOk.l0 : Nat → List ByteArray → Int → List ByteArray → Int → ByteArray → List Int → Int → Option (Bool)
 | 0, _, _, _, _, _, _, _ => none
 | k + 1, x3, x4, x602000, x602001, x602002, x602003, x602004 => if x4 < (x602003.length : Int) then ((impl_GetCommit.f k x602003 x4).bind fun bt605 => (if x3.length + bt605.2.2.1.length < 8796093022208 then ((some (x3 ++ bt605.2.2.1 : List ByteArray)).bind fun y613 => (if bt605.2.2.2.2 = true then ((impl_HeadOf.f k y613).bind fun bt616 => (if (!(bt605.1 == bt616.1) || (!(bt605.2.1.toList == bt616.2.toList))) = true then (some false) else (impl_StoreOk.l0 k y613 bt605.2.2.2.1 x602000 x602001 x602002 x602003 x602004))) else (some false))) else (none))) else ((slices_Equal_string_string.f k x3 x602000).bind fun t604 => (some t604))
end
def impl_StoreOk.f (k : Nat) (l0_0 : List ByteArray) (a0_1 : Int) (a0_2 : ByteArray) (l0_3 : List Int) (a0_4 : Int) : Option (Bool) := (impl_LogOk.f k l0_0 a0_1 a0_2).bind fun t602 => (if t602 = true then (if (l0_3.length : Int) > 60000 then (impl_StoreOk.j0 k true l0_0 a0_1 a0_2 l0_3 a0_4) else ((impl_inRange.f a0_4 0 (l0_3.length : Int)).bind fun t603 => (impl_StoreOk.j0 k (!t603) l0_0 a0_1 a0_2 l0_3 a0_4))) else (impl_StoreOk.j0 k true l0_0 a0_1 a0_2 l0_3 a0_4))
def impl_StoreOk.T8 : Bool × List (List Nat × List Nat) := (true, [([], []), ([0], [0]), ([1], [1]), ([2], [2]), ([2], [2]), ([4, 2, 2], [2, 4]), ([3, 5, 2], [2, 3, 5]), ([2, 6], [2, 6])])
def impl_StoreOk.B8 : List Nat := [0, 1, 3, 7, 7, 23, 63, 127]
theorem impl_StoreOk.tab8 : rtab .any (opsOf Tryz.f29 8) = impl_StoreOk.T8 := by kernel_rfl
theorem impl_StoreOk.bits8 : waitsOk impl_StoreOk.T8.2 impl_StoreOk.B8 = true := by kernel_rfl
set_option maxHeartbeats 8000000 in
set_option maxRecDepth 100000 in
theorem impl_StoreOk.calls (k : Nat) (A0_0 : Option Addr) (c0_0 : Nat) (l0_0 : List ByteArray) (a0_1 : Int) (a0_2 : ByteArray) (A0_3 : Option Addr) (c0_3 : Nat) (l0_3 : List Int) (a0_4 : Int) (r : Bool) (w : World) (hr0_0 : Kd.C Kd.string w A0_0 l0_0.length l0_0) (hc0_0 : l0_0.length ≤ c0_0) (hr0_3 : Kd.C (Kd.int .u8) w A0_3 l0_3.length l0_3) (hc0_3 : l0_3.length ≤ c0_3) (h : impl_StoreOk.f k l0_0 a0_1 a0_2 l0_3 a0_4 = some r) :
  Calls Tryz.prog 29 #[.agg #[.slice A0_0 l0_0.length c0_0, .int .i64 a0_1, .string a0_2, .slice A0_3 l0_3.length c0_3, .int .i64 a0_4]] w fun e w' => e = .returned (.bool r) ∧ Below w.heap.size w w' := by
 have hu41 := Tryz.underlying41
 have hu39 := Tryz.underlying39
 have hu37 := Tryz.underlying37
 have HR0_0 := Aside0.mk hr0_0
 have HC0_0 := Aside0.mk hc0_0
 clear hr0_0 hc0_0
 have HR0_3 := Aside0.mk hr0_3
 have HC0_3 := Aside0.mk hc0_3
 clear hr0_3 hc0_3
 have HB := Aside0.mk (Below.refl w.heap.size w)
 have H : ((impl_LogOk.f k l0_0 a0_1 a0_2).bind fun t602 => (if t602 = true then (if (l0_3.length : Int) > 60000 then (impl_StoreOk.j0 k true l0_0 a0_1 a0_2 l0_3 a0_4) else ((impl_inRange.f a0_4 0 (l0_3.length : Int)).bind fun t603 => (impl_StoreOk.j0 k (!t603) l0_0 a0_1 a0_2 l0_3 a0_4))) else (impl_StoreOk.j0 k true l0_0 a0_1 a0_2 l0_3 a0_4))) = some r := h
 clear h
 have HC2 := Aside0.mk H
 clear H
 go_enter Tryz.func29, Tryz.ntmps29
 go_upto_region 1 with (first | ((with_reducible refine gd_ 1 ?_); (try (refine gate_guard (by rfl) ?_; dsimp only)); refine bx_ 1 41 #[.slice A0_0 l0_0.length c0_0, .int .i64 a0_1, .string a0_2, .slice A0_3 l0_3.length c0_3, .int .i64 a0_4] ?_; intro gb601 hg w3 hbox hb; have BK601 := Aside0.mk hbox; have GW601 := gg_ hg HB; have GE601 := GW601; replace HB := ss_ HB hb; clear hb hbox hg))
 (try simp only [Act.put, List.setIfInBounds_toArray, List.set_cons_zero, List.set_cons_succ])
 go_cut [27] (fun v27 wc => ∃ (kq : Nat) (x27_1 : Bool), v27 = .bool x27_1 ∧ Aside0 (impl_StoreOk.j0 kq x27_1 l0_0 a0_1 a0_2 l0_3 a0_4 = some r) ∧ Aside0 (kq ≤ k) ∧ Aside0 (wc.heap[gb601]? = some (.cells #[(.slice A0_0 l0_0.length c0_0), .int .i64 a0_1, .string a0_2, (.slice A0_3 l0_3.length c0_3), .int .i64 a0_4] 41 (0, 0))) ∧ Aside0 (Below w.heap.size w wc))
 case first =>
  have H := HC2.out
  clear HC2
  replace H := bi_ H; obtain ⟨t602, A4, H⟩ := H
  replace H := itb_ H; obtain ⟨rfl, H⟩ | ⟨rfl, H⟩ := H
  ·replace H := it_ H; obtain ⟨c6, H⟩ | ⟨c6, H⟩ := H
   ·have c6b0 : decide (60000 < (l0_3.length : Int)) = true := decide_eq_true c6
    have c6b1 : decide (60000 < l0_3.length) = true := decide_eq_true (by omega)
    clear c6
    (first | rw [c6b0] | (simp only [i64_w, i32_w]; rw [c6b0]) | rw [c6b1] | skip)
    have H' := Aside0.mk H
    clear H
    have hz7 := cz5_ BK601
    go_wp2_with (first | ((with_reducible refine gq_ 62 11 ?_); refine gc_ 11 Tryz.func62 (impl_LogOk.calls k _ _ l0_0 a0_1 a0_2 true _ (cb_ HR0_0 HB) HC0_0.out A4.out) ?_; rintro e w8 ⟨rfl, hb⟩; refine ⟨_, rfl, ?_⟩; replace BK601 := kl_ BK601 hb; replace HB := ss_ HB hb; clear hb; have hz9 := cz5_ BK601))
    go_meet
    case rel => exact ⟨_, (true), e1_, H', ⟨le_⟩, ⟨kb_ BK601.out⟩, ⟨bw_ HB⟩⟩
   ·have c6b0 : decide (60000 < (l0_3.length : Int)) = false := decide_eq_false c6
    have c6b1 : decide (60000 < l0_3.length) = false := decide_eq_false (by omega)
    clear c6
    (first | rw [c6b0] | (simp only [i64_w, i32_w]; rw [c6b0]) | rw [c6b1] | skip)
    replace H := bi_ H; obtain ⟨t603, A10, H⟩ := H
    have H' := Aside0.mk H
    clear H
    have hz11 := cz5_ BK601
    go_wp2_with (first | ((with_reducible refine gq_ 62 11 ?_); refine gc_ 11 Tryz.func62 (impl_LogOk.calls k _ _ l0_0 a0_1 a0_2 true _ (cb_ HR0_0 HB) HC0_0.out A4.out) ?_; rintro e w12 ⟨rfl, hb⟩; refine ⟨_, rfl, ?_⟩; replace BK601 := kl_ BK601 hb; replace HB := ss_ HB hb; clear hb; have hz13 := cz5_ BK601) | (go_at_call 63; (with_reducible refine (impl_inRange.calls a0_4 0 (l0_3.length : Int) t603 _ A10.out).mono ?_); rintro e w' ⟨rfl, ⟨nd, rfl⟩⟩))
    go_meet
    case rel => exact ⟨_, (!t603), e1_, H', ⟨le_⟩, ⟨kb_ BK601.out⟩, ⟨bw_ HB⟩⟩
  ·have H' := Aside0.mk H
   clear H
   have hz14 := cz5_ BK601
   go_wp2_with (first | ((with_reducible refine gq_ 62 11 ?_); refine gc_ 11 Tryz.func62 (impl_LogOk.calls k _ _ l0_0 a0_1 a0_2 false _ (cb_ HR0_0 HB) HC0_0.out A4.out) ?_; rintro e w15 ⟨rfl, hb⟩; refine ⟨_, rfl, ?_⟩; replace BK601 := kl_ BK601 hb; replace HB := ss_ HB hb; clear hb))
   go_meet
   case rel => exact ⟨_, (true), e1_, H', ⟨le_⟩, ⟨kb_ BK601.out⟩, ⟨bw_ HB⟩⟩
 case rest =>
  clear HC2
  obtain ⟨kq, x27_1, rfl, HA, HJ1, BK601, HB⟩ := hcut
  cases kq with
  | zero => exact absurd HA.out (by simp [impl_StoreOk.j0])
  | succ kj1 =>
   have H := HA.out
   clear HA
   simp only [impl_StoreOk.j0] at H
   replace H := itb_ H; obtain ⟨rfl, H⟩ | ⟨rfl, H⟩ := H
   ·obtain rfl := Option.some.inj H
    go_wp2
    go_ret
    exact ⟨e2_, bw_ HB⟩
   ·have H' := Aside0.mk H
    clear H
    go_wp2
    go_loopg [3, 4] kj1 (fun kq v3 v4 w' => ∃ (x3_2 : List ByteArray) (x4_2 : Int), v4 = .int .i64 x4_2 ∧ Aside0 (impl_StoreOk.l0 kq x3_2 x4_2 l0_0 a0_1 a0_2 l0_3 a0_4 = some r) ∧ Aside0 (kq ≤ kj1) ∧ Aside0 (Kd.R Kd.string 9 w' w.heap.size (fun _ => True) v3 x3_2) ∧ Aside0 (w'.heap[gb601]? = some (.cells #[(.slice A0_0 l0_0.length c0_0), .int .i64 a0_1, .string a0_2, (.slice A0_3 l0_3.length c0_3), .int .i64 a0_4] 41 (0, 0))) ∧ Aside0 (Below w.heap.size w w'))
    case atStart => exact ⟨(([] : List ByteArray)), (0), e1_, H', ⟨Nat.le_refl _⟩, ⟨by first | exact Kd.R_nil _ _ _ _ _ | exact Kd.N_nil _ _ _ _ _ | exact Kd.V_nil _ _ _ _ _ | exact Kd.Q_nil _ _ _ _ _ | exact Kd.S_nil _ _ _ _ _⟩, ⟨kb_ BK601.out⟩, ⟨bw_ HB⟩⟩
    case round =>
     clear H'
     try clear c2
     try clear p2
     try clear c5
     try clear c6
     try clear c6b0
     try clear c6b1
     try clear hz11
     try clear hz13
     try clear hz14
     try clear hz7
     try clear hz9
     obtain ⟨x3_2, x4_2, rfl, HA, HK2, HO_3, BK601, HB⟩ := hrel
     cases gk with
     | zero => exact absurd HA.out (by simp [impl_StoreOk.l0])
     | succ k2 =>
      have H := HA.out
      clear HA
      simp only [impl_StoreOk.l0] at H
      replace H := itd_ H; obtain ⟨c17b0, H⟩ | ⟨c17b0, H⟩ := H
      ·replace H := bi_ H; obtain ⟨⟨t605, t606, t607, t610, t611⟩, A18, H⟩ := H
       dsimp only at H
       replace H := ip_ H; obtain ⟨c19, H⟩ := H
       have LMc19 := Aside0.mk c19
       clear c19
       obtain ⟨y613, Ny613, H⟩ := sb_ (x3_2 ++ t607) H
       replace H := itb_ H; obtain ⟨rfl, H⟩ | ⟨rfl, H⟩ := H
       ·replace H := bi_ H; obtain ⟨⟨t616, t617⟩, A21, H⟩ := H
        dsimp only at H
        replace H := it_ H; obtain ⟨c22, H⟩ | ⟨c22, H⟩ := H
        ·have c22b0 : (!(t605 == t616) || (!(t606.toList == t617.toList))) = true := c22
         clear c22
         obtain rfl := Option.some.inj H
         have hz23 := cz5_ BK601
         try go_wp2_with (first | ((with_reducible refine gq_ 64 37 ?_); refine gc_ 37 Tryz.func64 (impl_GetCommit.calls k2 _ _ l0_3 x4_2 t605 t606 t607 t610 true _ (cb_ HR0_3 HB) HC0_3.out A18.out) ?_; rintro e w24 ⟨v608, rfl, ho0, hb⟩; refine ⟨_, rfl, ?_⟩; have HO609 := Aside0.mk (Kd.R_lower (Kd.R_new' ho0 (lt_ HO_3)) (sz_ HB)); replace HO_3 := re_ HO_3 ho0 hb; replace BK601 := kl_ BK601 hb; replace HB := ss_ HB hb; clear hb ho0) | ((with_reducible refine gd_ 5 ?_); (try (refine gate_guard (by rfl) ?_; dsimp only)); refine bx_ 5 37 #[.int .i64 0, .string (⟨#[]⟩ : ByteArray)] ?_; intro gb612 hg w25 hbox hb; replace HO_3 := rb_ HO_3 hb; replace HO609 := rb_ HO609 hb; have BK612 := Aside0.mk hbox; have GW612 := gg_ hg HB; have GE612 := GW612; replace HB := ss_ HB hb; have NB601_612 := nla_ hg BK601; have NB612_601 := nga_ hg BK601; replace BK601 := kl_ BK601 hb; clear hb hbox hg; have hnb26 := NB612_601.out; have hnc26 := NB601_612.out; have hz27 := cz2_ BK612; obtain ⟨Ao29, co29, eo29⟩ := Kd.R_slice HO609.out; subst eo29) | ((with_reducible refine gate_builtin (b := .append) (xs := #[.tmp 42, .tmp 43]) rfl ?_); (try (refine gate_guard (by rfl) ?_; dsimp only)); at_builtin; refine Kd.R_append_rows Kd.string (w0 := w) w.heap.size rfl (.tmp 42) (.tmp 43) 22 9 (.string ⟨#[]⟩) 16 rfl Tryz.underlying22 info9 rfl (by decide) (by omega) u3 x3_2 t607 _ _ _ (fun k_ => some k_ ≠ (.slice Ao29 t607.length co29 : Value).ownBlock) (fun _ => False) rfl rfl ?aO ?aR (fun _ _ h => h) (fun _ h => h.elim) ?aF ?aB ?aS ?aL ?_; (case aR => exact chf_ HO609 BK612); (case aB => exact (bw_ HB)); (case aF => exact (fun k_ hk => Kd.fresh' (lf_ HO609 BK612) k_ hk)); (case aO => exact (kr_ (Kd.R_mono (Kd.R_far (p := ⟨gb612, 1, none⟩) (Kd.R_far (p := ⟨gb612, 0, none⟩) (Kd.R_types HO_3.out BK612.out (by decide)) (fun _ hk => hk.2) (.int .i64 t605)) (fun _ hk => hk.2) (.string t606)) (fun _ hk => hk.1.2)))); (case aS => exact (sz_ HB)); (case aL => have := LMc19.out; omega); intro v614 w28 ho hb hg hat; rw [← Ny613.out] at ho; replace BK601 := kgp_ BK601 HO_3 hg; replace HO609 := Aside0.mk (Kd.R_after (ok := (fun _ => True)) (kr_ (Kd.R_mono (Kd.R_far (p := ⟨gb612, 1, none⟩) (Kd.R_far (p := ⟨gb612, 0, none⟩) (Kd.R_types HO609.out BK612.out (by decide)) (fun _ hk => hk.2) (.int .i64 t605)) (fun _ hk => hk.2) (.string t606)) (fun _ hk => ⟨trivial, hk.1.2⟩))) hg hat); replace BK612 := kgp_ BK612 HO_3 hg; replace HB := Aside0.mk hb; have HO615 := Aside0.mk ho; clear HO_3; clear ho hb hg hat))
         replace HO609 := Aside0.mk (Kd.R_drew HO609.out)
         replace HO615 := Aside0.mk (Kd.R_drew HO615.out)
         replace BK601 := Aside0.mk (blk_drew BK601.out)
         replace BK612 := Aside0.mk (blk_drew BK612.out)
         replace HB := Aside0.mk (below_drew1 HB.out)
         obtain ⟨Ao31, co31, eo31⟩ := Kd.R_slice HO615.out
         (first | subst eo31 | (injection eo31 with f1_ f2_ f3_; have f4_ := f1_.symm; have f5_ := f3_.symm; clear f1_ f2_ f3_; subst f4_; subst f5_))
         refine start_ (n := 8) (S := fun w' => w'.cell? ⟨gb612, 0, none⟩ = some (.int .i64 t605) ∧ w'.cell? ⟨gb612, 1, none⟩ = some (.string t606)) (ds := []) (lz_ 8 0) (by kernel_rfl) rfl rfl ⟨bc0_ BK612.out, bc1_ BK612.out⟩ (fun hHeld => ?_); refine with_tabW impl_StoreOk.tab8 impl_StoreOk.bits8 (fun HT_ HW_ => ?_)
         generalize w28.drew = w30 at HO609 HO615 BK601 BK612 HB hHeld ⊢
         refine pt_ 0 45 1 ?_
         refine pt_ 1 46 3 ?_
         refine pt_ 2 47 7 ?_
         refine pt_ 4 49 23 ?_
         refine tt_ 3 48 31 ?_
         refine one_ (i := 5) (N := some 50) (lz_ 8 63) rfl rfl (one_of HT_.out (by kernel_rfl)) (by decide) (fun K hK => ?_)
         refine gf_ Tryz.func65 (impl_HeadOf.calls k2 _ _ y613 t616 t617 _ (ch_ HO615) (cl_ HO615) A21.out) ?_
         rintro e w32 ⟨rfl, hb⟩
         refine ⟨_, rfl, ?_⟩
         replace HO609 := rb_ HO609 hb
         replace HO615 := rb_ HO615 hb
         replace BK601 := kl_ BK601 hb
         replace BK612 := kl_ BK612 hb
         replace HB := ss_ HB hb
         clear hb
         refine hK.out _ _ ⟨bc0_ BK612.out, bc1_ BK612.out⟩ (fun hHeld => ?_)
         clear hK K
         refine no_ 50 ?_
         refine pt_ 6 51 127 ?_
         refine pt_ 7 52 255 ?_
         refine done_ (done_of HT_.out (by kernel_rfl)) ?_
         try go_wp2
         go_ret
         exact ⟨e2_, bw_ HB⟩
        ·have c22b0 : (!(t605 == t616) || (!(t606.toList == t617.toList))) = false := by simpa using c22
         clear c22
         have H' := Aside0.mk H
         clear H
         have hz33 := cz5_ BK601
         try go_wp2_with (first | ((with_reducible refine gq_ 64 37 ?_); refine gc_ 37 Tryz.func64 (impl_GetCommit.calls k2 _ _ l0_3 x4_2 t605 t606 t607 t610 true _ (cb_ HR0_3 HB) HC0_3.out A18.out) ?_; rintro e w34 ⟨v608, rfl, ho0, hb⟩; refine ⟨_, rfl, ?_⟩; have HO609 := Aside0.mk (Kd.R_lower (Kd.R_new' ho0 (lt_ HO_3)) (sz_ HB)); replace HO_3 := re_ HO_3 ho0 hb; replace BK601 := kl_ BK601 hb; replace HB := ss_ HB hb; clear hb ho0) | ((with_reducible refine gd_ 5 ?_); (try (refine gate_guard (by rfl) ?_; dsimp only)); refine bx_ 5 37 #[.int .i64 0, .string (⟨#[]⟩ : ByteArray)] ?_; intro gb612 hg w35 hbox hb; replace HO_3 := rb_ HO_3 hb; replace HO609 := rb_ HO609 hb; have BK612 := Aside0.mk hbox; have GW612 := gg_ hg HB; have GE612 := GW612; replace HB := ss_ HB hb; have NB601_612 := nla_ hg BK601; have NB612_601 := nga_ hg BK601; replace BK601 := kl_ BK601 hb; clear hb hbox hg; have hnb36 := NB612_601.out; have hnc36 := NB601_612.out; have hz37 := cz2_ BK612; obtain ⟨Ao39, co39, eo39⟩ := Kd.R_slice HO609.out; subst eo39) | ((with_reducible refine gate_builtin (b := .append) (xs := #[.tmp 42, .tmp 43]) rfl ?_); (try (refine gate_guard (by rfl) ?_; dsimp only)); at_builtin; refine Kd.R_append_rows Kd.string (w0 := w) w.heap.size rfl (.tmp 42) (.tmp 43) 22 9 (.string ⟨#[]⟩) 16 rfl Tryz.underlying22 info9 rfl (by decide) (by omega) u3 x3_2 t607 _ _ _ (fun k_ => some k_ ≠ (.slice Ao39 t607.length co39 : Value).ownBlock) (fun _ => False) rfl rfl ?aO ?aR (fun _ _ h => h) (fun _ h => h.elim) ?aF ?aB ?aS ?aL ?_; (case aR => exact chf_ HO609 BK612); (case aB => exact (bw_ HB)); (case aF => exact (fun k_ hk => Kd.fresh' (lf_ HO609 BK612) k_ hk)); (case aO => exact (kr_ (Kd.R_mono (Kd.R_far (p := ⟨gb612, 1, none⟩) (Kd.R_far (p := ⟨gb612, 0, none⟩) (Kd.R_types HO_3.out BK612.out (by decide)) (fun _ hk => hk.2) (.int .i64 t605)) (fun _ hk => hk.2) (.string t606)) (fun _ hk => hk.1.2)))); (case aS => exact (sz_ HB)); (case aL => have := LMc19.out; omega); intro v614 w38 ho hb hg hat; rw [← Ny613.out] at ho; replace BK601 := kgp_ BK601 HO_3 hg; replace HO609 := Aside0.mk (Kd.R_after (ok := (fun _ => True)) (kr_ (Kd.R_mono (Kd.R_far (p := ⟨gb612, 1, none⟩) (Kd.R_far (p := ⟨gb612, 0, none⟩) (Kd.R_types HO609.out BK612.out (by decide)) (fun _ hk => hk.2) (.int .i64 t605)) (fun _ hk => hk.2) (.string t606)) (fun _ hk => ⟨trivial, hk.1.2⟩))) hg hat); replace BK612 := kgp_ BK612 HO_3 hg; replace HB := Aside0.mk hb; have HO615 := Aside0.mk ho; clear HO_3; clear ho hb hg hat))
         replace HO609 := Aside0.mk (Kd.R_drew HO609.out)
         replace HO615 := Aside0.mk (Kd.R_drew HO615.out)
         replace BK601 := Aside0.mk (blk_drew BK601.out)
         replace BK612 := Aside0.mk (blk_drew BK612.out)
         replace HB := Aside0.mk (below_drew1 HB.out)
         obtain ⟨Ao41, co41, eo41⟩ := Kd.R_slice HO615.out
         (first | subst eo41 | (injection eo41 with f1_ f2_ f3_; have f4_ := f1_.symm; have f5_ := f3_.symm; clear f1_ f2_ f3_; subst f4_; subst f5_))
         refine start_ (n := 8) (S := fun w' => w'.cell? ⟨gb612, 0, none⟩ = some (.int .i64 t605) ∧ w'.cell? ⟨gb612, 1, none⟩ = some (.string t606)) (ds := []) (lz_ 8 0) (by kernel_rfl) rfl rfl ⟨bc0_ BK612.out, bc1_ BK612.out⟩ (fun hHeld => ?_); refine with_tabW impl_StoreOk.tab8 impl_StoreOk.bits8 (fun HT_ HW_ => ?_)
         generalize w38.drew = w40 at HO609 HO615 BK601 BK612 HB hHeld ⊢
         refine pt_ 0 45 1 ?_
         refine pt_ 1 46 3 ?_
         refine pt_ 2 47 7 ?_
         refine pt_ 4 49 23 ?_
         refine tt_ 3 48 31 ?_
         refine one_ (i := 5) (N := some 50) (lz_ 8 63) rfl rfl (one_of HT_.out (by kernel_rfl)) (by decide) (fun K hK => ?_)
         refine gf_ Tryz.func65 (impl_HeadOf.calls k2 _ _ y613 t616 t617 _ (ch_ HO615) (cl_ HO615) A21.out) ?_
         rintro e w42 ⟨rfl, hb⟩
         refine ⟨_, rfl, ?_⟩
         replace HO609 := rb_ HO609 hb
         replace HO615 := rb_ HO615 hb
         replace BK601 := kl_ BK601 hb
         replace BK612 := kl_ BK612 hb
         replace HB := ss_ HB hb
         clear hb
         refine hK.out _ _ ⟨bc0_ BK612.out, bc1_ BK612.out⟩ (fun hHeld => ?_)
         clear hK K
         refine no_ 50 ?_
         refine pt_ 6 51 127 ?_
         refine pt_ 7 52 255 ?_
         refine done_ (done_of HT_.out (by kernel_rfl)) ?_
         try go_wp2
         go_roundg k2
         case measure => have := HJ1.out; have := HK2.out; omega
         case rel => exact ⟨(y613), (t610), e1_, H', ⟨by have := HJ1.out; have := HK2.out; omega⟩, ⟨by (with_reducible repeat (first | apply Kd.R_alloc | apply Kd.R_drewN | apply Kd.R_drew)); exact Kd.R_mono HO615.out (fun _ hk => trivial)⟩, ⟨kb_ BK601.out⟩, ⟨bw_ HB⟩⟩
       ·obtain rfl := Option.some.inj H
        have hz43 := cz5_ BK601
        try go_wp2_with (first | ((with_reducible refine gq_ 64 37 ?_); refine gc_ 37 Tryz.func64 (impl_GetCommit.calls k2 _ _ l0_3 x4_2 t605 t606 t607 t610 false _ (cb_ HR0_3 HB) HC0_3.out A18.out) ?_; rintro e w44 ⟨v608, rfl, ho0, hb⟩; refine ⟨_, rfl, ?_⟩; have HO609 := Aside0.mk (Kd.R_lower (Kd.R_new' ho0 (lt_ HO_3)) (sz_ HB)); replace HO_3 := re_ HO_3 ho0 hb; replace BK601 := kl_ BK601 hb; replace HB := ss_ HB hb; clear hb ho0) | ((with_reducible refine gd_ 5 ?_); (try (refine gate_guard (by rfl) ?_; dsimp only)); refine bx_ 5 37 #[.int .i64 0, .string (⟨#[]⟩ : ByteArray)] ?_; intro gb612 hg w45 hbox hb; replace HO_3 := rb_ HO_3 hb; replace HO609 := rb_ HO609 hb; have BK612 := Aside0.mk hbox; have GW612 := gg_ hg HB; have GE612 := GW612; replace HB := ss_ HB hb; have NB601_612 := nla_ hg BK601; have NB612_601 := nga_ hg BK601; replace BK601 := kl_ BK601 hb; clear hb hbox hg; have hnb46 := NB612_601.out; have hnc46 := NB601_612.out; have hz47 := cz2_ BK612; obtain ⟨Ao49, co49, eo49⟩ := Kd.R_slice HO609.out; subst eo49) | ((with_reducible refine gate_builtin (b := .append) (xs := #[.tmp 42, .tmp 43]) rfl ?_); (try (refine gate_guard (by rfl) ?_; dsimp only)); at_builtin; refine Kd.R_append_rows Kd.string (w0 := w) w.heap.size rfl (.tmp 42) (.tmp 43) 22 9 (.string ⟨#[]⟩) 16 rfl Tryz.underlying22 info9 rfl (by decide) (by omega) u3 x3_2 t607 _ _ _ (fun k_ => some k_ ≠ (.slice Ao49 t607.length co49 : Value).ownBlock) (fun _ => False) rfl rfl ?aO ?aR (fun _ _ h => h) (fun _ h => h.elim) ?aF ?aB ?aS ?aL ?_; (case aR => exact chf_ HO609 BK612); (case aB => exact (bw_ HB)); (case aF => exact (fun k_ hk => Kd.fresh' (lf_ HO609 BK612) k_ hk)); (case aO => exact (kr_ (Kd.R_mono (Kd.R_far (p := ⟨gb612, 1, none⟩) (Kd.R_far (p := ⟨gb612, 0, none⟩) (Kd.R_types HO_3.out BK612.out (by decide)) (fun _ hk => hk.2) (.int .i64 t605)) (fun _ hk => hk.2) (.string t606)) (fun _ hk => hk.1.2)))); (case aS => exact (sz_ HB)); (case aL => have := LMc19.out; omega); intro v614 w48 ho hb hg hat; rw [← Ny613.out] at ho; replace BK601 := kgp_ BK601 HO_3 hg; replace HO609 := Aside0.mk (Kd.R_after (ok := (fun _ => True)) (kr_ (Kd.R_mono (Kd.R_far (p := ⟨gb612, 1, none⟩) (Kd.R_far (p := ⟨gb612, 0, none⟩) (Kd.R_types HO609.out BK612.out (by decide)) (fun _ hk => hk.2) (.int .i64 t605)) (fun _ hk => hk.2) (.string t606)) (fun _ hk => ⟨trivial, hk.1.2⟩))) hg hat); replace BK612 := kgp_ BK612 HO_3 hg; replace HB := Aside0.mk hb; have HO615 := Aside0.mk ho; clear HO_3; clear ho hb hg hat))
        replace HO609 := Aside0.mk (Kd.R_drew HO609.out)
        replace HO615 := Aside0.mk (Kd.R_drew HO615.out)
        replace BK601 := Aside0.mk (blk_drew BK601.out)
        replace BK612 := Aside0.mk (blk_drew BK612.out)
        replace HB := Aside0.mk (below_drew1 HB.out)
        refine start_ (n := 8) (S := fun w' => True) (ds := []) (lz_ 8 0) (by kernel_rfl) rfl rfl trivial (fun hHeld => ?_); refine with_tabW impl_StoreOk.tab8 impl_StoreOk.bits8 (fun HT_ HW_ => ?_)
        generalize w48.drew = w50 at HO609 HO615 BK601 BK612 HB hHeld ⊢
        refine pt_ 0 45 1 ?_
        refine pt_ 1 46 3 ?_
        refine pt_ 2 47 7 ?_
        refine ut_ 3 48 15 ?_
        refine ut_ 4 49 31 ?_
        refine ut_ 5 50 63 ?_
        refine ut_ 6 51 127 ?_
        refine pt_ 7 52 255 ?_
        refine done_ (done_of HT_.out (by kernel_rfl)) ?_
        try go_wp2
        go_ret
        exact ⟨e2_, bw_ HB⟩
      ·replace H := bi_ H; obtain ⟨t604, A51, H⟩ := H
       obtain rfl := Option.some.inj H
       have hz52 := cz5_ BK601
       obtain ⟨Ao53, co53, eo53⟩ := Kd.R_slice HO_3.out
       subst eo53
       go_wp2_with (first | ((with_reducible refine gq_ 66 58 ?_); refine gc_ 58 Tryz.func66 (slices_Equal_string_string.calls k2 _ _ x3_2 _ _ l0_0 t604 _ (ch_ HO_3) (cl_ HO_3) (cb_ HR0_0 HB) HC0_0.out A51.out) ?_; rintro e w' ⟨rfl, ⟨nd, rfl⟩⟩; refine ⟨_, rfl, ?_⟩))
       go_ret
       exact ⟨e2_, bw_ HB⟩
mutual
def spec_l12Replay.l0 : Nat → List Int → Int → List ByteArray → Int → ByteArray → Option (List ByteArray × Int × ByteArray × Bool)
 | 0, _, _, _, _, _ => none
 | k + 1, x0, x5, x608000, x608001, x608002 => if x5 < (x0.length : Int) then ((spec_GetCommit.f k x0 x5).bind fun bt608 => (if bt608.2.2.2.2 = true then (spec_l12Replay.j1 k x0 bt608.2.2.1 bt608.2.2.2.1 (decide ((wrap64 ((x608000.length : Int) + (bt608.2.2.1.length : Int))) > 200)) x608000 x608001 x608002 bt608.1 bt608.2.1) else (spec_l12Replay.j1 k x0 bt608.2.2.1 bt608.2.2.2.1 true x608000 x608001 x608002 bt608.1 bt608.2.1))) else (some (x608000, x608001, x608002, true))
def spec_l12Replay.j1 : Nat → List Int → List ByteArray → Int → Bool → List ByteArray → Int → ByteArray → Int → ByteArray → Option (List ByteArray × Int × ByteArray × Bool)
 | 0, _, _, _, _, _, _, _, _, _ => none
 | k + 1, x0, x7, x8, x33, x608000, x608001, x608002, x616000, x616001 => if x33 = true then (some (x608000, x608001, x608002, false)) else (if x608000.length + x7.length < 8796093022208 then ((some (x608000 ++ x7 : List ByteArray)).bind fun y616 => ((spec_HeadOf.f k y616).bind fun bt619 => (if (!(x616000 == bt619.1) || (!(x616001.toList == bt619.2.toList))) = true then (some (y616, x616000, x616001, false)) else (spec_l12Replay.l0 k x0 x8 y616 x616000 x616001)))) else (none))
end
def spec_l12Replay.f (k : Nat) (l0 : List Int) : Option (List ByteArray × Int × ByteArray × Bool) := (spec_LogNew.f k).bind fun bt602 => (spec_l12Replay.l0 k l0 0 bt602.1 bt602.2.1 bt602.2.2)
set_option maxHeartbeats 8000000 in
set_option maxRecDepth 100000 in
theorem spec_l12Replay.calls (k : Nat) (A0 : Option Addr) (c0 : Nat) (l0 : List Int) (r1 : List ByteArray) (r2 : Int) (r3 : ByteArray) (r4 : Bool) (w : World) (hr0 : Kd.C (Kd.int .u8) w A0 l0.length l0) (hc0 : l0.length ≤ c0) (h : spec_l12Replay.f k l0 = some (r1, r2, r3, r4)) :
  Calls Tryz.prog 108 #[.slice A0 l0.length c0] w fun e w' => ∃ v0_ : Value, e = .returned (.tuple #[.agg #[v0_, .int .i64 r2, .string r3], .bool r4]) ∧ Kd.R Kd.string 9 w' w.heap.size (fun _ => True) v0_ r1 ∧ Below w.heap.size w w' := by
 have hu39 := Tryz.underlying39
 have hu37 := Tryz.underlying37
 have HR0 := Aside0.mk hr0
 have HC0 := Aside0.mk hc0
 clear hr0 hc0
 have HB := Aside0.mk (Below.refl w.heap.size w)
 have H : ((spec_LogNew.f k).bind fun bt602 => (spec_l12Replay.l0 k l0 0 bt602.1 bt602.2.1 bt602.2.2)) = some (r1, r2, r3, r4) := h
 clear h
 replace H := bi_ H; obtain ⟨⟨t602, t605, t606⟩, A2, H⟩ := H
 dsimp only at H
 have H' := Aside0.mk H
 clear H
 go_enter Tryz.func108, Tryz.ntmps108
 go_wp2_with (first | ((with_reducible refine gd_ 2 ?_); (try (refine gate_guard (by rfl) ?_; dsimp only)); refine bx_ 2 39 #[.slice none 0 0, .int .i64 0, .string (⟨#[]⟩ : ByteArray)] ?_; intro gb601 hg w3 hbox hb; have BK601 := Aside0.mk hbox; have GW601 := gg_ hg HB; have GE601 := GW601; replace HB := ss_ HB hb; clear hb hbox hg) | ((with_reducible refine gq_ 137 10 ?_); refine gc_ 10 Tryz.func137 (spec_LogNew.calls k  t602 t605 t606 _ A2.out) ?_; rintro e w4 ⟨v603, rfl, ho0, hb⟩; refine ⟨_, rfl, ?_⟩; have HO604 := Aside0.mk (Kd.R_lower ho0 (sz_ HB)); replace BK601 := kl_ BK601 hb; replace HB := ss_ HB hb; clear hb ho0) | ((with_reducible refine gd_ 4 ?_); (try (refine gate_guard (by rfl) ?_; dsimp only)); refine bx_ 4 39 #[.slice none 0 0, .int .i64 0, .string (⟨#[]⟩ : ByteArray)] ?_; intro gb607 hg w5 hbox hb; replace HO604 := rb_ HO604 hb; have BK607 := Aside0.mk hbox; have GW607 := gg_ hg HB; have GE607 := GW607; replace HB := ss_ HB hb; have NB601_607 := nla_ hg BK601; have NB607_601 := nga_ hg BK601; replace BK601 := kl_ BK601 hb; clear hb hbox hg; obtain ⟨Ao6, co6, eo6⟩ := Kd.R_slice HO604.out; subst eo6; have hnb7 := NB607_601.out; have hnc7 := NB601_607.out; have hz8 := cz3_ BK607))
 go_loopg [5] k (fun kq v5 w' => ∃ (x5_1 : Int) (x602001_1 : Int) (x602002_1 : ByteArray) (x608000_1 : List ByteArray) (x608001_1 : Int) (x608002_1 : ByteArray) (u608000 : Value), v5 = .int .i64 x5_1 ∧ Aside0 (spec_l12Replay.l0 kq l0 x5_1 x608000_1 x608001_1 x608002_1 = some (r1, r2, r3, r4)) ∧ Aside0 (kq ≤ k) ∧ Aside0 (Kd.R Kd.string 9 w' w.heap.size (fun _ => True) u608000 x608000_1) ∧ Aside0 (w'.heap[gb601]? = some (.cells #[(.slice none 0 0), .int .i64 x602001_1, .string x602002_1] 39 (0, 0))) ∧ Aside0 (w'.heap[gb607]? = some (.cells #[u608000, .int .i64 x608001_1, .string x608002_1] 39 (0, 0))) ∧ Aside0 (Below w.heap.size w w'))
 case atStart => exact ⟨(0), (0), ((⟨#[]⟩ : ByteArray)), (t602), (t605), (t606), (.slice Ao6 t602.length co6), e1_, H', ⟨Nat.le_refl _⟩, ⟨by (with_reducible repeat (first | apply Kd.R_alloc | apply Kd.R_drewN | apply Kd.R_drew)); exact Kd.R_mono (Kd.R_far (p := ⟨gb607, 2, none⟩) (Kd.R_far (p := ⟨gb607, 1, none⟩) (Kd.R_far (p := ⟨gb607, 0, none⟩) (Kd.R_types HO604.out BK607.out (by decide)) (fun _ hk => hk.2) (.slice Ao6 t602.length co6)) (fun _ hk => hk.2) (.int .i64 t605)) (fun _ hk => hk.2) (.string t606)) (fun _ hk => trivial)⟩, ⟨kq_ BK601⟩, ⟨kq_ BK607⟩, ⟨bw_ HB⟩⟩
 case round =>
  clear H'
  try clear hz8
  obtain ⟨x5_1, x602001_1, x602002_1, x608000_1, x608001_1, x608002_1, u608000, rfl, HA, HK1, HO_608000, BK601, BK607, HB⟩ := hrel
  cases gk with
  | zero => exact absurd HA.out (by simp [spec_l12Replay.l0])
  | succ k1 =>
   have H := HA.out
   clear HA
   simp only [spec_l12Replay.l0] at H
   replace H := itd_ H; obtain ⟨c9b0, H⟩ | ⟨c9b0, H⟩ := H
   ·replace H := bi_ H; obtain ⟨⟨t608, t609, t610, t613, t614⟩, A10, H⟩ := H
    dsimp only at H
    have HC11 := Aside0.mk H
    clear H
    go_upto_region 5 with (first | ((with_reducible refine gq_ 127 18 ?_); refine gc_ 18 Tryz.func127 (spec_GetCommit.calls k1 _ _ l0 x5_1 t608 t609 t610 t613 t614 _ (cb_ HR0 HB) HC0.out A10.out) ?_; rintro e w12 ⟨v611, rfl, ho0, hb⟩; refine ⟨_, rfl, ?_⟩; have HO612 := Aside0.mk (Kd.R_lower (Kd.R_new' ho0 (lt_ HO_608000)) (sz_ HB)); replace HO_608000 := re_ HO_608000 ho0 hb; replace BK601 := kl_ BK601 hb; replace BK607 := kl_ BK607 hb; replace HB := ss_ HB hb; clear hb ho0) | ((with_reducible refine gd_ 6 ?_); (try (refine gate_guard (by rfl) ?_; dsimp only)); refine bx_ 6 37 #[.int .i64 0, .string (⟨#[]⟩ : ByteArray)] ?_; intro gb615 hg w13 hbox hb; replace HO_608000 := rb_ HO_608000 hb; replace HO612 := rb_ HO612 hb; have BK615 := Aside0.mk hbox; have GW615 := gg_ hg HB; have GE615 := GW615; replace HB := ss_ HB hb; have NB601_615 := nla_ hg BK601; have NB615_601 := nga_ hg BK601; replace BK601 := kl_ BK601 hb; have NB607_615 := nla_ hg BK607; have NB615_607 := nga_ hg BK607; replace BK607 := kl_ BK607 hb; clear hb hbox hg; have hnb14 := NB615_601.out; have hnc14 := NB601_615.out; have hnb15 := NB615_607.out; have hnc15 := NB607_615.out; have hz16 := cz2_ BK615))
    (try simp only [Act.put, List.setIfInBounds_toArray, List.set_cons_zero, List.set_cons_succ])
    go_cut [33] (fun v33 wc => ∃ (kq : Nat) (x33_10 : Bool), v33 = .bool x33_10 ∧ Aside0 (spec_l12Replay.j1 kq l0 t610 t613 x33_10 x608000_1 x608001_1 x608002_1 t608 t609 = some (r1, r2, r3, r4)) ∧ Aside0 (kq ≤ k1) ∧ Aside0 (Kd.R Kd.string 9 wc w.heap.size (fun k_ => some k_ ≠ (u608000 : Value).ownBlock) v611 t610) ∧ Aside0 (Kd.R Kd.string 9 wc w.heap.size (fun k_ => some k_ ≠ (v611 : Value).ownBlock) u608000 x608000_1) ∧ Aside0 (wc.heap[gb601]? = some (.cells #[(.slice none 0 0), .int .i64 x602001_1, .string x602002_1] 39 (0, 0))) ∧ Aside0 (wc.heap[gb607]? = some (.cells #[u608000, .int .i64 x608001_1, .string x608002_1] 39 (0, 0))) ∧ Aside0 (wc.heap[gb615]? = some (.cells #[.int .i64 t608, .string t609] 37 (0, 0))) ∧ Aside0 (Below w.heap.size w wc))
    case first =>
     have H := HC11.out
     clear HC11
     replace H := itb_ H; obtain ⟨rfl, H⟩ | ⟨rfl, H⟩ := H
     ·have H' := Aside0.mk H
      clear H
      have hnb18 := NB607_601.out
      have hnc18 := NB601_607.out
      have hnb19 := NB607_615.out
      have hnc19 := NB615_607.out
      have hz20 := cz3_ BK607
      obtain ⟨Ao21, co21, eo21⟩ := Kd.R_slice HO_608000.out
      subst eo21
      obtain ⟨Ao22, co22, eo22⟩ := Kd.R_slice HO612.out
      subst eo22
      go_wp2
      go_meet
      case rel => exact ⟨_, (decide ((wrap64 ((x608000_1.length : Int) + (t610.length : Int))) > 200)), e1_, H', ⟨by have := HK1.out; first | omega | exact Nat.le_refl _⟩, ⟨by (with_reducible repeat (first | apply Kd.R_alloc | apply Kd.R_drewN | apply Kd.R_drew)); exact Kd.R_mono (Kd.R_far (p := ⟨gb615, 1, none⟩) (Kd.R_far (p := ⟨gb615, 0, none⟩) (Kd.R_types HO612.out BK615.out (by decide)) (fun _ hk => hk.2) (.int .i64 t608)) (fun _ hk => hk.2) (.string t609)) (fun _ hk => hk.1.2)⟩, ⟨by (with_reducible repeat (first | apply Kd.R_alloc | apply Kd.R_drewN | apply Kd.R_drew)); exact Kd.R_mono (Kd.R_far (p := ⟨gb615, 1, none⟩) (Kd.R_far (p := ⟨gb615, 0, none⟩) (Kd.R_types HO_608000.out BK615.out (by decide)) (fun _ hk => hk.2) (.int .i64 t608)) (fun _ hk => hk.2) (.string t609)) (fun _ hk => hk.1.2)⟩, ⟨kq_ BK601⟩, ⟨kq_ BK607⟩, ⟨kq_ BK615⟩, ⟨bw_ HB⟩⟩
     ·have H' := Aside0.mk H
      clear H
      go_wp2
      go_meet
      case rel => exact ⟨_, (true), e1_, H', ⟨by have := HK1.out; first | omega | exact Nat.le_refl _⟩, ⟨by (with_reducible repeat (first | apply Kd.R_alloc | apply Kd.R_drewN | apply Kd.R_drew)); exact Kd.R_mono (Kd.R_far (p := ⟨gb615, 1, none⟩) (Kd.R_far (p := ⟨gb615, 0, none⟩) (Kd.R_types HO612.out BK615.out (by decide)) (fun _ hk => hk.2) (.int .i64 t608)) (fun _ hk => hk.2) (.string t609)) (fun _ hk => hk.1.2)⟩, ⟨by (with_reducible repeat (first | apply Kd.R_alloc | apply Kd.R_drewN | apply Kd.R_drew)); exact Kd.R_mono (Kd.R_far (p := ⟨gb615, 1, none⟩) (Kd.R_far (p := ⟨gb615, 0, none⟩) (Kd.R_types HO_608000.out BK615.out (by decide)) (fun _ hk => hk.2) (.int .i64 t608)) (fun _ hk => hk.2) (.string t609)) (fun _ hk => hk.1.2)⟩, ⟨kq_ BK601⟩, ⟨kq_ BK607⟩, ⟨kq_ BK615⟩, ⟨bw_ HB⟩⟩
    case rest =>
     clear HC11
     try clear c1
     try clear p2
     try clear c7
     try clear c9b0
     try clear hz16
     try clear hz8
     obtain ⟨kq, x33_10, rfl, HA, HJ10, HO_7, HO_608000, BK601, BK607, BK615, HB⟩ := hcut
     cases kq with
     | zero => exact absurd HA.out (by simp [spec_l12Replay.j1])
     | succ kj10 =>
      have H := HA.out
      clear HA
      simp only [spec_l12Replay.j1] at H
      replace H := itb_ H; obtain ⟨rfl, H⟩ | ⟨rfl, H⟩ := H
      ·replace H := so4_ H; obtain ⟨rfl, rfl, rfl, rfl⟩ := H
       have hnb24 := NB607_601.out
       have hnc24 := NB601_607.out
       have hnb25 := NB607_615.out
       have hnc25 := NB615_607.out
       have hz26 := cz3_ BK607
       obtain ⟨Ao27, co27, eo27⟩ := Kd.R_slice HO_608000.out
       subst eo27
       have hnb28 := NB601_615.out
       have hnc28 := NB615_601.out
       have hz29 := cz3_ BK601
       go_wp2
       refine bodyPost_ret (results_ct rfl _ _ gb601 39 #[.slice Ao27 x608000_1.length co27, .int .i64 x608001_1, .string x608002_1] (0, 0) _ rfl (by exact kq_ BK601) Tryz.underlying39 rfl (by kernel_rfl)) rfl ?_
       exact ⟨_, e2_, by (with_reducible repeat (first | apply Kd.R_alloc | apply Kd.R_drewN | apply Kd.R_drew)); exact Kd.R_mono (Kd.R_far (p := ⟨gb601, 2, none⟩) (Kd.R_far (p := ⟨gb601, 1, none⟩) (Kd.R_far (p := ⟨gb601, 0, none⟩) (Kd.R_types HO_608000.out BK601.out (by decide)) (fun _ hk => hk.2) (.slice Ao27 x608000_1.length co27)) (fun _ hk => hk.2) (.int .i64 x608001_1)) (fun _ hk => hk.2) (.string x608002_1)) (fun _ hk => trivial), bw_ HB⟩
      ·replace H := ip_ H; obtain ⟨c30, H⟩ := H
       have LMc30 := Aside0.mk c30
       clear c30
       obtain ⟨y616, Ny616, H⟩ := sb_ (x608000_1 ++ t610) H
       replace H := bi_ H; obtain ⟨⟨t619, t620⟩, A31, H⟩ := H
       dsimp only at H
       replace H := it_ H; obtain ⟨c32, H⟩ | ⟨c32, H⟩ := H
       ·have c32b0 : (!(t608 == t619) || (!(t609.toList == t620.toList))) = true := c32
        clear c32
        replace H := so4_ H; obtain ⟨rfl, rfl, rfl, rfl⟩ := H
        have hnb33 := NB607_601.out
        have hnc33 := NB601_607.out
        have hnb34 := NB607_615.out
        have hnc34 := NB615_607.out
        have hz35 := cz3_ BK607
        obtain ⟨Ao37, co37, eo37⟩ := Kd.R_slice HO_7.out
        subst eo37
        try go_wp2_with (first | ((with_reducible refine gate_builtin (b := .append) (xs := #[.tmp 36, .tmp 37]) rfl ?_); (try (refine gate_guard (by rfl) ?_; dsimp only)); at_builtin; refine Kd.R_append_rows Kd.string (w0 := w) w.heap.size rfl (.tmp 36) (.tmp 37) 22 9 (.string ⟨#[]⟩) 16 rfl Tryz.underlying22 info9 rfl (by decide) (by omega) u608000 x608000_1 t610 _ _ _ (fun k_ => some k_ ≠ (.slice Ao37 t610.length co37 : Value).ownBlock) (fun _ => False) rfl rfl ?aO ?aR (fun _ _ h => h) (fun _ h => h.elim) ?aF ?aB ?aS ?aL ?_; (case aR => repeat (first | exact (Kd.R_reads' HO_7.out).2.2 | (with_reducible refine Kd.C_alloc ?_ _) | (with_reducible refine Kd.C_drewN ?_ _) | (with_reducible refine Kd.C_drew ?_))); (case aB => exact (bw_ HB)); (case aF => exact (fun k_ hk => Kd.fresh' (lt_ HO_7) k_ hk)); (case aO => exact (kr_ HO_608000.out)); (case aS => exact (sz_ HB)); (case aL => have := LMc30.out; omega); intro v617 w36 ho hb hg hat; rw [← Ny616.out] at ho; replace HO_7 := Aside0.mk (Kd.R_after (ok := (fun _ => True)) (kr_ (Kd.R_mono HO_7.out (fun _ hk => ⟨trivial, hk⟩))) hg hat); replace BK601 := kg_ BK601 HO_608000 hg; replace BK607 := kg_ BK607 HO_608000 hg; replace BK615 := kg_ BK615 HO_608000 hg; replace HB := Aside0.mk hb; have HO618 := Aside0.mk ho; clear HO_608000; clear ho hb hg hat; obtain ⟨Ao38, co38, eo38⟩ := Kd.R_slice HO618.out; subst eo38; have hz39 := cz3_ BK607; have hnb40 := NB615_601.out; have hnc40 := NB601_615.out; have hz41 := cz2_ BK615))
        have n0_ : Aside0 (Kd.R Kd.string 9 (((w36.setCell ⟨gb607, 0, none⟩ (.slice Ao38 y616.length co38)).setCell ⟨gb607, 1, none⟩ (.int .i64 t608)).setCell ⟨gb607, 2, none⟩ (.string t609)) w.heap.size (fun k_ => some k_ ≠ (.slice Ao38 y616.length co38 : Value).ownBlock) (.slice Ao37 t610.length co37) t610) := ⟨by (with_reducible repeat (first | apply Kd.R_alloc | apply Kd.R_drewN | apply Kd.R_drew)); exact Kd.R_mono (Kd.R_far (p := ⟨gb607, 2, none⟩) (Kd.R_far (p := ⟨gb607, 1, none⟩) (Kd.R_far (p := ⟨gb607, 0, none⟩) (Kd.R_types HO_7.out BK607.out (by decide)) (fun _ hk => hk.2) (.slice Ao38 y616.length co38)) (fun _ hk => hk.2) (.int .i64 t608)) (fun _ hk => hk.2) (.string t609)) (fun _ hk => hk.1.2)⟩
        have n1_ : Aside0 (Kd.R Kd.string 9 (((w36.setCell ⟨gb607, 0, none⟩ (.slice Ao38 y616.length co38)).setCell ⟨gb607, 1, none⟩ (.int .i64 t608)).setCell ⟨gb607, 2, none⟩ (.string t609)) w.heap.size (fun k_ => some k_ ≠ (.slice Ao37 t610.length co37 : Value).ownBlock) (.slice Ao38 y616.length co38) y616) := ⟨by (with_reducible repeat (first | apply Kd.R_alloc | apply Kd.R_drewN | apply Kd.R_drew)); exact Kd.R_mono (Kd.R_far (p := ⟨gb607, 2, none⟩) (Kd.R_far (p := ⟨gb607, 1, none⟩) (Kd.R_far (p := ⟨gb607, 0, none⟩) (Kd.R_types HO618.out BK607.out (by decide)) (fun _ hk => hk.2) (.slice Ao38 y616.length co38)) (fun _ hk => hk.2) (.int .i64 t608)) (fun _ hk => hk.2) (.string t609)) (fun _ hk => hk.1)⟩
        have n2_ : Aside0 ((((w36.setCell ⟨gb607, 0, none⟩ (.slice Ao38 y616.length co38)).setCell ⟨gb607, 1, none⟩ (.int .i64 t608)).setCell ⟨gb607, 2, none⟩ (.string t609)).heap[gb601]? = some (.cells #[.slice none 0 0, .int .i64 x602001_1, .string x602002_1] 39 (0, 0))) := ⟨kq_ BK601⟩
        have n3_ : Aside0 ((((w36.setCell ⟨gb607, 0, none⟩ (.slice Ao38 y616.length co38)).setCell ⟨gb607, 1, none⟩ (.int .i64 t608)).setCell ⟨gb607, 2, none⟩ (.string t609)).heap[gb607]? = some (.cells #[.slice Ao38 y616.length co38, .int .i64 t608, .string t609] 39 (0, 0))) := ⟨kq_ BK607⟩
        have n4_ : Aside0 ((((w36.setCell ⟨gb607, 0, none⟩ (.slice Ao38 y616.length co38)).setCell ⟨gb607, 1, none⟩ (.int .i64 t608)).setCell ⟨gb607, 2, none⟩ (.string t609)).heap[gb615]? = some (.cells #[.int .i64 t608, .string t609] 37 (0, 0))) := ⟨kq_ BK615⟩
        have n5_ : Aside0 (Below w.heap.size w (((w36.setCell ⟨gb607, 0, none⟩ (.slice Ao38 y616.length co38)).setCell ⟨gb607, 1, none⟩ (.int .i64 t608)).setCell ⟨gb607, 2, none⟩ (.string t609))) := ⟨bw_ HB⟩
        generalize (((w36.setCell ⟨gb607, 0, none⟩ (.slice Ao38 y616.length co38)).setCell ⟨gb607, 1, none⟩ (.int .i64 t608)).setCell ⟨gb607, 2, none⟩ (.string t609)) = w42 at n0_ n1_ n2_ n3_ n4_ n5_ ⊢
        have HO_7 := n0_
        have HO618 := n1_
        have BK601 := n2_
        have BK607 := n3_
        have BK615 := n4_
        have HB := n5_
        clear n0_ n1_ n2_ n3_ n4_ n5_
        replace HO_7 := Aside0.mk (Kd.R_drew HO_7.out)
        replace HO618 := Aside0.mk (Kd.R_drew HO618.out)
        replace BK601 := Aside0.mk (blk_drew BK601.out)
        replace BK607 := Aside0.mk (blk_drew BK607.out)
        replace BK615 := Aside0.mk (blk_drew BK615.out)
        replace HB := Aside0.mk (below_drew1 HB.out)
        refine start_ (n := 5) (S := fun w' => w'.cell? ⟨gb615, 0, none⟩ = some (.int .i64 t608) ∧ w'.cell? ⟨gb615, 1, none⟩ = some (.string t609) ∧ w'.cell? ⟨gb607, 0, none⟩ = some (.slice Ao38 y616.length co38) ∧ w'.cell? ⟨gb607, 1, none⟩ = some (.int .i64 t608) ∧ w'.cell? ⟨gb607, 2, none⟩ = some (.string t609)) (ds := []) (lz_ 5 0) (by kernel_rfl) rfl rfl ⟨bc0_ BK615.out, bc1_ BK615.out, bc0_ BK607.out, bc1_ BK607.out, bc2_ BK607.out⟩ (fun hHeld => ?_)
        generalize w42.drew = w43 at HO_7 HO618 BK601 BK607 BK615 HB hHeld ⊢
        refine pk_ 1 44 2 ?_
        refine tk_ 0 43 3 ?_
        refine tk_ 2 45 7 ?_
        refine one_ (i := 3) (N := some 46) (lz_ 5 15) rfl rfl (by kernel_rfl) (by decide) (fun K hK => ?_)
        refine gf_ Tryz.func110 (spec_HeadOf.calls kj10 _ _ y616 t619 t620 _ (ch_ HO618) (cl_ HO618) A31.out) ?_
        rintro e w44 ⟨rfl, hb⟩
        refine ⟨_, rfl, ?_⟩
        replace HO_7 := rb_ HO_7 hb
        replace HO618 := rb_ HO618 hb
        replace BK601 := kl_ BK601 hb
        replace BK607 := kl_ BK607 hb
        replace BK615 := kl_ BK615 hb
        replace HB := ss_ HB hb
        clear hb
        refine hK.out _ _ ⟨bc0_ BK615.out, bc1_ BK615.out, bc0_ BK607.out, bc1_ BK607.out, bc2_ BK607.out⟩ (fun hHeld => ?_)
        clear hK K
        refine no_ 46 ?_
        refine pk_ 4 47 31 ?_
        refine done_ (by kernel_rfl) ?_
        have hz45 := cz3_ BK607
        have hz46 := cz3_ BK601
        try go_wp2
        refine bodyPost_ret (results_ct rfl _ _ gb601 39 #[.slice Ao38 y616.length co38, .int .i64 t608, .string t609] (0, 0) _ rfl (by exact kq_ BK601) Tryz.underlying39 rfl (by kernel_rfl)) rfl ?_
        exact ⟨_, e2_, by (with_reducible repeat (first | apply Kd.R_alloc | apply Kd.R_drewN | apply Kd.R_drew)); exact Kd.R_mono (Kd.R_far (p := ⟨gb601, 2, none⟩) (Kd.R_far (p := ⟨gb601, 1, none⟩) (Kd.R_far (p := ⟨gb601, 0, none⟩) (Kd.R_types HO618.out BK601.out (by decide)) (fun _ hk => hk.2) (.slice Ao38 y616.length co38)) (fun _ hk => hk.2) (.int .i64 t608)) (fun _ hk => hk.2) (.string t609)) (fun _ hk => trivial), bw_ HB⟩
       ·have c32b0 : (!(t608 == t619) || (!(t609.toList == t620.toList))) = false := by simpa using c32
        clear c32
        have H' := Aside0.mk H
        clear H
        have hnb47 := NB607_601.out
        have hnc47 := NB601_607.out
        have hnb48 := NB607_615.out
        have hnc48 := NB615_607.out
        have hz49 := cz3_ BK607
        obtain ⟨Ao51, co51, eo51⟩ := Kd.R_slice HO_7.out
        subst eo51
        try go_wp2_with (first | ((with_reducible refine gate_builtin (b := .append) (xs := #[.tmp 36, .tmp 37]) rfl ?_); (try (refine gate_guard (by rfl) ?_; dsimp only)); at_builtin; refine Kd.R_append_rows Kd.string (w0 := w) w.heap.size rfl (.tmp 36) (.tmp 37) 22 9 (.string ⟨#[]⟩) 16 rfl Tryz.underlying22 info9 rfl (by decide) (by omega) u608000 x608000_1 t610 _ _ _ (fun k_ => some k_ ≠ (.slice Ao51 t610.length co51 : Value).ownBlock) (fun _ => False) rfl rfl ?aO ?aR (fun _ _ h => h) (fun _ h => h.elim) ?aF ?aB ?aS ?aL ?_; (case aR => repeat (first | exact (Kd.R_reads' HO_7.out).2.2 | (with_reducible refine Kd.C_alloc ?_ _) | (with_reducible refine Kd.C_drewN ?_ _) | (with_reducible refine Kd.C_drew ?_))); (case aB => exact (bw_ HB)); (case aF => exact (fun k_ hk => Kd.fresh' (lt_ HO_7) k_ hk)); (case aO => exact (kr_ HO_608000.out)); (case aS => exact (sz_ HB)); (case aL => have := LMc30.out; omega); intro v617 w50 ho hb hg hat; rw [← Ny616.out] at ho; replace HO_7 := Aside0.mk (Kd.R_after (ok := (fun _ => True)) (kr_ (Kd.R_mono HO_7.out (fun _ hk => ⟨trivial, hk⟩))) hg hat); replace BK601 := kg_ BK601 HO_608000 hg; replace BK607 := kg_ BK607 HO_608000 hg; replace BK615 := kg_ BK615 HO_608000 hg; replace HB := Aside0.mk hb; have HO618 := Aside0.mk ho; clear HO_608000; clear ho hb hg hat; obtain ⟨Ao52, co52, eo52⟩ := Kd.R_slice HO618.out; subst eo52; have hz53 := cz3_ BK607; have hnb54 := NB615_601.out; have hnc54 := NB601_615.out; have hz55 := cz2_ BK615))
        have n0_ : Aside0 (Kd.R Kd.string 9 (((w50.setCell ⟨gb607, 0, none⟩ (.slice Ao52 y616.length co52)).setCell ⟨gb607, 1, none⟩ (.int .i64 t608)).setCell ⟨gb607, 2, none⟩ (.string t609)) w.heap.size (fun k_ => some k_ ≠ (.slice Ao52 y616.length co52 : Value).ownBlock) (.slice Ao51 t610.length co51) t610) := ⟨by (with_reducible repeat (first | apply Kd.R_alloc | apply Kd.R_drewN | apply Kd.R_drew)); exact Kd.R_mono (Kd.R_far (p := ⟨gb607, 2, none⟩) (Kd.R_far (p := ⟨gb607, 1, none⟩) (Kd.R_far (p := ⟨gb607, 0, none⟩) (Kd.R_types HO_7.out BK607.out (by decide)) (fun _ hk => hk.2) (.slice Ao52 y616.length co52)) (fun _ hk => hk.2) (.int .i64 t608)) (fun _ hk => hk.2) (.string t609)) (fun _ hk => hk.1.2)⟩
        have n1_ : Aside0 (Kd.R Kd.string 9 (((w50.setCell ⟨gb607, 0, none⟩ (.slice Ao52 y616.length co52)).setCell ⟨gb607, 1, none⟩ (.int .i64 t608)).setCell ⟨gb607, 2, none⟩ (.string t609)) w.heap.size (fun k_ => some k_ ≠ (.slice Ao51 t610.length co51 : Value).ownBlock) (.slice Ao52 y616.length co52) y616) := ⟨by (with_reducible repeat (first | apply Kd.R_alloc | apply Kd.R_drewN | apply Kd.R_drew)); exact Kd.R_mono (Kd.R_far (p := ⟨gb607, 2, none⟩) (Kd.R_far (p := ⟨gb607, 1, none⟩) (Kd.R_far (p := ⟨gb607, 0, none⟩) (Kd.R_types HO618.out BK607.out (by decide)) (fun _ hk => hk.2) (.slice Ao52 y616.length co52)) (fun _ hk => hk.2) (.int .i64 t608)) (fun _ hk => hk.2) (.string t609)) (fun _ hk => hk.1)⟩
        have n2_ : Aside0 ((((w50.setCell ⟨gb607, 0, none⟩ (.slice Ao52 y616.length co52)).setCell ⟨gb607, 1, none⟩ (.int .i64 t608)).setCell ⟨gb607, 2, none⟩ (.string t609)).heap[gb601]? = some (.cells #[.slice none 0 0, .int .i64 x602001_1, .string x602002_1] 39 (0, 0))) := ⟨kq_ BK601⟩
        have n3_ : Aside0 ((((w50.setCell ⟨gb607, 0, none⟩ (.slice Ao52 y616.length co52)).setCell ⟨gb607, 1, none⟩ (.int .i64 t608)).setCell ⟨gb607, 2, none⟩ (.string t609)).heap[gb607]? = some (.cells #[.slice Ao52 y616.length co52, .int .i64 t608, .string t609] 39 (0, 0))) := ⟨kq_ BK607⟩
        have n4_ : Aside0 ((((w50.setCell ⟨gb607, 0, none⟩ (.slice Ao52 y616.length co52)).setCell ⟨gb607, 1, none⟩ (.int .i64 t608)).setCell ⟨gb607, 2, none⟩ (.string t609)).heap[gb615]? = some (.cells #[.int .i64 t608, .string t609] 37 (0, 0))) := ⟨kq_ BK615⟩
        have n5_ : Aside0 (Below w.heap.size w (((w50.setCell ⟨gb607, 0, none⟩ (.slice Ao52 y616.length co52)).setCell ⟨gb607, 1, none⟩ (.int .i64 t608)).setCell ⟨gb607, 2, none⟩ (.string t609))) := ⟨bw_ HB⟩
        generalize (((w50.setCell ⟨gb607, 0, none⟩ (.slice Ao52 y616.length co52)).setCell ⟨gb607, 1, none⟩ (.int .i64 t608)).setCell ⟨gb607, 2, none⟩ (.string t609)) = w56 at n0_ n1_ n2_ n3_ n4_ n5_ ⊢
        have HO_7 := n0_
        have HO618 := n1_
        have BK601 := n2_
        have BK607 := n3_
        have BK615 := n4_
        have HB := n5_
        clear n0_ n1_ n2_ n3_ n4_ n5_
        replace HO_7 := Aside0.mk (Kd.R_drew HO_7.out)
        replace HO618 := Aside0.mk (Kd.R_drew HO618.out)
        replace BK601 := Aside0.mk (blk_drew BK601.out)
        replace BK607 := Aside0.mk (blk_drew BK607.out)
        replace BK615 := Aside0.mk (blk_drew BK615.out)
        replace HB := Aside0.mk (below_drew1 HB.out)
        refine start_ (n := 5) (S := fun w' => w'.cell? ⟨gb615, 0, none⟩ = some (.int .i64 t608) ∧ w'.cell? ⟨gb615, 1, none⟩ = some (.string t609) ∧ w'.cell? ⟨gb607, 0, none⟩ = some (.slice Ao52 y616.length co52) ∧ w'.cell? ⟨gb607, 1, none⟩ = some (.int .i64 t608) ∧ w'.cell? ⟨gb607, 2, none⟩ = some (.string t609)) (ds := []) (lz_ 5 0) (by kernel_rfl) rfl rfl ⟨bc0_ BK615.out, bc1_ BK615.out, bc0_ BK607.out, bc1_ BK607.out, bc2_ BK607.out⟩ (fun hHeld => ?_)
        generalize w56.drew = w57 at HO_7 HO618 BK601 BK607 BK615 HB hHeld ⊢
        refine pk_ 1 44 2 ?_
        refine tk_ 0 43 3 ?_
        refine tk_ 2 45 7 ?_
        refine one_ (i := 3) (N := some 46) (lz_ 5 15) rfl rfl (by kernel_rfl) (by decide) (fun K hK => ?_)
        refine gf_ Tryz.func110 (spec_HeadOf.calls kj10 _ _ y616 t619 t620 _ (ch_ HO618) (cl_ HO618) A31.out) ?_
        rintro e w58 ⟨rfl, hb⟩
        refine ⟨_, rfl, ?_⟩
        replace HO_7 := rb_ HO_7 hb
        replace HO618 := rb_ HO618 hb
        replace BK601 := kl_ BK601 hb
        replace BK607 := kl_ BK607 hb
        replace BK615 := kl_ BK615 hb
        replace HB := ss_ HB hb
        clear hb
        refine hK.out _ _ ⟨bc0_ BK615.out, bc1_ BK615.out, bc0_ BK607.out, bc1_ BK607.out, bc2_ BK607.out⟩ (fun hHeld => ?_)
        clear hK K
        refine no_ 46 ?_
        refine pk_ 4 47 31 ?_
        refine done_ (by kernel_rfl) ?_
        try go_wp2
        go_roundg kj10
        case measure => have := HK1.out; have := HJ10.out; omega
        case rel => exact ⟨(t613), (x602001_1), (x602002_1), (y616), (t608), (t609), (.slice Ao52 y616.length co52), e1_, H', ⟨by have := HK1.out; have := HJ10.out; omega⟩, ⟨by (with_reducible repeat (first | apply Kd.R_alloc | apply Kd.R_drewN | apply Kd.R_drew)); exact Kd.R_mono HO618.out (fun _ hk => trivial)⟩, ⟨kb_ BK601.out⟩, ⟨kb_ BK607.out⟩, ⟨bw_ HB⟩⟩
   ·replace H := so4_ H; obtain ⟨rfl, rfl, rfl, rfl⟩ := H
    have hnb59 := NB607_601.out
    have hnc59 := NB601_607.out
    have hz60 := cz3_ BK607
    obtain ⟨Ao61, co61, eo61⟩ := Kd.R_slice HO_608000.out
    subst eo61
    have hz62 := cz3_ BK601
    go_wp2
    refine bodyPost_ret (results_ct rfl _ _ gb601 39 #[.slice Ao61 x608000_1.length co61, .int .i64 x608001_1, .string x608002_1] (0, 0) _ rfl (by exact kq_ BK601) Tryz.underlying39 rfl (by kernel_rfl)) rfl ?_
    exact ⟨_, e2_, by (with_reducible repeat (first | apply Kd.R_alloc | apply Kd.R_drewN | apply Kd.R_drew)); exact Kd.R_mono (Kd.R_far (p := ⟨gb601, 2, none⟩) (Kd.R_far (p := ⟨gb601, 1, none⟩) (Kd.R_far (p := ⟨gb601, 0, none⟩) (Kd.R_types HO_608000.out BK601.out (by decide)) (fun _ hk => hk.2) (.slice Ao61 x608000_1.length co61)) (fun _ hk => hk.2) (.int .i64 x608001_1)) (fun _ hk => hk.2) (.string x608002_1)) (fun _ hk => trivial), bw_ HB⟩
end Go.Proofs.YtnlndmoecljicaaGreat.Q
end
