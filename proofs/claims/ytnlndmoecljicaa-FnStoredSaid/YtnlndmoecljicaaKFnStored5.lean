-- Joined and shortened by a program of this session (wip/tools/shakecopy.py): the words of the print, texts of pp.sh and of mine.
import Derived.Test.YtnlndmoecljicaaKFnStored4
import Derived.Test.YtnlndmoecljicaaRows
import Derived.WalkKit
import Derived.ProofKit
import Derived.OpenShut
import Derived.ShutString
import Derived.ChangeOld
import Derived.Below
import Derived.SizedLaws
import Derived.Carry
set_option linter.unusedVariables false
set_option linter.unusedSimpArgs false
section
namespace Go.Proofs.Ytnlndmoecljicaa.Q
open Go.Proofs.YtnlndmoecljicaaW.PrintLast Go.Proofs.YtnlndmoecljicaaW.PrintMore Go.Proofs.YtnlndmoecljicaaW.PrintWords Go.RowKit
attribute [local go_sem] max2_int min2_int max_two min_two max_three min_three max_four min_four
set_option maxHeartbeats 8000000
set_option maxRecDepth 100000
def impl_GetCommit.j0 : Nat → List Int → Int → Int → Int → Bool → Option (Int × ByteArray × List ByteArray × Int × Bool)
 | 0, _, _, _, _, _ => none
 | k + 1, x0, x1, x8, x9, x32 => if x32 = true then (some (0, (⟨#[]⟩ : ByteArray), ([] : List ByteArray), x1, false)) else (if 0 ≤ x9 then (if x9 ≤ (wrap64 (x9 + x8)) then (if (wrap64 (x9 + x8)) ≤ (x0.length : Int) then ((impl_getter_num.f k ((x0.take ((wrap64 (x9 + x8)) : Int).toNat).drop (x9 : Int).toNat) 0 false).bind fun bt7 => ((impl_getter_text.f k ((x0.take ((wrap64 (x9 + x8)) : Int).toNat).drop (x9 : Int).toNat) bt7.2.1 bt7.2.2).bind fun bt11 => ((impl_getter_texts.f k ((x0.take ((wrap64 (x9 + x8)) : Int).toNat).drop (x9 : Int).toNat) bt11.2.1 bt11.2.2).bind fun bt14 => (if bt14.2.2 = true then (some (0, (⟨#[]⟩ : ByteArray), ([] : List ByteArray), x1, false)) else ((impl_PutCommit.f k bt7.1 bt11.1 bt14.1).bind fun t19 => (if 0 ≤ x1 then (if x1 ≤ (wrap64 ((wrap64 (x9 + x8)) + 4)) then (if (wrap64 ((wrap64 (x9 + x8)) + 4)) ≤ (x0.length : Int) then ((bytes_Equal.f t19 ((x0.take ((wrap64 ((wrap64 (x9 + x8)) + 4)) : Int).toNat).drop (x1 : Int).toNat)).bind fun t23 => (if t23 = true then (some (bt7.1, bt11.1, bt14.1, wrap64 ((wrap64 (x9 + x8)) + 4), true)) else (some (0, (⟨#[]⟩ : ByteArray), ([] : List ByteArray), x1, false)))) else (none)) else (none)) else (none))))))) else (none)) else (none)) else (none))
def impl_GetCommit.f (k : Nat) (l0 : List Int) (a1 : Int) : Option (Int × ByteArray × List ByteArray × Int × Bool) := (impl_GetNum.f k l0 a1).bind fun bt2 => (if bt2.2.2 = true then (impl_GetCommit.j0 k l0 a1 bt2.1 bt2.2.1 (decide (bt2.1 > (wrap64 ((wrap64 ((l0.length : Int) - bt2.2.1)) - 4))))) else (impl_GetCommit.j0 k l0 a1 bt2.1 bt2.2.1 true))
def impl_GetCommit.T9 : Bool × List (List Nat × List Nat) := (true, [([], []), ([0], [0]), ([1], [1]), ([2], [2]), ([2], [2]), ([3, 4, 2, 2], [2, 3, 4]), ([2], [2]), ([2], [2]), ([2], [2]), ([6, 7, 8, 2], [2, 6, 7, 8]), ([5, 9, 5, 2], [2, 5, 9]), ([10, 2], [2, 10]), ([2, 11], [2, 11])])
def impl_GetCommit.B9 : List Nat := [0, 1, 3, 7, 7, 31, 7, 7, 7, 455, 1023, 2047, 4095]
theorem impl_GetCommit.tab9 : rtab .any (opsOf Try.f51 9) = impl_GetCommit.T9 := by kernel_rfl
theorem impl_GetCommit.bits9 : waitsOk impl_GetCommit.T9.2 impl_GetCommit.B9 = true := by kernel_rfl
theorem impl_GetCommit.calls (k : Nat) (A0 : Option Addr) (c0 : Nat) (l0 : List Int) (a1 : Int) (r1 : Int) (r2 : ByteArray) (r3 : List ByteArray) (r4 : Int) (r5 : Bool) (w : World) (hr0 : Kd.C (Kd.int .u8) w A0 l0.length l0) (hc0 : l0.length ≤ c0) (h : impl_GetCommit.f k l0 a1 = some (r1, r2, r3, r4, r5)) :
  Calls Try.prog 51 #[.slice A0 l0.length c0, .int .i64 a1] w fun e w' => ∃ v2_ : Value, e = .returned (.tuple #[.agg #[.int .i64 r1, .string r2], v2_, .int .i64 r4, .bool r5]) ∧ Kd.R Kd.string 9 w' w.heap.size (fun _ => True) v2_ r3 ∧ Below w.heap.size w w' := by
 have hu25 := Try.underlying25
 have hu58 := Try.underlying58
 have HR0 := am_ hr0
 have HC0 := am_ hc0
 clear hr0 hc0
 have HB := h0_ w
 have H : ((impl_GetNum.f k l0 a1).bind fun bt2 => (if bt2.2.2 = true then (impl_GetCommit.j0 k l0 a1 bt2.1 bt2.2.1 (decide (bt2.1 > (wrap64 ((wrap64 ((l0.length : Int) - bt2.2.1)) - 4))))) else (impl_GetCommit.j0 k l0 a1 bt2.1 bt2.2.1 true))) = some (r1, r2, r3, r4, r5) := h
 clear h
 replace H := bi_ H; obtain ⟨⟨t602, t3, t4⟩, A3, H⟩ := H
 dsimp only at H
 have HC4 := am_ H
 clear H
 go_enter Try.func51, Try.ntmps51
 go_upto_region 2 with (first | ((with_reducible refine gd_ 4 ?_); (try (refine gate_guard (by rfl) ?_; dsimp only)); refine x25_ 4 (hx_ HB ?_); clear HB; intro gb1 w5 BK1 GW1 HB; have GE1 := GW1) | ((with_reducible refine gq_ 62 18 ?_); refine gc_ 18 Try.func62 (impl_GetNum.calls k _ _ l0 a1 t602 t3 t4 _ (cb_ HR0 HB) HC0.out A3.out) ?_; rintro e w' ⟨rfl, ⟨nd, rfl⟩⟩; refine ⟨_, rfl, ?_⟩))
 (try simp only [Act.put, List.setIfInBounds_toArray, List.set_cons_zero, List.set_cons_succ])
 go_cut [32] (fun v32 wc => ∃ (kq : Nat) (x32_3 : Bool), v32 = .bool x32_3 ∧ Aside0 (impl_GetCommit.j0 kq l0 a1 t602 t3 x32_3 = some (r1, r2, r3, r4, r5)) ∧ Aside0 (kq ≤ k) ∧ Aside0 (wc.heap[gb1]? = some (.cells #[.int .i64 0, .string (⟨#[]⟩ : ByteArray)] 25 (0, 0))) ∧ Aside0 (Below w.heap.size w wc))
 case first =>
  have H := HC4.out
  clear HC4
  replace H := itb_ H; obtain ⟨rfl, H⟩ | ⟨rfl, H⟩ := H
  ·have H' := am_ H
   clear H
   go_wp2
   go_meet
   case rel => exact ⟨_, (decide (t602 > (wrap64 ((wrap64 ((l0.length : Int) - t3)) - 4)))), e1_, H', ⟨le_⟩, ⟨kb_ BK1.out⟩, ⟨bw_ HB⟩⟩
  ·have H' := am_ H
   clear H
   go_wp2
   go_meet
   case rel => exact ⟨_, (true), e1_, H', ⟨le_⟩, ⟨kb_ BK1.out⟩, ⟨bw_ HB⟩⟩
 case rest =>
  clear HC4
  obtain ⟨kq, x32_3, rfl, HA, HJ3, BK1, HB⟩ := hcut
  cases kq with
  | zero => exact absurd HA.out (by simp [impl_GetCommit.j0])
  | succ kj3 =>
   have H := HA.out
   clear HA
   simp only [impl_GetCommit.j0] at H
   replace H := itb_ H; obtain ⟨rfl, H⟩ | ⟨rfl, H⟩ := H
   ·replace H := so5_ H; obtain ⟨rfl, rfl, rfl, rfl, rfl⟩ := H
    have hz8 := cz2_ BK1
    go_wp2
    refine bodyPost_ret (results_list (rs := [.cell 4 25, .tmp 5, .tmp 6, .tmp 7]) rfl (by simp) (.cell gb1 25 #[.int .i64 0, .string (⟨#[]⟩ : ByteArray)] (0, 0) _ rfl (by exact kq_ BK1) Try.underlying25 rfl (by kernel_rfl) (.tmp (.tmp (.tmp .nil))))) rfl ?_
    exact ⟨_, e2_, nil_, bw_ HB⟩
   ·replace H := ip_ H; obtain ⟨c9, H⟩ := H
    have c9b0 := eq_true c9
    have c9b1 := decide_eq_true c9
    clear c9
    replace H := ip_ H; obtain ⟨c10, H⟩ := H
    have c10b0 := eq_true c10
    have c10b1 := decide_eq_true c10
    replace H := ip_ H; obtain ⟨c11, H⟩ := H
    have c11b0 := eq_true c11
    have c11b1 := decide_eq_true c11
    replace H := bi_ H; obtain ⟨⟨t7, t8, t9⟩, A12, H⟩ := H
    dsimp only at H
    replace H := bi_ H; obtain ⟨⟨t11, t12, t13⟩, A13, H⟩ := H
    dsimp only at H
    replace H := bi_ H; obtain ⟨⟨t14, t17, t18⟩, A14, H⟩ := H
    dsimp only at H
    replace H := itb_ H; obtain ⟨rfl, H⟩ | ⟨rfl, H⟩ := H
    ·replace H := so5_ H; obtain ⟨rfl, rfl, rfl, rfl, rfl⟩ := H
     obtain ⟨i016, hi016, _, hsz16, _⟩ := info_parts info5
     obtain ⟨A16, hcut16, hA16, hC16⟩ := print_mid_of (P := Try.prog) (Value.int .u8) 0 22 5 .i64 .i64 Try.underlying22 hi016 hsz16 A0 c0 l0 t3 (wrap64 (t3 + t602)) (od_) (by first | omega | exact od_) (od_) HC0.out
     have HR5 := am_ (Kd.C_of_reads (h1 := fun _ => rfl) (hA16 _ (Kd.reads_of_C HR0.out)))
     have HC5 := am_ hC16
     clear hA16 hC16 hi016 hsz16
     try go_wp2_with (first | ((with_reducible refine gd_ 12 ?_); (try (refine gate_guard (by rfl) ?_; dsimp only)); refine x58_ 12 ?_; intro gb6 hg w17 hbox hb; have BK6 := am_ hbox; have GW6 := gg_ hg HB; have GE6 := GW6; replace HB := ss_ HB hb; have NB1_6 := nla_ hg BK1; have NB6_1 := nga_ hg BK1; replace BK1 := kl_ BK1 hb; clear hb hbox hg; have hnb18 := NB6_1.out; have hnc18 := NB1_6.out; have hz19 := cz3_ BK6) | ((with_reducible refine gk_ 29 ?_); refine gl_ 46 Try.func29 #[.pointer (some ⟨gb6, 0, none⟩)] ?_; refine IsS58.called (w0 := w) (g := gb6) (f0 := (l0.take ((wrap64 (t3 + t602)) : Int).toNat).drop (t3 : Int).toNat) (f1 := 0) (f2 := false) ⟨_, _, by (rw [show ((l0.take ((wrap64 (t3 + t602)) : Int).toNat).drop (t3 : Int).toNat).length = ((wrap64 (t3 + t602)).toNat - t3.toNat) from (by rw [List.length_drop, List.length_take]; have h_ : ((wrap64 (t3 + t602)) : Int) ≤ (l0.length : Int) := od_; omega)]); refine kb_ ?_; refine blk_put (cs := #[.slice A16 ((wrap64 (t3 + t602)).toNat - t3.toNat) (c0 - t3.toNat), .int .i64 0, .bool false]) ?_ 2 _ rfl; refine kb_ ?_; refine blk_put (cs := #[.slice A16 ((wrap64 (t3 + t602)).toNat - t3.toNat) (c0 - t3.toNat), .int .i64 0, .bool false]) ?_ 1 _ rfl; refine kb_ ?_; refine blk_put (cs := #[.slice none 0 0, .int .i64 0, .bool false]) ?_ 0 _ rfl; refine kb_ ?_; exact BK6.out, GW6.out, HR5.out, HC5.out⟩ (fun HI6 => ?_); (with_reducible refine (impl_getter_num.calls kj3 gb6 ((l0.take ((wrap64 (t3 + t602)) : Int).toNat).drop (t3 : Int).toNat) 0 false t7 t8 t9 w _ ?side1 ?side2 A12.out).mono ?_); (case side1 => exact in58_ HI6); (case side2 => exact bi58_ HB); rintro e w20 ⟨rfl, hi, hb, hk⟩; refine ⟨_, rfl, ?_⟩; replace BK1 := kbk_ hk (kq_ (o' := .cells #[.int .i64 0, .string (⟨#[]⟩ : ByteArray)] 25 (0, 0)) BK1) NB1_6; replace HB := am_ hb; replace HI6 := am_ hi; clear hb hk hi) | ((with_reducible refine gd_ 13 ?_); (try (refine gate_guard (by rfl) ?_; dsimp only)); refine x25_ 13 ?_; intro gb10 hg w21 hbox hb; have BK10 := am_ hbox; have GW10 := am_ (gz_ hg (below_size (bs2_ HB (IsS58.ge HI6.out) GE1.out))); have GE10 := am_ (gz_ hg (below_size (bs2_ HB (IsS58.ge HI6.out) GE1.out))); replace HB := am_ (below_step (bs2_ HB (IsS58.ge HI6.out) GE1.out) hb); have NB1_10 := nla_ hg BK1; have NB10_1 := nga_ hg BK1; replace BK1 := kl_ BK1 hb; have NB6_10 := am_ ((by rw [hg]; exact Nat.ne_of_lt (IsS58.lt (show IsS58 w _ gb6 ((l0.take ((wrap64 (t3 + t602)) : Int).toNat).drop (t3 : Int).toNat) t8 t9 from in58_ HI6)) : gb6 ≠ gb10)); have NB10_6 := am_ ((by rw [hg]; exact Nat.ne_of_gt (IsS58.lt (show IsS58 w _ gb6 ((l0.take ((wrap64 (t3 + t602)) : Int).toNat).drop (t3 : Int).toNat) t8 t9 from in58_ HI6)) : gb10 ≠ gb6)); replace HI6 := am_ (IsS58.below (in58_ HI6) hb); clear hb hbox hg; have hnb22 := NB10_1.out; have hnc22 := NB1_10.out; have hnb23 := NB10_6.out; have hnc23 := NB6_10.out; have hz24 := cz2_ BK10) | ((with_reducible refine gq_ 30 48 ?_); refine gc_ 48 Try.func30 (impl_getter_text.calls kj3 gb6 ((l0.take ((wrap64 (t3 + t602)) : Int).toNat).drop (t3 : Int).toNat) t8 t9 t11 t12 t13 w _ (in58_ HI6) (bi58_ HB) A13.out) ?_; rintro e w25 ⟨rfl, hi, hb, hk⟩; refine ⟨_, rfl, ?_⟩; replace BK1 := kbk_ hk (kq_ (o' := .cells #[.int .i64 0, .string (⟨#[]⟩ : ByteArray)] 25 (0, 0)) BK1) NB1_6; replace BK10 := kbk_ hk (kq_ (o' := .cells #[.int .i64 t7, .string (⟨#[]⟩ : ByteArray)] 25 (0, 0)) BK10) NB10_6; replace HB := am_ hb; replace HI6 := am_ hi; clear hb hk hi; have hz26 := cz2_ BK10) | ((with_reducible refine gq_ 31 50 ?_); refine gc_ 50 Try.func31 (impl_getter_texts.calls kj3 gb6 ((l0.take ((wrap64 (t3 + t602)) : Int).toNat).drop (t3 : Int).toNat) t12 t13 t14 t17 true w _ (in58_ HI6) (bi58_ HB) A14.out) ?_; rintro e w27 ⟨v15, rfl, ho0, hi, hb, hk⟩; refine ⟨_, rfl, ?_⟩; replace BK1 := kbk_ hk (kq_ (o' := .cells #[.int .i64 0, .string (⟨#[]⟩ : ByteArray)] 25 (0, 0)) BK1) NB1_6; replace BK10 := kbk_ hk (kq_ (o' := .cells #[.int .i64 t7, .string t11] 25 (0, 0)) BK10) NB10_6; have HO16 := am_ (Kd.R_lower ho0 (below_size (bs3_ HB (IsS58.ge HI6.out) GE1.out GE10.out))); replace HB := am_ hb; replace HI6 := am_ hi; clear hb hk hi ho0))
     obtain ⟨Aq28_0, cq28_0, hb_, hg_, hrq28_0, hqq28_0⟩ := HI6.out
     have BK6 := am_ hb_
     have HRq28_0 := am_ hrq28_0
     have HCq28_0 := am_ hqq28_0
     clear hb_ hg_ hrq28_0 hqq28_0 HI6
     replace HO16 := am_ (Kd.R_drew HO16.out)
     replace BK1 := bd_ BK1
     replace BK6 := bd_ BK6
     replace BK10 := bd_ BK10
     replace HB := hd_ HB
     refine sw_ 13 (fun w' => w'.cell? ⟨gb6, 0, none⟩ = some (.slice Aq28_0 ((l0.take ((wrap64 (t3 + t602)) : Int).toNat).drop (t3 : Int).toNat).length cq28_0) ∧ w'.cell? ⟨gb6, 1, none⟩ = some (.int .i64 t17) ∧ w'.cell? ⟨gb6, 2, none⟩ = some (.bool true)) [] impl_GetCommit.tab9 impl_GetCommit.bits9 ⟨bc0_ BK6.out, bc1_ BK6.out, bc2_ BK6.out⟩ (fun hHeld HT_ HW_ => ?_)
     generalize w27.drew = w29 at HO16 BK1 BK6 BK10 HB hHeld ⊢
     refine pt_ 0 51 1 ?_
     refine tt_ 1 52 3 ?_
     refine pt_ 2 53 7 ?_
     refine ut_ 3 54 15 ?_
     refine ut_ 4 55 31 ?_
     refine ut_ 5 56 63 ?_
     refine ut_ 6 57 127 ?_
     refine ut_ 7 58 255 ?_
     refine ut_ 8 59 511 ?_
     refine ut_ 9 60 1023 ?_
     refine ut_ 10 61 2047 ?_
     refine ut_ 11 62 4095 ?_
     refine pt_ 12 63 8191 ?_
     refine dn_ ?_
     have hz30 := cz2_ BK1
     try go_wp2
     refine bodyPost_ret (results_list (rs := [.cell 4 25, .tmp 5, .tmp 6, .tmp 7]) rfl (by simp) (.cell gb1 25 #[.int .i64 0, .string (⟨#[]⟩ : ByteArray)] (0, 0) _ rfl (by exact kq_ BK1) Try.underlying25 rfl (by kernel_rfl) (.tmp (.tmp (.tmp .nil))))) rfl ?_
     exact ⟨_, e2_, nil_, bw_ HB⟩
    ·replace H := bi_ H; obtain ⟨t19, A31, H⟩ := H
     replace H := ip_ H; obtain ⟨c32, H⟩ := H
     have c32b0 := eq_true c32
     have c32b1 := decide_eq_true c32
     clear c32
     replace H := ip_ H; obtain ⟨c33, H⟩ := H
     have c33b0 := eq_true c33
     have c33b1 := decide_eq_true c33
     replace H := ip_ H; obtain ⟨c34, H⟩ := H
     have c34b0 := eq_true c34
     have c34b1 := decide_eq_true c34
     replace H := bi_ H; obtain ⟨t23, A35, H⟩ := H
     replace H := itb_ H; obtain ⟨rfl, H⟩ | ⟨rfl, H⟩ := H
     ·replace H := so5_ H; obtain ⟨rfl, rfl, rfl, rfl, rfl⟩ := H
      obtain ⟨i037, hi037, _, hsz37, _⟩ := info_parts info5
      obtain ⟨A37, hcut37, hA37, hC37⟩ := print_mid_of (P := Try.prog) (Value.int .u8) 0 22 5 .i64 .i64 Try.underlying22 hi037 hsz37 A0 c0 l0 t3 (wrap64 (t3 + t602)) (od_) (by first | omega | exact od_) (od_) HC0.out
      have HR5 := am_ (Kd.C_of_reads (h1 := fun _ => rfl) (hA37 _ (Kd.reads_of_C HR0.out)))
      have HC5 := am_ hC37
      clear hA37 hC37 hi037 hsz37
      try go_wp2_with (first | ((with_reducible refine gd_ 12 ?_); (try (refine gate_guard (by rfl) ?_; dsimp only)); refine x58_ 12 ?_; intro gb6 hg w38 hbox hb; have BK6 := am_ hbox; have GW6 := gg_ hg HB; have GE6 := GW6; replace HB := ss_ HB hb; have NB1_6 := nla_ hg BK1; have NB6_1 := nga_ hg BK1; replace BK1 := kl_ BK1 hb; clear hb hbox hg; have hnb39 := NB6_1.out; have hnc39 := NB1_6.out; have hz40 := cz3_ BK6) | ((with_reducible refine gk_ 29 ?_); refine gl_ 46 Try.func29 #[.pointer (some ⟨gb6, 0, none⟩)] ?_; refine IsS58.called (w0 := w) (g := gb6) (f0 := (l0.take ((wrap64 (t3 + t602)) : Int).toNat).drop (t3 : Int).toNat) (f1 := 0) (f2 := false) ⟨_, _, by (rw [show ((l0.take ((wrap64 (t3 + t602)) : Int).toNat).drop (t3 : Int).toNat).length = ((wrap64 (t3 + t602)).toNat - t3.toNat) from (by rw [List.length_drop, List.length_take]; have h_ : ((wrap64 (t3 + t602)) : Int) ≤ (l0.length : Int) := od_; omega)]); refine kb_ ?_; refine blk_put (cs := #[.slice A37 ((wrap64 (t3 + t602)).toNat - t3.toNat) (c0 - t3.toNat), .int .i64 0, .bool false]) ?_ 2 _ rfl; refine kb_ ?_; refine blk_put (cs := #[.slice A37 ((wrap64 (t3 + t602)).toNat - t3.toNat) (c0 - t3.toNat), .int .i64 0, .bool false]) ?_ 1 _ rfl; refine kb_ ?_; refine blk_put (cs := #[.slice none 0 0, .int .i64 0, .bool false]) ?_ 0 _ rfl; refine kb_ ?_; exact BK6.out, GW6.out, HR5.out, HC5.out⟩ (fun HI6 => ?_); (with_reducible refine (impl_getter_num.calls kj3 gb6 ((l0.take ((wrap64 (t3 + t602)) : Int).toNat).drop (t3 : Int).toNat) 0 false t7 t8 t9 w _ ?side1 ?side2 A12.out).mono ?_); (case side1 => exact in58_ HI6); (case side2 => exact bi58_ HB); rintro e w41 ⟨rfl, hi, hb, hk⟩; refine ⟨_, rfl, ?_⟩; replace BK1 := kbk_ hk (kq_ (o' := .cells #[.int .i64 0, .string (⟨#[]⟩ : ByteArray)] 25 (0, 0)) BK1) NB1_6; replace HB := am_ hb; replace HI6 := am_ hi; clear hb hk hi) | ((with_reducible refine gd_ 13 ?_); (try (refine gate_guard (by rfl) ?_; dsimp only)); refine x25_ 13 ?_; intro gb10 hg w42 hbox hb; have BK10 := am_ hbox; have GW10 := am_ (gz_ hg (below_size (bs2_ HB (IsS58.ge HI6.out) GE1.out))); have GE10 := am_ (gz_ hg (below_size (bs2_ HB (IsS58.ge HI6.out) GE1.out))); replace HB := am_ (below_step (bs2_ HB (IsS58.ge HI6.out) GE1.out) hb); have NB1_10 := nla_ hg BK1; have NB10_1 := nga_ hg BK1; replace BK1 := kl_ BK1 hb; have NB6_10 := am_ ((by rw [hg]; exact Nat.ne_of_lt (IsS58.lt (show IsS58 w _ gb6 ((l0.take ((wrap64 (t3 + t602)) : Int).toNat).drop (t3 : Int).toNat) t8 t9 from in58_ HI6)) : gb6 ≠ gb10)); have NB10_6 := am_ ((by rw [hg]; exact Nat.ne_of_gt (IsS58.lt (show IsS58 w _ gb6 ((l0.take ((wrap64 (t3 + t602)) : Int).toNat).drop (t3 : Int).toNat) t8 t9 from in58_ HI6)) : gb10 ≠ gb6)); replace HI6 := am_ (IsS58.below (in58_ HI6) hb); clear hb hbox hg; have hnb43 := NB10_1.out; have hnc43 := NB1_10.out; have hnb44 := NB10_6.out; have hnc44 := NB6_10.out; have hz45 := cz2_ BK10) | ((with_reducible refine gq_ 30 48 ?_); refine gc_ 48 Try.func30 (impl_getter_text.calls kj3 gb6 ((l0.take ((wrap64 (t3 + t602)) : Int).toNat).drop (t3 : Int).toNat) t8 t9 t11 t12 t13 w _ (in58_ HI6) (bi58_ HB) A13.out) ?_; rintro e w46 ⟨rfl, hi, hb, hk⟩; refine ⟨_, rfl, ?_⟩; replace BK1 := kbk_ hk (kq_ (o' := .cells #[.int .i64 0, .string (⟨#[]⟩ : ByteArray)] 25 (0, 0)) BK1) NB1_6; replace BK10 := kbk_ hk (kq_ (o' := .cells #[.int .i64 t7, .string (⟨#[]⟩ : ByteArray)] 25 (0, 0)) BK10) NB10_6; replace HB := am_ hb; replace HI6 := am_ hi; clear hb hk hi; have hz47 := cz2_ BK10) | ((with_reducible refine gq_ 31 50 ?_); refine gc_ 50 Try.func31 (impl_getter_texts.calls kj3 gb6 ((l0.take ((wrap64 (t3 + t602)) : Int).toNat).drop (t3 : Int).toNat) t12 t13 t14 t17 false w _ (in58_ HI6) (bi58_ HB) A14.out) ?_; rintro e w48 ⟨v15, rfl, ho0, hi, hb, hk⟩; refine ⟨_, rfl, ?_⟩; replace BK1 := kbk_ hk (kq_ (o' := .cells #[.int .i64 0, .string (⟨#[]⟩ : ByteArray)] 25 (0, 0)) BK1) NB1_6; replace BK10 := kbk_ hk (kq_ (o' := .cells #[.int .i64 t7, .string t11] 25 (0, 0)) BK10) NB10_6; have HO16 := am_ (Kd.R_lower ho0 (below_size (bs3_ HB (IsS58.ge HI6.out) GE1.out GE10.out))); replace HB := am_ hb; replace HI6 := am_ hi; clear hb hk hi ho0))
      obtain ⟨Aq49_0, cq49_0, hb_, hg_, hrq49_0, hqq49_0⟩ := HI6.out
      have BK6 := am_ hb_
      have HRq49_0 := am_ hrq49_0
      have HCq49_0 := am_ hqq49_0
      clear hb_ hg_ hrq49_0 hqq49_0 HI6
      replace HO16 := am_ (Kd.R_drew HO16.out)
      replace BK1 := bd_ BK1
      replace BK6 := bd_ BK6
      replace BK10 := bd_ BK10
      replace HB := hd_ HB
      obtain ⟨i051, hi051, _, hsz51, _⟩ := info_parts info5
      obtain ⟨A51, hcut51, hA51, hC51⟩ := print_mid_of (P := Try.prog) (Value.int .u8) 0 22 5 .i64 .i64 Try.underlying22 hi051 hsz51 A0 c0 l0 a1 (wrap64 ((wrap64 (t3 + t602)) + 4)) (od_) (by first | omega | exact od_) (od_) HC0.out
      have HR22 := am_ (Kd.C_of_reads (h1 := fun _ => rfl) (hA51 _ (Kd.reads_of_C HR0.out)))
      have HC22 := am_ hC51
      clear hA51 hC51 hi051 hsz51
      obtain ⟨Ao52, co52, eo52⟩ := Kd.R_slice HO16.out
      (first | subst eo52 | (injection eo52 with f1_ f2_ f3_; have f4_ := f1_.symm; have f5_ := f3_.symm; clear f1_ f2_ f3_; subst f4_; subst f5_))
      refine sw_ 13 (fun w' => w'.cell? ⟨gb6, 0, none⟩ = some (.slice Aq49_0 ((l0.take ((wrap64 (t3 + t602)) : Int).toNat).drop (t3 : Int).toNat).length cq49_0) ∧ w'.cell? ⟨gb6, 1, none⟩ = some (.int .i64 t17) ∧ w'.cell? ⟨gb6, 2, none⟩ = some (.bool false) ∧ w'.cell? ⟨gb10, 0, none⟩ = some (.int .i64 t7) ∧ w'.cell? ⟨gb10, 1, none⟩ = some (.string t11)) [] impl_GetCommit.tab9 impl_GetCommit.bits9 ⟨bc0_ BK6.out, bc1_ BK6.out, bc2_ BK6.out, bc0_ BK10.out, bc1_ BK10.out⟩ (fun hHeld HT_ HW_ => ?_)
      generalize w48.drew = w50 at HO16 BK1 BK6 BK10 HB HR22 hHeld ⊢
      refine pt_ 0 51 1 ?_
      refine tt_ 1 52 3 ?_
      refine pt_ 2 53 7 ?_
      refine pt_ 4 55 23 ?_
      refine pt_ 6 57 87 ?_
      refine pt_ 7 58 215 ?_
      refine pt_ 8 59 471 ?_
      refine pt_ 9 60 983 ?_
      refine tt_ 3 54 991 ?_
      refine oz_ 5 56 13 1023 (fun K hK => ?_)
      refine gf_ Try.func71 (impl_PutCommit.calls kj3 t7 t11 _ _ t14 t19 _ (ch_ HO16) (cl_ HO16) A31.out) ?_
      rintro e w53 ⟨v20, rfl, ho0, hb⟩
      refine ⟨_, rfl, ?_⟩
      replace HO16 := rb_ HO16 hb
      have HO21 := rlo_ ho0 HB
      replace BK1 := kl_ BK1 hb
      replace BK6 := kl_ BK6 hb
      replace BK10 := kl_ BK10 hb
      replace HB := ss_ HB hb
      clear hb ho0
      obtain ⟨Ao54, co54, eo54⟩ := Kd.R_slice HO21.out
      (first | subst eo54 | (injection eo54 with f1_ f2_ f3_; have f4_ := f1_.symm; have f5_ := f3_.symm; clear f1_ f2_ f3_; subst f4_; subst f5_))
      refine hK.out _ _ ⟨bc0_ BK6.out, bc1_ BK6.out, bc2_ BK6.out, bc0_ BK10.out, bc1_ BK10.out⟩ (fun hHeld => ?_)
      clear hK K
      refine no_ 56 ?_
      refine oz_ 10 61 13 2047 (fun K hK => ?_)
      refine goes_ Try.func32 (by kernel_rfl) rfl #[.slice Ao54 t19.length co54, .slice A51 ((l0.take ((wrap64 ((wrap64 (t3 + t602)) + 4)) : Int).toNat).drop (a1 : Int).toNat).length (c0 - a1.toNat)] (by rfl) rfl rfl (by (try simp only [List.map_toArray, List.map_cons, List.map_nil]); first | done | (rw [show ((l0.take ((wrap64 ((wrap64 (t3 + t602)) + 4)) : Int).toNat).drop (a1 : Int).toNat).length = ((wrap64 ((wrap64 (t3 + t602)) + 4)).toNat - a1.toNat) from (by rw [List.length_drop, List.length_take]; have h_ : ((wrap64 ((wrap64 (t3 + t602)) + 4)) : Int) ≤ (l0.length : Int) := od_; omega)] <;> rfl) | rfl | (simp only [List.length_drop, List.length_take]; rfl)) ?_
      with_reducible refine (bytes_Equal.calls _ _ t19 _ _ ((l0.take ((wrap64 ((wrap64 (t3 + t602)) + 4)) : Int).toNat).drop (a1 : Int).toNat) true _ ?side1 ?side2 ?side3 ?side4 A35.out).mono ?_
      (case side1 => exact ch_ HO21)
      (case side2 => exact (cl_ HO21))
      (case side3 => exact cb_ HR22 HB)
      (case side4 => exact HC22.out)
      rintro e w' ⟨rfl, ⟨nd, rfl⟩⟩
      refine ⟨_, rfl, ?_⟩
      refine hK.out _ _ ⟨bc0_ BK6.out, bc1_ BK6.out, bc2_ BK6.out, bc0_ BK10.out, bc1_ BK10.out⟩ (fun hHeld => ?_)
      clear hK K
      refine no_ 61 ?_
      refine pt_ 11 62 4095 ?_
      refine pt_ 12 63 8191 ?_
      refine dn_ ?_
      have hz55 := cz2_ BK10
      have hz56 := cz2_ BK1
      try go_wp2
      refine bodyPost_ret (results_list (rs := [.cell 4 25, .tmp 5, .tmp 6, .tmp 7]) rfl (by simp) (.cell gb1 25 #[.int .i64 t7, .string t11] (0, 0) _ rfl (by exact kq_ BK1) Try.underlying25 rfl (by kernel_rfl) (.tmp (.tmp (.tmp .nil))))) rfl ?_
      exact ⟨_, e2_, kfm_ HO16 BK1, bw_ HB⟩
     ·replace H := so5_ H; obtain ⟨rfl, rfl, rfl, rfl, rfl⟩ := H
      obtain ⟨i057, hi057, _, hsz57, _⟩ := info_parts info5
      obtain ⟨A57, hcut57, hA57, hC57⟩ := print_mid_of (P := Try.prog) (Value.int .u8) 0 22 5 .i64 .i64 Try.underlying22 hi057 hsz57 A0 c0 l0 t3 (wrap64 (t3 + t602)) (od_) (by first | omega | exact od_) (od_) HC0.out
      have HR5 := am_ (Kd.C_of_reads (h1 := fun _ => rfl) (hA57 _ (Kd.reads_of_C HR0.out)))
      have HC5 := am_ hC57
      clear hA57 hC57 hi057 hsz57
      try go_wp2_with (first | ((with_reducible refine gd_ 12 ?_); (try (refine gate_guard (by rfl) ?_; dsimp only)); refine x58_ 12 ?_; intro gb6 hg w58 hbox hb; have BK6 := am_ hbox; have GW6 := gg_ hg HB; have GE6 := GW6; replace HB := ss_ HB hb; have NB1_6 := nla_ hg BK1; have NB6_1 := nga_ hg BK1; replace BK1 := kl_ BK1 hb; clear hb hbox hg; have hnb59 := NB6_1.out; have hnc59 := NB1_6.out; have hz60 := cz3_ BK6) | ((with_reducible refine gk_ 29 ?_); refine gl_ 46 Try.func29 #[.pointer (some ⟨gb6, 0, none⟩)] ?_; refine IsS58.called (w0 := w) (g := gb6) (f0 := (l0.take ((wrap64 (t3 + t602)) : Int).toNat).drop (t3 : Int).toNat) (f1 := 0) (f2 := false) ⟨_, _, by (rw [show ((l0.take ((wrap64 (t3 + t602)) : Int).toNat).drop (t3 : Int).toNat).length = ((wrap64 (t3 + t602)).toNat - t3.toNat) from (by rw [List.length_drop, List.length_take]; have h_ : ((wrap64 (t3 + t602)) : Int) ≤ (l0.length : Int) := od_; omega)]); refine kb_ ?_; refine blk_put (cs := #[.slice A57 ((wrap64 (t3 + t602)).toNat - t3.toNat) (c0 - t3.toNat), .int .i64 0, .bool false]) ?_ 2 _ rfl; refine kb_ ?_; refine blk_put (cs := #[.slice A57 ((wrap64 (t3 + t602)).toNat - t3.toNat) (c0 - t3.toNat), .int .i64 0, .bool false]) ?_ 1 _ rfl; refine kb_ ?_; refine blk_put (cs := #[.slice none 0 0, .int .i64 0, .bool false]) ?_ 0 _ rfl; refine kb_ ?_; exact BK6.out, GW6.out, HR5.out, HC5.out⟩ (fun HI6 => ?_); (with_reducible refine (impl_getter_num.calls kj3 gb6 ((l0.take ((wrap64 (t3 + t602)) : Int).toNat).drop (t3 : Int).toNat) 0 false t7 t8 t9 w _ ?side1 ?side2 A12.out).mono ?_); (case side1 => exact in58_ HI6); (case side2 => exact bi58_ HB); rintro e w61 ⟨rfl, hi, hb, hk⟩; refine ⟨_, rfl, ?_⟩; replace BK1 := kbk_ hk (kq_ (o' := .cells #[.int .i64 0, .string (⟨#[]⟩ : ByteArray)] 25 (0, 0)) BK1) NB1_6; replace HB := am_ hb; replace HI6 := am_ hi; clear hb hk hi) | ((with_reducible refine gd_ 13 ?_); (try (refine gate_guard (by rfl) ?_; dsimp only)); refine x25_ 13 ?_; intro gb10 hg w62 hbox hb; have BK10 := am_ hbox; have GW10 := am_ (gz_ hg (below_size (bs2_ HB (IsS58.ge HI6.out) GE1.out))); have GE10 := am_ (gz_ hg (below_size (bs2_ HB (IsS58.ge HI6.out) GE1.out))); replace HB := am_ (below_step (bs2_ HB (IsS58.ge HI6.out) GE1.out) hb); have NB1_10 := nla_ hg BK1; have NB10_1 := nga_ hg BK1; replace BK1 := kl_ BK1 hb; have NB6_10 := am_ ((by rw [hg]; exact Nat.ne_of_lt (IsS58.lt (show IsS58 w _ gb6 ((l0.take ((wrap64 (t3 + t602)) : Int).toNat).drop (t3 : Int).toNat) t8 t9 from in58_ HI6)) : gb6 ≠ gb10)); have NB10_6 := am_ ((by rw [hg]; exact Nat.ne_of_gt (IsS58.lt (show IsS58 w _ gb6 ((l0.take ((wrap64 (t3 + t602)) : Int).toNat).drop (t3 : Int).toNat) t8 t9 from in58_ HI6)) : gb10 ≠ gb6)); replace HI6 := am_ (IsS58.below (in58_ HI6) hb); clear hb hbox hg; have hnb63 := NB10_1.out; have hnc63 := NB1_10.out; have hnb64 := NB10_6.out; have hnc64 := NB6_10.out; have hz65 := cz2_ BK10) | ((with_reducible refine gq_ 30 48 ?_); refine gc_ 48 Try.func30 (impl_getter_text.calls kj3 gb6 ((l0.take ((wrap64 (t3 + t602)) : Int).toNat).drop (t3 : Int).toNat) t8 t9 t11 t12 t13 w _ (in58_ HI6) (bi58_ HB) A13.out) ?_; rintro e w66 ⟨rfl, hi, hb, hk⟩; refine ⟨_, rfl, ?_⟩; replace BK1 := kbk_ hk (kq_ (o' := .cells #[.int .i64 0, .string (⟨#[]⟩ : ByteArray)] 25 (0, 0)) BK1) NB1_6; replace BK10 := kbk_ hk (kq_ (o' := .cells #[.int .i64 t7, .string (⟨#[]⟩ : ByteArray)] 25 (0, 0)) BK10) NB10_6; replace HB := am_ hb; replace HI6 := am_ hi; clear hb hk hi; have hz67 := cz2_ BK10) | ((with_reducible refine gq_ 31 50 ?_); refine gc_ 50 Try.func31 (impl_getter_texts.calls kj3 gb6 ((l0.take ((wrap64 (t3 + t602)) : Int).toNat).drop (t3 : Int).toNat) t12 t13 t14 t17 false w _ (in58_ HI6) (bi58_ HB) A14.out) ?_; rintro e w68 ⟨v15, rfl, ho0, hi, hb, hk⟩; refine ⟨_, rfl, ?_⟩; replace BK1 := kbk_ hk (kq_ (o' := .cells #[.int .i64 0, .string (⟨#[]⟩ : ByteArray)] 25 (0, 0)) BK1) NB1_6; replace BK10 := kbk_ hk (kq_ (o' := .cells #[.int .i64 t7, .string t11] 25 (0, 0)) BK10) NB10_6; have HO16 := am_ (Kd.R_lower ho0 (below_size (bs3_ HB (IsS58.ge HI6.out) GE1.out GE10.out))); replace HB := am_ hb; replace HI6 := am_ hi; clear hb hk hi ho0))
      obtain ⟨Aq69_0, cq69_0, hb_, hg_, hrq69_0, hqq69_0⟩ := HI6.out
      have BK6 := am_ hb_
      have HRq69_0 := am_ hrq69_0
      have HCq69_0 := am_ hqq69_0
      clear hb_ hg_ hrq69_0 hqq69_0 HI6
      replace HO16 := am_ (Kd.R_drew HO16.out)
      replace BK1 := bd_ BK1
      replace BK6 := bd_ BK6
      replace BK10 := bd_ BK10
      replace HB := hd_ HB
      obtain ⟨i071, hi071, _, hsz71, _⟩ := info_parts info5
      obtain ⟨A71, hcut71, hA71, hC71⟩ := print_mid_of (P := Try.prog) (Value.int .u8) 0 22 5 .i64 .i64 Try.underlying22 hi071 hsz71 A0 c0 l0 a1 (wrap64 ((wrap64 (t3 + t602)) + 4)) (od_) (by first | omega | exact od_) (od_) HC0.out
      have HR22 := am_ (Kd.C_of_reads (h1 := fun _ => rfl) (hA71 _ (Kd.reads_of_C HR0.out)))
      have HC22 := am_ hC71
      clear hA71 hC71 hi071 hsz71
      obtain ⟨Ao72, co72, eo72⟩ := Kd.R_slice HO16.out
      (first | subst eo72 | (injection eo72 with f1_ f2_ f3_; have f4_ := f1_.symm; have f5_ := f3_.symm; clear f1_ f2_ f3_; subst f4_; subst f5_))
      refine sw_ 13 (fun w' => w'.cell? ⟨gb6, 0, none⟩ = some (.slice Aq69_0 ((l0.take ((wrap64 (t3 + t602)) : Int).toNat).drop (t3 : Int).toNat).length cq69_0) ∧ w'.cell? ⟨gb6, 1, none⟩ = some (.int .i64 t17) ∧ w'.cell? ⟨gb6, 2, none⟩ = some (.bool false) ∧ w'.cell? ⟨gb10, 0, none⟩ = some (.int .i64 t7) ∧ w'.cell? ⟨gb10, 1, none⟩ = some (.string t11)) [] impl_GetCommit.tab9 impl_GetCommit.bits9 ⟨bc0_ BK6.out, bc1_ BK6.out, bc2_ BK6.out, bc0_ BK10.out, bc1_ BK10.out⟩ (fun hHeld HT_ HW_ => ?_)
      generalize w68.drew = w70 at HO16 BK1 BK6 BK10 HB HR22 hHeld ⊢
      refine pt_ 0 51 1 ?_
      refine tt_ 1 52 3 ?_
      refine pt_ 2 53 7 ?_
      refine pt_ 4 55 23 ?_
      refine pt_ 6 57 87 ?_
      refine pt_ 7 58 215 ?_
      refine pt_ 8 59 471 ?_
      refine pt_ 9 60 983 ?_
      refine tt_ 3 54 991 ?_
      refine oz_ 5 56 13 1023 (fun K hK => ?_)
      refine gf_ Try.func71 (impl_PutCommit.calls kj3 t7 t11 _ _ t14 t19 _ (ch_ HO16) (cl_ HO16) A31.out) ?_
      rintro e w73 ⟨v20, rfl, ho0, hb⟩
      refine ⟨_, rfl, ?_⟩
      replace HO16 := rb_ HO16 hb
      have HO21 := rlo_ ho0 HB
      replace BK1 := kl_ BK1 hb
      replace BK6 := kl_ BK6 hb
      replace BK10 := kl_ BK10 hb
      replace HB := ss_ HB hb
      clear hb ho0
      obtain ⟨Ao74, co74, eo74⟩ := Kd.R_slice HO21.out
      (first | subst eo74 | (injection eo74 with f1_ f2_ f3_; have f4_ := f1_.symm; have f5_ := f3_.symm; clear f1_ f2_ f3_; subst f4_; subst f5_))
      refine hK.out _ _ ⟨bc0_ BK6.out, bc1_ BK6.out, bc2_ BK6.out, bc0_ BK10.out, bc1_ BK10.out⟩ (fun hHeld => ?_)
      clear hK K
      refine no_ 56 ?_
      refine oz_ 10 61 13 2047 (fun K hK => ?_)
      refine goes_ Try.func32 (by kernel_rfl) rfl #[.slice Ao74 t19.length co74, .slice A71 ((l0.take ((wrap64 ((wrap64 (t3 + t602)) + 4)) : Int).toNat).drop (a1 : Int).toNat).length (c0 - a1.toNat)] (by rfl) rfl rfl (by (try simp only [List.map_toArray, List.map_cons, List.map_nil]); first | done | (rw [show ((l0.take ((wrap64 ((wrap64 (t3 + t602)) + 4)) : Int).toNat).drop (a1 : Int).toNat).length = ((wrap64 ((wrap64 (t3 + t602)) + 4)).toNat - a1.toNat) from (by rw [List.length_drop, List.length_take]; have h_ : ((wrap64 ((wrap64 (t3 + t602)) + 4)) : Int) ≤ (l0.length : Int) := od_; omega)] <;> rfl) | rfl | (simp only [List.length_drop, List.length_take]; rfl)) ?_
      with_reducible refine (bytes_Equal.calls _ _ t19 _ _ ((l0.take ((wrap64 ((wrap64 (t3 + t602)) + 4)) : Int).toNat).drop (a1 : Int).toNat) false _ ?side1 ?side2 ?side3 ?side4 A35.out).mono ?_
      (case side1 => exact ch_ HO21)
      (case side2 => exact (cl_ HO21))
      (case side3 => exact cb_ HR22 HB)
      (case side4 => exact HC22.out)
      rintro e w' ⟨rfl, ⟨nd, rfl⟩⟩
      refine ⟨_, rfl, ?_⟩
      refine hK.out _ _ ⟨bc0_ BK6.out, bc1_ BK6.out, bc2_ BK6.out, bc0_ BK10.out, bc1_ BK10.out⟩ (fun hHeld => ?_)
      clear hK K
      refine no_ 61 ?_
      refine pt_ 11 62 4095 ?_
      refine pt_ 12 63 8191 ?_
      refine dn_ ?_
      have hz75 := cz2_ BK1
      try go_wp2
      refine bodyPost_ret (results_list (rs := [.cell 4 25, .tmp 5, .tmp 6, .tmp 7]) rfl (by simp) (.cell gb1 25 #[.int .i64 0, .string (⟨#[]⟩ : ByteArray)] (0, 0) _ rfl (by exact kq_ BK1) Try.underlying25 rfl (by kernel_rfl) (.tmp (.tmp (.tmp .nil))))) rfl ?_
      exact ⟨_, e2_, nil_, bw_ HB⟩
def impl_rootOf.f : Nat → List ByteArray → Option (ByteArray)
 | 0, _ => none
 | k + 1, l0 => if (l0.length : Int) = 0 then ((impl_Digest.f ([] : List Int)).bind fun t1 => (some t1)) else (if (l0.length : Int) = 1 then (if 0 < (l0.length : Int) then ((impl_LeafHash.f (rdOf ByteArray.empty l0 0)).bind fun t3 => (some t3)) else (none)) else ((impl_half.f k (l0.length : Int)).bind fun t4 => (if 0 ≤ t4 then (if t4 ≤ (l0.length : Int) then ((impl_rootOf.f k (l0.take (t4 : Int).toNat)).bind fun t6 => ((impl_rootOf.f k (l0.drop (t4 : Int).toNat)).bind fun t8 => ((impl_NodeHash.f t6 t8).bind fun t9 => (some t9)))) else (none)) else (none))))
def impl_rootOf.T7 : Bool × List (List Nat × List Nat) := (true, [([], []), ([], []), ([0, 1], [0, 1]), ([2], [2]), ([], []), ([], []), ([4, 5], [4, 5]), ([6, 3], [6]), ([3, 7, 7], [3, 7]), ([8, 8, 0, 1, 2, 3, 4, 5, 6, 7, 8], [8])])
def impl_rootOf.B7 : List Nat := [0, 0, 3, 7, 0, 0, 48, 127, 255, 511]
theorem impl_rootOf.tab7 : rtab .any (opsOf Try.f80 7) = impl_rootOf.T7 := by kernel_rfl
theorem impl_rootOf.bits7 : waitsOk impl_rootOf.T7.2 impl_rootOf.B7 = true := by kernel_rfl
theorem impl_rootOf.calls (k : Nat) : ∀ (A0 : Option Addr) (c0 : Nat) (l0 : List ByteArray) (r : ByteArray) (w : World) (hr0 : Kd.C Kd.string w A0 l0.length l0) (hc0 : l0.length ≤ c0) (h : impl_rootOf.f k l0 = some r),
  Calls Try.prog 80 #[.slice A0 l0.length c0] w fun e w' => e = .returned (.string r) ∧ Below w.heap.size w w' := by
 induction k using Nat.strongRecOn with
 | _ k ih =>
 intro A0 c0 l0 r w hr0 hc0 h
 cases k with
 | zero => exact absurd h (by simp [impl_rootOf.f])
 | succ k =>
 simp only [impl_rootOf.f] at h
 have HR0 := am_ hr0
 have HC0 := am_ hc0
 clear hr0 hc0
 have HB := h0_ w
 have H : (if (l0.length : Int) = 0 then ((impl_Digest.f ([] : List Int)).bind fun t1 => (some t1)) else (if (l0.length : Int) = 1 then (if 0 < (l0.length : Int) then ((impl_LeafHash.f (rdOf ByteArray.empty l0 0)).bind fun t3 => (some t3)) else (none)) else ((impl_half.f k (l0.length : Int)).bind fun t4 => (if 0 ≤ t4 then (if t4 ≤ (l0.length : Int) then ((impl_rootOf.f k (l0.take (t4 : Int).toNat)).bind fun t6 => ((impl_rootOf.f k (l0.drop (t4 : Int).toNat)).bind fun t8 => ((impl_NodeHash.f t6 t8).bind fun t9 => (some t9)))) else (none)) else (none))))) = some r := h
 clear h
 replace H := it_ H; obtain ⟨c2, H⟩ | ⟨c2, H⟩ := H
 ·have c2b0 : ((l0.length : Int) == 0) = true := beq_iff_eq.mpr c2
  have c2b1 : ((l0.length : Int) != 0) = false := bne_eq_false_iff_eq.mpr c2
  clear c2
  replace H := bi_ H; obtain ⟨t1, A3, H⟩ := H
  obtain rfl := Option.some.inj H
  go_enter Try.func80, Try.ntmps80
  go_wp2_with (first | ((with_reducible refine gk_ 97 ?_); refine gl_ 8 Try.func97 #[.slice none 0 0] ?_; (refine (impl_Digest.calls _ _ ([] : List Int) t1 _ ?side1 ?side2 A3.out).mono ?_); (case side1 => exact Kd.C_nil _ _); (case side2 => exact Nat.le_refl _); rintro e w4 ⟨rfl, hb⟩; refine ⟨_, rfl, ?_⟩; replace HB := ss_ HB hb; clear hb))
  go_ret
  exact ⟨e2_, bw_ HB⟩
 ·have c2b0 : ((l0.length : Int) == 0) = false := beq_eq_false_iff_ne.mpr c2
  have c2b1 : ((l0.length : Int) != 0) = true := bne_iff_ne.mpr c2
  have c2b2 : ¬ (l0 = []) := fun h_ => c2 (by rw [h_]; rfl)
  replace H := it_ H; obtain ⟨c5, H⟩ | ⟨c5, H⟩ := H
  ·have c5b0 : ((l0.length : Int) == 1) = true := beq_iff_eq.mpr c5
   have c5b1 : ((l0.length : Int) != 1) = false := bne_eq_false_iff_eq.mpr c5
   clear c5
   replace H := ip_ H; obtain ⟨c6, H⟩ := H
   have c6b0 := decide_eq_true c6
   have c6b1 : decide (0 < l0.length) = true := decide_eq_true (by omega)
   clear c6
   replace H := bi_ H; obtain ⟨t3, A7, H⟩ := H
   obtain rfl := Option.some.inj H
   have p602 : 0 ≤ (0 : Int) := (by omega)
   have q2 : 0 < (l0.length : Int) := od_
   obtain ⟨ad2, e602, hx2_0⟩ := Kd.at_string HR0.out 0 p602 q2
   cases e602
   have qi2 : (0 < l0.length) = True := eq_true (by omega)
   (try rw [show ((0 : Int)).toNat = 0 from rfl] at hx2_0)
   (try rw [Addr.add_zero'] at hx2_0)
   replace p602 := eq_true p602
   replace q2 := eq_true q2
   go_enter Try.func80, Try.ntmps80
   go_wp2_with (first | ((with_reducible refine gq_ 98 14 ?_); refine gc_ 14 Try.func98 (impl_LeafHash.calls (rdOf ByteArray.empty l0 0) t3 _ A7.out) ?_; rintro e w8 ⟨rfl, hb⟩; refine ⟨_, rfl, ?_⟩; replace HB := ss_ HB hb; clear hb))
   go_ret
   exact ⟨e2_, bw_ HB⟩
  ·have c5b0 : ((l0.length : Int) == 1) = false := beq_eq_false_iff_ne.mpr c5
   have c5b1 : ((l0.length : Int) != 1) = true := bne_iff_ne.mpr c5
   replace H := bi_ H; obtain ⟨t4, A9, H⟩ := H
   replace H := ip_ H; obtain ⟨c10, H⟩ := H
   have c10b0 := eq_true c10
   have c10b1 := decide_eq_true c10
   clear c10
   replace H := ip_ H; obtain ⟨c11, H⟩ := H
   have c11b0 := eq_true c11
   have c11b1 := decide_eq_true c11
   clear c11
   replace H := bi_ H; obtain ⟨t6, A12, H⟩ := H
   have c13b0 := eq_true (od_ : 0 ≤ t4)
   have c14b0 := eq_true (od_ : t4 ≤ (l0.length : Int))
   replace H := bi_ H; obtain ⟨t8, A15, H⟩ := H
   replace H := bi_ H; obtain ⟨t9, A16, H⟩ := H
   obtain rfl := Option.some.inj H
   go_enter Try.func80, Try.ntmps80
   try go_wp2_with (first | ((with_reducible refine gq_ 99 17 ?_); refine gc_ 17 Try.func99 (impl_half.calls k (l0.length : Int) t4 _ A9.out) ?_; rintro e w17 ⟨rfl, hb⟩; refine ⟨_, rfl, ?_⟩; replace HB := ss_ HB hb; clear hb))
   replace HB := hd_ HB
   obtain ⟨i019, hi019, _, hsz19, _⟩ := info_parts info9
   obtain ⟨hcut19, hA19, hC19⟩ := print_take_of (P := Try.prog) Value.string (⟨#[]⟩ : ByteArray) 26 9 .i64 Try.underlying26 hi019 hsz19 A0 c0 l0 t4 (od_) (od_) HC0.out
   have HR5 := am_ (Kd.C_of_reads (h1 := fun _ => rfl) (hA19 _ (Kd.reads_of_C HR0.out)))
   have HC5 := am_ hC19
   clear hA19 hC19 hi019 hsz19
   obtain ⟨i020, hi020, _, hsz20, _⟩ := info_parts info9
   obtain ⟨A20, hcut20, hA20, hC20⟩ := print_drop_of (P := Try.prog) Value.string (⟨#[]⟩ : ByteArray) 26 9 .i64 Try.underlying26 hi020 hsz20 A0 c0 l0 t4 (od_) (od_) HC0.out
   have HR7 := am_ (Kd.C_of_reads (h1 := fun _ => rfl) (hA20 _ (Kd.reads_of_C HR0.out)))
   have HC7 := am_ hC20
   clear hA20 hC20 hi020 hsz20
   refine sw_ 10 (fun w' => True) [] impl_rootOf.tab7 impl_rootOf.bits7 trivial (fun hHeld HT_ HW_ => ?_)
   generalize w17.drew = w18 at HB HR5 HR7 hHeld ⊢
   refine pt_ 0 18 1 ?_
   refine pt_ 1 19 3 ?_
   refine pt_ 2 20 7 ?_
   refine pt_ 4 22 23 ?_
   refine pt_ 5 23 55 ?_
   refine pt_ 6 24 119 ?_
   refine oz_ 3 21 10 127 (fun K hK => ?_)
   refine goes_ Try.func80 (by kernel_rfl) rfl #[.slice A0 (l0.take (t4 : Int).toNat).length c0] (by rfl) rfl rfl (by (try simp only [List.map_toArray, List.map_cons, List.map_nil]); first | done | (rw [show (l0.take (t4 : Int).toNat).length = t4.toNat from (by rw [List.length_take]; have h_ : (t4 : Int) ≤ (l0.length : Int) := od_; omega)] <;> rfl) | rfl | (simp only [List.length_drop, List.length_take]; rfl)) ?_
   with_reducible refine (ih k (by omega) _ _ (l0.take (t4 : Int).toNat) t6 _ ?side1 ?side2 A12.out).mono ?_
   (case side1 => exact cb_ HR5 HB)
   (case side2 => exact HC5.out)
   rintro e w21 ⟨rfl, hb⟩
   refine ⟨_, rfl, ?_⟩
   replace HB := ss_ HB hb
   clear hb
   refine hK.out _ _ trivial (fun hHeld => ?_)
   clear hK K
   refine no_ 21 ?_
   refine oz_ 7 25 10 255 (fun K hK => ?_)
   refine goes_ Try.func80 (by kernel_rfl) rfl #[.slice A20 (l0.drop (t4 : Int).toNat).length (c0 - t4.toNat)] (by rfl) rfl rfl (by (try simp only [List.map_toArray, List.map_cons, List.map_nil]); first | done | (rw [show (l0.drop (t4 : Int).toNat).length = (l0.length - t4.toNat) from List.length_drop] <;> rfl) | rfl | (simp only [List.length_drop, List.length_take]; rfl)) ?_
   with_reducible refine (ih k (by omega) _ _ (l0.drop (t4 : Int).toNat) t8 _ ?side1 ?side2 A15.out).mono ?_
   (case side1 => exact cb_ HR7 HB)
   (case side2 => exact HC7.out)
   rintro e w22 ⟨rfl, hb⟩
   refine ⟨_, rfl, ?_⟩
   replace HB := ss_ HB hb
   clear hb
   refine hK.out _ _ trivial (fun hHeld => ?_)
   clear hK K
   refine no_ 25 ?_
   refine oz_ 8 26 10 511 (fun K hK => ?_)
   refine gf_ Try.func100 (impl_NodeHash.calls t6 t8 t9 _ A16.out) ?_
   rintro e w23 ⟨rfl, hb⟩
   refine ⟨_, rfl, ?_⟩
   replace HB := ss_ HB hb
   clear hb
   refine hK.out _ _ trivial (fun hHeld => ?_)
   clear hK K
   refine no_ 26 ?_
   refine pt_ 9 2 1023 ?_
   refine dn_ ?_
   try go_wp2
   go_ret
   exact ⟨e2_, bw_ HB⟩
def impl_HeadOf.f (k : Nat) (l0 : List ByteArray) : Option (Int × ByteArray) := if (l0.length : Int) > 200 then (some (0, (⟨#[]⟩ : ByteArray))) else ((impl_rootOf.f k l0).bind fun t602 => (some ((l0.length : Int), t602)))
theorem impl_HeadOf.calls (k : Nat) (A0 : Option Addr) (c0 : Nat) (l0 : List ByteArray) (r1 : Int) (r2 : ByteArray) (w : World) (hr0 : Kd.C Kd.string w A0 l0.length l0) (hc0 : l0.length ≤ c0) (h : impl_HeadOf.f k l0 = some (r1, r2)) :
  Calls Try.prog 53 #[.slice A0 l0.length c0] w fun e w' => e = .returned (.agg #[.int .i64 r1, .string r2]) ∧ Below w.heap.size w w' := by
 have hu25 := Try.underlying25
 have HR0 := am_ hr0
 have HC0 := am_ hc0
 clear hr0 hc0
 have HB := h0_ w
 have H : (if (l0.length : Int) > 200 then (some (0, (⟨#[]⟩ : ByteArray))) else ((impl_rootOf.f k l0).bind fun t602 => (some ((l0.length : Int), t602)))) = some (r1, r2) := h
 clear h
 replace H := it_ H; obtain ⟨c2, H⟩ | ⟨c2, H⟩ := H
 ·have c2b0 : decide (200 < (l0.length : Int)) = true := decide_eq_true c2
  have c2b1 : decide (200 < l0.length) = true := decide_eq_true (by omega)
  clear c2
  replace H := so2_ H; obtain ⟨rfl, rfl⟩ := H
  go_enter Try.func53, Try.ntmps53
  go_wp2_with (first | ((with_reducible refine gd_ 2 ?_); refine x25_ 2 (hx_ HB ?_); clear HB; intro gb1 w3 BK1 GW1 HB; have GE1 := GW1; have hz4 := cz2_ BK1))
  refine bodyPost_ret (results_cell_row rfl _ _ gb1 25 #[.int .i64 0, .string (⟨#[]⟩ : ByteArray)] (0, 0) _ rfl (by exact kq_ BK1) Try.underlying25 rfl (by kernel_rfl)) rfl ?_
  exact ⟨e2_, bw_ HB⟩
 ·have c2b0 : decide (200 < (l0.length : Int)) = false := decide_eq_false c2
  have c2b1 : decide (200 < l0.length) = false := decide_eq_false (by omega)
  clear c2
  replace H := bi_ H; obtain ⟨t602, A5, H⟩ := H
  replace H := so2_ H; obtain ⟨rfl, rfl⟩ := H
  go_enter Try.func53, Try.ntmps53
  go_wp2_with (first | ((with_reducible refine gd_ 2 ?_); refine x25_ 2 (hx_ HB ?_); clear HB; intro gb1 w6 BK1 GW1 HB; have GE1 := GW1) | ((with_reducible refine gq_ 80 10 ?_); refine gc_ 10 Try.func80 (impl_rootOf.calls k _ _ l0 t602 _ (cb_ HR0 HB) HC0.out A5.out) ?_; rintro e w7 ⟨rfl, hb⟩; refine ⟨_, rfl, ?_⟩; replace BK1 := kl_ BK1 hb; replace HB := ss_ HB hb; clear hb; have hz8 := cz2_ BK1))
  refine bodyPost_ret (results_cell_row rfl _ _ gb1 25 #[.int .i64 (l0.length : Int), .string t602] (0, 0) _ rfl (by exact kq_ BK1) Try.underlying25 rfl (by kernel_rfl)) rfl ?_
  exact ⟨e2_, bw_ HB⟩
section
attribute [local go_sem high] eqA25
def impl_LogOk.f (k : Nat) (l0_0 : List ByteArray) (a0_1 : Int) (a0_2 : ByteArray) : Option (Bool) := if (l0_0.length : Int) ≤ 200 then ((impl_HeadOf.f k l0_0).bind fun bt2 => (some (a0_1 == bt2.1 && (a0_2.toList == bt2.2.toList)))) else (some false)
def impl_LogOk.T1 : Bool × List (List Nat × List Nat) := (true, [([], []), ([0], [0]), ([1], [1]), ([2], [2]), ([3], [3]), ([4], [4]), ([5, 4], [4, 5]), ([4], [4]), ([7, 4], [4, 7]), ([8, 4, 4], [4, 8]), ([6, 9, 4], [4, 6, 9]), ([4, 10], [4, 10]), ([11, 9, 0, 1, 2, 3, 4, 5, 6, 7, 8, 9, 10, 11], [11])])
def impl_LogOk.B1 : List Nat := [0, 1, 3, 7, 15, 31, 63, 31, 159, 415, 1023, 2047, 4095]
theorem impl_LogOk.tab1 : rtab .any (opsOf Try.f52 1) = impl_LogOk.T1 := by kernel_rfl
theorem impl_LogOk.bits1 : waitsOk impl_LogOk.T1.2 impl_LogOk.B1 = true := by kernel_rfl
theorem impl_LogOk.calls (k : Nat) (A0_0 : Option Addr) (c0_0 : Nat) (l0_0 : List ByteArray) (a0_1 : Int) (a0_2 : ByteArray) (r : Bool) (w : World) (hr0_0 : Kd.C Kd.string w A0_0 l0_0.length l0_0) (hc0_0 : l0_0.length ≤ c0_0) (h : impl_LogOk.f k l0_0 a0_1 a0_2 = some r) :
  Calls Try.prog 52 #[.agg #[.slice A0_0 l0_0.length c0_0, .int .i64 a0_1, .string a0_2]] w fun e w' => e = .returned (.bool r) ∧ Below w.heap.size w w' := by
 have hu37 := Try.underlying37
 have hu25 := Try.underlying25
 have HR0_0 := am_ hr0_0
 have HC0_0 := am_ hc0_0
 clear hr0_0 hc0_0
 have HB := h0_ w
 have H : (if (l0_0.length : Int) ≤ 200 then ((impl_HeadOf.f k l0_0).bind fun bt2 => (some (a0_1 == bt2.1 && (a0_2.toList == bt2.2.toList)))) else (some false)) = some r := h
 clear h
 replace H := it_ H; obtain ⟨c2, H⟩ | ⟨c2, H⟩ := H
 ·have c2b0 := decide_eq_true c2
  have c2b1 : decide (l0_0.length ≤ 200) = true := decide_eq_true (by omega)
  clear c2
  replace H := bi_ H; obtain ⟨⟨t602, t3⟩, A3, H⟩ := H
  dsimp only at H
  obtain rfl := Option.some.inj H
  go_enter Try.func52, Try.ntmps52
  try go_wp2_with (first | ((with_reducible refine gd_ 1 ?_); refine bx_ 1 37 #[.slice A0_0 l0_0.length c0_0, .int .i64 a0_1, .string a0_2] (hx_ HB ?_); clear HB; intro gb1 w4 BK1 GW1 HB; have GE1 := GW1))
  replace BK1 := bd_ BK1
  replace HB := hd_ HB
  refine sw_ 13 (fun w' => w'.cell? ⟨gb1, 0, none⟩ = some (.slice A0_0 l0_0.length c0_0) ∧ w'.cell? ⟨gb1, 1, none⟩ = some (.int .i64 a0_1) ∧ w'.cell? ⟨gb1, 2, none⟩ = some (.string a0_2)) [] impl_LogOk.tab1 impl_LogOk.bits1 ⟨bc0_ BK1.out, bc1_ BK1.out, bc2_ BK1.out⟩ (fun hHeld HT_ HW_ => ?_)
  generalize w4.drew = w5 at BK1 HB hHeld ⊢
  refine pt_ 0 3 1 ?_
  refine tt_ 1 4 3 ?_
  refine pt_ 2 5 7 ?_
  refine pt_ 3 6 15 ?_
  refine pt_ 4 7 31 ?_
  refine pt_ 5 8 63 ?_
  refine pt_ 7 10 191 ?_
  refine tt_ 6 9 255 ?_
  refine tt_ 8 11 511 ?_
  refine oz_ 9 12 13 1023 (fun K hK => ?_)
  refine gf_ Try.func53 (impl_HeadOf.calls k _ _ l0_0 t602 t3 _ (cb_ HR0_0 HB) HC0_0.out A3.out) ?_
  rintro e w6 ⟨rfl, hb⟩
  refine ⟨_, rfl, ?_⟩
  replace BK1 := kl_ BK1 hb
  replace HB := ss_ HB hb
  clear hb
  refine hK.out _ _ ⟨bc0_ BK1.out, bc1_ BK1.out, bc2_ BK1.out⟩ (fun hHeld => ?_)
  clear hK K
  refine no_ 12 ?_
  refine pt_ 10 13 2047 ?_
  refine pt_ 11 14 4095 ?_
  refine pt_ 12 2 8191 ?_
  refine dn_ ?_
  try go_wp2
  go_ret
  exact ⟨e2_, bw_ HB⟩
 ·have c2b0 := decide_eq_false c2
  have c2b1 : decide (l0_0.length ≤ 200) = false := decide_eq_false (by omega)
  clear c2
  obtain rfl := Option.some.inj H
  go_enter Try.func52, Try.ntmps52
  try go_wp2_with (first | ((with_reducible refine gd_ 1 ?_); refine bx_ 1 37 #[.slice A0_0 l0_0.length c0_0, .int .i64 a0_1, .string a0_2] (hx_ HB ?_); clear HB; intro gb1 w7 BK1 GW1 HB; have GE1 := GW1))
  replace BK1 := bd_ BK1
  replace HB := hd_ HB
  refine sw_ 13 (fun w' => w'.cell? ⟨gb1, 0, none⟩ = some (.slice A0_0 l0_0.length c0_0) ∧ w'.cell? ⟨gb1, 1, none⟩ = some (.int .i64 a0_1) ∧ w'.cell? ⟨gb1, 2, none⟩ = some (.string a0_2)) [] impl_LogOk.tab1 impl_LogOk.bits1 ⟨bc0_ BK1.out, bc1_ BK1.out, bc2_ BK1.out⟩ (fun hHeld HT_ HW_ => ?_)
  generalize w7.drew = w8 at BK1 HB hHeld ⊢
  refine pt_ 0 3 1 ?_
  refine tt_ 1 4 3 ?_
  refine pt_ 2 5 7 ?_
  refine pt_ 3 6 15 ?_
  refine pt_ 4 7 31 ?_
  refine ut_ 5 8 63 ?_
  refine ut_ 6 9 127 ?_
  refine ut_ 7 10 255 ?_
  refine ut_ 8 11 511 ?_
  refine ut_ 9 12 1023 ?_
  refine ut_ 10 13 2047 ?_
  refine pt_ 11 14 4095 ?_
  refine pt_ 12 2 8191 ?_
  refine dn_ ?_
  try go_wp2
  go_ret
  exact ⟨e2_, bw_ HB⟩
end
section
attribute [local go_sem high] eqA25
mutual
def impl_StoreOk.j0 : Nat → Bool → List ByteArray → Int → ByteArray → List Int → Int → Option (Bool)
 | 0, _, _, _, _, _, _ => none
 | k + 1, x27, x2000, x2001, x2002, x2003, x2004 => if x27 = true then (some false) else (impl_StoreOk.l0 k ([] : List ByteArray) 0 x2000 x2001 x2002 x2003 x2004)
def impl_StoreOk.l0 : Nat → List ByteArray → Int → List ByteArray → Int → ByteArray → List Int → Int → Option (Bool)
 | 0, _, _, _, _, _, _, _ => none
 | k + 1, x3, x4, x2000, x2001, x2002, x2003, x2004 => if x4 < (x2003.length : Int) then ((impl_GetCommit.f k x2003 x4).bind fun bt5 => (if x3.length + bt5.2.2.1.length < 8796093022208 then ((some (x3 ++ bt5.2.2.1 : List ByteArray)).bind fun y13 => (if bt5.2.2.2.2 = true then ((impl_HeadOf.f k y13).bind fun bt16 => (if (!(bt5.1 == bt16.1) || (!(bt5.2.1.toList == bt16.2.toList))) = true then (some false) else (impl_StoreOk.l0 k y13 bt5.2.2.2.1 x2000 x2001 x2002 x2003 x2004))) else (some false))) else (none))) else ((slices_Equal_string_string.f k x3 x2000).bind fun t4 => (some t4))
end
def impl_StoreOk.f (k : Nat) (l0_0 : List ByteArray) (a0_1 : Int) (a0_2 : ByteArray) (l0_3 : List Int) (a0_4 : Int) : Option (Bool) := (impl_LogOk.f k l0_0 a0_1 a0_2).bind fun t602 => (if t602 = true then (if (l0_3.length : Int) > 60000 then (impl_StoreOk.j0 k true l0_0 a0_1 a0_2 l0_3 a0_4) else ((impl_inRange.f a0_4 0 (l0_3.length : Int)).bind fun t3 => (impl_StoreOk.j0 k (!t3) l0_0 a0_1 a0_2 l0_3 a0_4))) else (impl_StoreOk.j0 k true l0_0 a0_1 a0_2 l0_3 a0_4))
def impl_StoreOk.T8 : Bool × List (List Nat × List Nat) := (true, [([], []), ([0], [0]), ([1], [1]), ([2], [2]), ([2], [2]), ([4, 2, 2], [2, 4]), ([3, 5, 2], [2, 3, 5]), ([2, 6], [2, 6])])
def impl_StoreOk.B8 : List Nat := [0, 1, 3, 7, 7, 23, 63, 127]
theorem impl_StoreOk.tab8 : rtab .any (opsOf Try.f18 8) = impl_StoreOk.T8 := by kernel_rfl
theorem impl_StoreOk.bits8 : waitsOk impl_StoreOk.T8.2 impl_StoreOk.B8 = true := by kernel_rfl
theorem impl_StoreOk.calls (k : Nat) (A0_0 : Option Addr) (c0_0 : Nat) (l0_0 : List ByteArray) (a0_1 : Int) (a0_2 : ByteArray) (A0_3 : Option Addr) (c0_3 : Nat) (l0_3 : List Int) (a0_4 : Int) (r : Bool) (w : World) (hr0_0 : Kd.C Kd.string w A0_0 l0_0.length l0_0) (hc0_0 : l0_0.length ≤ c0_0) (hr0_3 : Kd.C (Kd.int .u8) w A0_3 l0_3.length l0_3) (hc0_3 : l0_3.length ≤ c0_3) (h : impl_StoreOk.f k l0_0 a0_1 a0_2 l0_3 a0_4 = some r) :
  Calls Try.prog 18 #[.agg #[.slice A0_0 l0_0.length c0_0, .int .i64 a0_1, .string a0_2, .slice A0_3 l0_3.length c0_3, .int .i64 a0_4]] w fun e w' => e = .returned (.bool r) ∧ Below w.heap.size w w' := by
 have hu39 := Try.underlying39
 have hu37 := Try.underlying37
 have hu25 := Try.underlying25
 have HR0_0 := am_ hr0_0
 have HC0_0 := am_ hc0_0
 clear hr0_0 hc0_0
 have HR0_3 := am_ hr0_3
 have HC0_3 := am_ hc0_3
 clear hr0_3 hc0_3
 have HB := h0_ w
 have H : ((impl_LogOk.f k l0_0 a0_1 a0_2).bind fun t602 => (if t602 = true then (if (l0_3.length : Int) > 60000 then (impl_StoreOk.j0 k true l0_0 a0_1 a0_2 l0_3 a0_4) else ((impl_inRange.f a0_4 0 (l0_3.length : Int)).bind fun t3 => (impl_StoreOk.j0 k (!t3) l0_0 a0_1 a0_2 l0_3 a0_4))) else (impl_StoreOk.j0 k true l0_0 a0_1 a0_2 l0_3 a0_4))) = some r := h
 clear h
 have HC2 := am_ H
 clear H
 go_enter Try.func18, Try.ntmps18
 go_upto_region 1 with (first | ((with_reducible refine gd_ 1 ?_); (try (refine gate_guard (by rfl) ?_; dsimp only)); refine bx_ 1 39 #[.slice A0_0 l0_0.length c0_0, .int .i64 a0_1, .string a0_2, .slice A0_3 l0_3.length c0_3, .int .i64 a0_4] (hx_ HB ?_); clear HB; intro gb1 w3 BK1 GW1 HB; have GE1 := GW1))
 (try simp only [Act.put, List.setIfInBounds_toArray, List.set_cons_zero, List.set_cons_succ])
 go_cut [27] (fun v27 wc => ∃ (kq : Nat) (x27_1 : Bool), v27 = .bool x27_1 ∧ Aside0 (impl_StoreOk.j0 kq x27_1 l0_0 a0_1 a0_2 l0_3 a0_4 = some r) ∧ Aside0 (kq ≤ k) ∧ Aside0 (wc.heap[gb1]? = some (.cells #[(.slice A0_0 l0_0.length c0_0), .int .i64 a0_1, .string a0_2, (.slice A0_3 l0_3.length c0_3), .int .i64 a0_4] 39 (0, 0))) ∧ Aside0 (Below w.heap.size w wc))
 case first =>
  have H := HC2.out
  clear HC2
  replace H := bi_ H; obtain ⟨t602, A4, H⟩ := H
  replace H := itb_ H; obtain ⟨rfl, H⟩ | ⟨rfl, H⟩ := H
  ·replace H := it_ H; obtain ⟨c6, H⟩ | ⟨c6, H⟩ := H
   ·have c6b0 : decide (60000 < (l0_3.length : Int)) = true := decide_eq_true c6
    have c6b1 : decide (60000 < l0_3.length) = true := decide_eq_true (by omega)
    clear c6
    (first | rw [c6b0] | (simp only [i64_w, i32_w]; rw [c6b0]) | rw [c6b1] | skip)
    have H' := am_ H
    clear H
    have hz7 := cz5_ BK1
    go_wp2_with (first | ((with_reducible refine gq_ 52 11 ?_); refine gc_ 11 Try.func52 (impl_LogOk.calls k _ _ l0_0 a0_1 a0_2 true _ (cb_ HR0_0 HB) HC0_0.out A4.out) ?_; rintro e w8 ⟨rfl, hb⟩; refine ⟨_, rfl, ?_⟩; replace BK1 := kl_ BK1 hb; replace HB := ss_ HB hb; clear hb; have hz9 := cz5_ BK1))
    go_meet
    case rel => exact ⟨_, (true), e1_, H', ⟨le_⟩, ⟨kb_ BK1.out⟩, ⟨bw_ HB⟩⟩
   ·have c6b0 : decide (60000 < (l0_3.length : Int)) = false := decide_eq_false c6
    have c6b1 : decide (60000 < l0_3.length) = false := decide_eq_false (by omega)
    clear c6
    (first | rw [c6b0] | (simp only [i64_w, i32_w]; rw [c6b0]) | rw [c6b1] | skip)
    replace H := bi_ H; obtain ⟨t3, A10, H⟩ := H
    have H' := am_ H
    clear H
    have hz11 := cz5_ BK1
    go_wp2_with (first | ((with_reducible refine gq_ 52 11 ?_); refine gc_ 11 Try.func52 (impl_LogOk.calls k _ _ l0_0 a0_1 a0_2 true _ (cb_ HR0_0 HB) HC0_0.out A4.out) ?_; rintro e w12 ⟨rfl, hb⟩; refine ⟨_, rfl, ?_⟩; replace BK1 := kl_ BK1 hb; replace HB := ss_ HB hb; clear hb; have hz13 := cz5_ BK1) | (go_at_call 40; (with_reducible refine (impl_inRange.calls a0_4 0 (l0_3.length : Int) t3 _ A10.out).mono ?_); rintro e w' ⟨rfl, ⟨nd, rfl⟩⟩))
    go_meet
    case rel => exact ⟨_, (!t3), e1_, H', ⟨le_⟩, ⟨kb_ BK1.out⟩, ⟨bw_ HB⟩⟩
  ·have H' := am_ H
   clear H
   have hz14 := cz5_ BK1
   go_wp2_with (first | ((with_reducible refine gq_ 52 11 ?_); refine gc_ 11 Try.func52 (impl_LogOk.calls k _ _ l0_0 a0_1 a0_2 false _ (cb_ HR0_0 HB) HC0_0.out A4.out) ?_; rintro e w15 ⟨rfl, hb⟩; refine ⟨_, rfl, ?_⟩; replace BK1 := kl_ BK1 hb; replace HB := ss_ HB hb; clear hb))
   go_meet
   case rel => exact ⟨_, (true), e1_, H', ⟨le_⟩, ⟨kb_ BK1.out⟩, ⟨bw_ HB⟩⟩
 case rest =>
  clear HC2
  obtain ⟨kq, x27_1, rfl, HA, HJ1, BK1, HB⟩ := hcut
  cases kq with
  | zero => exact absurd HA.out (by simp [impl_StoreOk.j0])
  | succ kj1 =>
   have H := HA.out
   clear HA
   simp only [impl_StoreOk.j0] at H
   replace H := itb_ H; obtain ⟨rfl, H⟩ | ⟨rfl, H⟩ := H
   ·obtain rfl := Option.some.inj H
    go_wp2
    go_ret
    exact ⟨e2_, bw_ HB⟩
   ·have H' := am_ H
    clear H
    go_wp2
    go_loopg [3, 4] kj1 (fun kq v3 v4 w' => ∃ (x3_2 : List ByteArray) (x4_2 : Int), v4 = .int .i64 x4_2 ∧ Aside0 (impl_StoreOk.l0 kq x3_2 x4_2 l0_0 a0_1 a0_2 l0_3 a0_4 = some r) ∧ Aside0 (kq ≤ kj1) ∧ Aside0 (Kd.R Kd.string 9 w' w.heap.size (fun _ => True) v3 x3_2) ∧ Aside0 (w'.heap[gb1]? = some (.cells #[(.slice A0_0 l0_0.length c0_0), .int .i64 a0_1, .string a0_2, (.slice A0_3 l0_3.length c0_3), .int .i64 a0_4] 39 (0, 0))) ∧ Aside0 (Below w.heap.size w w'))
    case atStart => exact ⟨(([] : List ByteArray)), (0), e1_, H', ⟨Nat.le_refl _⟩, ⟨nil_⟩, ⟨kb_ BK1.out⟩, ⟨bw_ HB⟩⟩
    case round =>
     clear H'
     try clear c1
     try clear p2
     try clear c5
     try clear c6
     try clear c6b0
     try clear c6b1
     try clear hz11
     try clear hz13
     try clear hz14
     try clear hz7
     try clear hz9
     obtain ⟨x3_2, x4_2, rfl, HA, HK2, HO_3, BK1, HB⟩ := hrel
     cases gk with
     | zero => exact absurd HA.out (by simp [impl_StoreOk.l0])
     | succ k2 =>
      have H := HA.out
      clear HA
      simp only [impl_StoreOk.l0] at H
      replace H := itd_ H; obtain ⟨c17b0, H⟩ | ⟨c17b0, H⟩ := H
      ·replace H := bi_ H; obtain ⟨⟨t5, t6, t7, t10, t11⟩, A18, H⟩ := H
       dsimp only at H
       replace H := ip_ H; obtain ⟨c19, H⟩ := H
       have LMc19 := am_ c19
       clear c19
       obtain ⟨y13, Ny13, H⟩ := sb_ (x3_2 ++ t7) H
       replace H := itb_ H; obtain ⟨rfl, H⟩ | ⟨rfl, H⟩ := H
       ·replace H := bi_ H; obtain ⟨⟨t16, t17⟩, A21, H⟩ := H
        dsimp only at H
        replace H := it_ H; obtain ⟨c22, H⟩ | ⟨c22, H⟩ := H
        ·have c22b0 : (!(t5 == t16) || (!(t6.toList == t17.toList))) = true := c22
         clear c22
         obtain rfl := Option.some.inj H
         have hz23 := cz5_ BK1
         try go_wp2_with (first | ((with_reducible refine gq_ 51 37 ?_); refine gc_ 37 Try.func51 (impl_GetCommit.calls k2 _ _ l0_3 x4_2 t5 t6 t7 t10 true _ (cb_ HR0_3 HB) HC0_3.out A18.out) ?_; rintro e w24 ⟨v8, rfl, ho0, hb⟩; refine ⟨_, rfl, ?_⟩; have HO9 := am_ (Kd.R_lower (Kd.R_new' ho0 (lt_ HO_3)) (sz_ HB)); replace HO_3 := re_ HO_3 ho0 hb; replace BK1 := kl_ BK1 hb; replace HB := ss_ HB hb; clear hb ho0) | ((with_reducible refine gd_ 5 ?_); (try (refine gate_guard (by rfl) ?_; dsimp only)); refine x25_ 5 ?_; intro gb12 hg w25 hbox hb; replace HO_3 := rb_ HO_3 hb; replace HO9 := rb_ HO9 hb; have BK12 := am_ hbox; have GW12 := gg_ hg HB; have GE12 := GW12; replace HB := ss_ HB hb; have NB1_12 := nla_ hg BK1; have NB12_1 := nga_ hg BK1; replace BK1 := kl_ BK1 hb; clear hb hbox hg; have hnb26 := NB12_1.out; have hnc26 := NB1_12.out; have hz27 := cz2_ BK12; obtain ⟨Ao29, co29, eo29⟩ := Kd.R_slice HO9.out; subst eo29) | ((with_reducible refine gate_builtin (b := .append) (xs := #[.tmp 42, .tmp 43]) rfl ?_); (try (refine gate_guard (by rfl) ?_; dsimp only)); at_builtin; refine Kd.R_append_rows Kd.string (w0 := w) w.heap.size rfl (.tmp 42) (.tmp 43) 26 9 (.string ⟨#[]⟩) 16 rfl Try.underlying26 info9 rfl (by decide) (by omega) u3 x3_2 t7 _ _ _ (fun k_ => some k_ ≠ (.slice Ao29 t7.length co29 : Value).ownBlock) (fun _ => False) rfl rfl ?aO ?aR (fun _ _ h => h) (fun _ h => h.elim) ?aF ?aB ?aS ?aL ?_; (case aR => exact chf_ HO9 BK12); (case aB => exact (bw_ HB)); (case aF => exact (fun k_ hk => Kd.fresh' (lf_ HO9 BK12) k_ hk)); (case aO => exact (kr_ (Kd.R_mono (Kd.R_far (p := ⟨gb12, 1, none⟩) (Kd.R_far (p := ⟨gb12, 0, none⟩) (Kd.R_types HO_3.out BK12.out (by decide)) (fun _ hk => hk.2) (.int .i64 t5)) (fun _ hk => hk.2) (.string t6)) (fun _ hk => hk.1.2)))); (case aS => exact (sz_ HB)); (case aL => have := LMc19.out; omega); intro v14 w28 ho hb hg hat; rw [← Ny13.out] at ho; replace BK1 := kgp_ BK1 HO_3 hg; replace HO9 := am_ (Kd.R_after (ok := (fun _ => True)) (kr_ (Kd.R_mono (Kd.R_far (p := ⟨gb12, 1, none⟩) (Kd.R_far (p := ⟨gb12, 0, none⟩) (Kd.R_types HO9.out BK12.out (by decide)) (fun _ hk => hk.2) (.int .i64 t5)) (fun _ hk => hk.2) (.string t6)) (fun _ hk => ⟨trivial, hk.1.2⟩))) hg hat); replace BK12 := kgp_ BK12 HO_3 hg; replace HB := am_ hb; have HO15 := am_ ho; clear HO_3; clear ho hb hg hat))
         replace HO9 := am_ (Kd.R_drew HO9.out)
         replace HO15 := am_ (Kd.R_drew HO15.out)
         replace BK1 := bd_ BK1
         replace BK12 := bd_ BK12
         replace HB := hd_ HB
         obtain ⟨Ao31, co31, eo31⟩ := Kd.R_slice HO15.out
         (first | subst eo31 | (injection eo31 with f1_ f2_ f3_; have f4_ := f1_.symm; have f5_ := f3_.symm; clear f1_ f2_ f3_; subst f4_; subst f5_))
         refine sw_ 8 (fun w' => w'.cell? ⟨gb12, 0, none⟩ = some (.int .i64 t5) ∧ w'.cell? ⟨gb12, 1, none⟩ = some (.string t6)) [] impl_StoreOk.tab8 impl_StoreOk.bits8 ⟨bc0_ BK12.out, bc1_ BK12.out⟩ (fun hHeld HT_ HW_ => ?_)
         generalize w28.drew = w30 at HO9 HO15 BK1 BK12 HB hHeld ⊢
         refine pt_ 0 45 1 ?_
         refine pt_ 1 46 3 ?_
         refine pt_ 2 47 7 ?_
         refine pt_ 4 49 23 ?_
         refine tt_ 3 48 31 ?_
         refine oz_ 5 50 8 63 (fun K hK => ?_)
         refine gf_ Try.func53 (impl_HeadOf.calls k2 _ _ y13 t16 t17 _ (ch_ HO15) (cl_ HO15) A21.out) ?_
         rintro e w32 ⟨rfl, hb⟩
         refine ⟨_, rfl, ?_⟩
         replace HO9 := rb_ HO9 hb
         replace HO15 := rb_ HO15 hb
         replace BK1 := kl_ BK1 hb
         replace BK12 := kl_ BK12 hb
         replace HB := ss_ HB hb
         clear hb
         refine hK.out _ _ ⟨bc0_ BK12.out, bc1_ BK12.out⟩ (fun hHeld => ?_)
         clear hK K
         refine no_ 50 ?_
         refine pt_ 6 51 127 ?_
         refine pt_ 7 52 255 ?_
         refine dn_ ?_
         try go_wp2
         go_ret
         exact ⟨e2_, bw_ HB⟩
        ·have c22b0 : (!(t5 == t16) || (!(t6.toList == t17.toList))) = false := by simpa using c22
         clear c22
         have H' := am_ H
         clear H
         have hz33 := cz5_ BK1
         try go_wp2_with (first | ((with_reducible refine gq_ 51 37 ?_); refine gc_ 37 Try.func51 (impl_GetCommit.calls k2 _ _ l0_3 x4_2 t5 t6 t7 t10 true _ (cb_ HR0_3 HB) HC0_3.out A18.out) ?_; rintro e w34 ⟨v8, rfl, ho0, hb⟩; refine ⟨_, rfl, ?_⟩; have HO9 := am_ (Kd.R_lower (Kd.R_new' ho0 (lt_ HO_3)) (sz_ HB)); replace HO_3 := re_ HO_3 ho0 hb; replace BK1 := kl_ BK1 hb; replace HB := ss_ HB hb; clear hb ho0) | ((with_reducible refine gd_ 5 ?_); (try (refine gate_guard (by rfl) ?_; dsimp only)); refine x25_ 5 ?_; intro gb12 hg w35 hbox hb; replace HO_3 := rb_ HO_3 hb; replace HO9 := rb_ HO9 hb; have BK12 := am_ hbox; have GW12 := gg_ hg HB; have GE12 := GW12; replace HB := ss_ HB hb; have NB1_12 := nla_ hg BK1; have NB12_1 := nga_ hg BK1; replace BK1 := kl_ BK1 hb; clear hb hbox hg; have hnb36 := NB12_1.out; have hnc36 := NB1_12.out; have hz37 := cz2_ BK12; obtain ⟨Ao39, co39, eo39⟩ := Kd.R_slice HO9.out; subst eo39) | ((with_reducible refine gate_builtin (b := .append) (xs := #[.tmp 42, .tmp 43]) rfl ?_); (try (refine gate_guard (by rfl) ?_; dsimp only)); at_builtin; refine Kd.R_append_rows Kd.string (w0 := w) w.heap.size rfl (.tmp 42) (.tmp 43) 26 9 (.string ⟨#[]⟩) 16 rfl Try.underlying26 info9 rfl (by decide) (by omega) u3 x3_2 t7 _ _ _ (fun k_ => some k_ ≠ (.slice Ao39 t7.length co39 : Value).ownBlock) (fun _ => False) rfl rfl ?aO ?aR (fun _ _ h => h) (fun _ h => h.elim) ?aF ?aB ?aS ?aL ?_; (case aR => exact chf_ HO9 BK12); (case aB => exact (bw_ HB)); (case aF => exact (fun k_ hk => Kd.fresh' (lf_ HO9 BK12) k_ hk)); (case aO => exact (kr_ (Kd.R_mono (Kd.R_far (p := ⟨gb12, 1, none⟩) (Kd.R_far (p := ⟨gb12, 0, none⟩) (Kd.R_types HO_3.out BK12.out (by decide)) (fun _ hk => hk.2) (.int .i64 t5)) (fun _ hk => hk.2) (.string t6)) (fun _ hk => hk.1.2)))); (case aS => exact (sz_ HB)); (case aL => have := LMc19.out; omega); intro v14 w38 ho hb hg hat; rw [← Ny13.out] at ho; replace BK1 := kgp_ BK1 HO_3 hg; replace HO9 := am_ (Kd.R_after (ok := (fun _ => True)) (kr_ (Kd.R_mono (Kd.R_far (p := ⟨gb12, 1, none⟩) (Kd.R_far (p := ⟨gb12, 0, none⟩) (Kd.R_types HO9.out BK12.out (by decide)) (fun _ hk => hk.2) (.int .i64 t5)) (fun _ hk => hk.2) (.string t6)) (fun _ hk => ⟨trivial, hk.1.2⟩))) hg hat); replace BK12 := kgp_ BK12 HO_3 hg; replace HB := am_ hb; have HO15 := am_ ho; clear HO_3; clear ho hb hg hat))
         replace HO9 := am_ (Kd.R_drew HO9.out)
         replace HO15 := am_ (Kd.R_drew HO15.out)
         replace BK1 := bd_ BK1
         replace BK12 := bd_ BK12
         replace HB := hd_ HB
         obtain ⟨Ao41, co41, eo41⟩ := Kd.R_slice HO15.out
         (first | subst eo41 | (injection eo41 with f1_ f2_ f3_; have f4_ := f1_.symm; have f5_ := f3_.symm; clear f1_ f2_ f3_; subst f4_; subst f5_))
         refine sw_ 8 (fun w' => w'.cell? ⟨gb12, 0, none⟩ = some (.int .i64 t5) ∧ w'.cell? ⟨gb12, 1, none⟩ = some (.string t6)) [] impl_StoreOk.tab8 impl_StoreOk.bits8 ⟨bc0_ BK12.out, bc1_ BK12.out⟩ (fun hHeld HT_ HW_ => ?_)
         generalize w38.drew = w40 at HO9 HO15 BK1 BK12 HB hHeld ⊢
         refine pt_ 0 45 1 ?_
         refine pt_ 1 46 3 ?_
         refine pt_ 2 47 7 ?_
         refine pt_ 4 49 23 ?_
         refine tt_ 3 48 31 ?_
         refine oz_ 5 50 8 63 (fun K hK => ?_)
         refine gf_ Try.func53 (impl_HeadOf.calls k2 _ _ y13 t16 t17 _ (ch_ HO15) (cl_ HO15) A21.out) ?_
         rintro e w42 ⟨rfl, hb⟩
         refine ⟨_, rfl, ?_⟩
         replace HO9 := rb_ HO9 hb
         replace HO15 := rb_ HO15 hb
         replace BK1 := kl_ BK1 hb
         replace BK12 := kl_ BK12 hb
         replace HB := ss_ HB hb
         clear hb
         refine hK.out _ _ ⟨bc0_ BK12.out, bc1_ BK12.out⟩ (fun hHeld => ?_)
         clear hK K
         refine no_ 50 ?_
         refine pt_ 6 51 127 ?_
         refine pt_ 7 52 255 ?_
         refine dn_ ?_
         try go_wp2
         go_roundg k2
         case measure => have := HJ1.out; have := HK2.out; omega
         case rel => exact ⟨(y13), (t10), e1_, H', ⟨by have := HJ1.out; have := HK2.out; omega⟩, ⟨km_ HO15⟩, ⟨kb_ BK1.out⟩, ⟨bw_ HB⟩⟩
       ·obtain rfl := Option.some.inj H
        have hz43 := cz5_ BK1
        try go_wp2_with (first | ((with_reducible refine gq_ 51 37 ?_); refine gc_ 37 Try.func51 (impl_GetCommit.calls k2 _ _ l0_3 x4_2 t5 t6 t7 t10 false _ (cb_ HR0_3 HB) HC0_3.out A18.out) ?_; rintro e w44 ⟨v8, rfl, ho0, hb⟩; refine ⟨_, rfl, ?_⟩; have HO9 := am_ (Kd.R_lower (Kd.R_new' ho0 (lt_ HO_3)) (sz_ HB)); replace HO_3 := re_ HO_3 ho0 hb; replace BK1 := kl_ BK1 hb; replace HB := ss_ HB hb; clear hb ho0) | ((with_reducible refine gd_ 5 ?_); (try (refine gate_guard (by rfl) ?_; dsimp only)); refine x25_ 5 ?_; intro gb12 hg w45 hbox hb; replace HO_3 := rb_ HO_3 hb; replace HO9 := rb_ HO9 hb; have BK12 := am_ hbox; have GW12 := gg_ hg HB; have GE12 := GW12; replace HB := ss_ HB hb; have NB1_12 := nla_ hg BK1; have NB12_1 := nga_ hg BK1; replace BK1 := kl_ BK1 hb; clear hb hbox hg; have hnb46 := NB12_1.out; have hnc46 := NB1_12.out; have hz47 := cz2_ BK12; obtain ⟨Ao49, co49, eo49⟩ := Kd.R_slice HO9.out; subst eo49) | ((with_reducible refine gate_builtin (b := .append) (xs := #[.tmp 42, .tmp 43]) rfl ?_); (try (refine gate_guard (by rfl) ?_; dsimp only)); at_builtin; refine Kd.R_append_rows Kd.string (w0 := w) w.heap.size rfl (.tmp 42) (.tmp 43) 26 9 (.string ⟨#[]⟩) 16 rfl Try.underlying26 info9 rfl (by decide) (by omega) u3 x3_2 t7 _ _ _ (fun k_ => some k_ ≠ (.slice Ao49 t7.length co49 : Value).ownBlock) (fun _ => False) rfl rfl ?aO ?aR (fun _ _ h => h) (fun _ h => h.elim) ?aF ?aB ?aS ?aL ?_; (case aR => exact chf_ HO9 BK12); (case aB => exact (bw_ HB)); (case aF => exact (fun k_ hk => Kd.fresh' (lf_ HO9 BK12) k_ hk)); (case aO => exact (kr_ (Kd.R_mono (Kd.R_far (p := ⟨gb12, 1, none⟩) (Kd.R_far (p := ⟨gb12, 0, none⟩) (Kd.R_types HO_3.out BK12.out (by decide)) (fun _ hk => hk.2) (.int .i64 t5)) (fun _ hk => hk.2) (.string t6)) (fun _ hk => hk.1.2)))); (case aS => exact (sz_ HB)); (case aL => have := LMc19.out; omega); intro v14 w48 ho hb hg hat; rw [← Ny13.out] at ho; replace BK1 := kgp_ BK1 HO_3 hg; replace HO9 := am_ (Kd.R_after (ok := (fun _ => True)) (kr_ (Kd.R_mono (Kd.R_far (p := ⟨gb12, 1, none⟩) (Kd.R_far (p := ⟨gb12, 0, none⟩) (Kd.R_types HO9.out BK12.out (by decide)) (fun _ hk => hk.2) (.int .i64 t5)) (fun _ hk => hk.2) (.string t6)) (fun _ hk => ⟨trivial, hk.1.2⟩))) hg hat); replace BK12 := kgp_ BK12 HO_3 hg; replace HB := am_ hb; have HO15 := am_ ho; clear HO_3; clear ho hb hg hat))
        replace HO9 := am_ (Kd.R_drew HO9.out)
        replace HO15 := am_ (Kd.R_drew HO15.out)
        replace BK1 := bd_ BK1
        replace BK12 := bd_ BK12
        replace HB := hd_ HB
        refine sw_ 8 (fun w' => True) [] impl_StoreOk.tab8 impl_StoreOk.bits8 trivial (fun hHeld HT_ HW_ => ?_)
        generalize w48.drew = w50 at HO9 HO15 BK1 BK12 HB hHeld ⊢
        refine pt_ 0 45 1 ?_
        refine pt_ 1 46 3 ?_
        refine pt_ 2 47 7 ?_
        refine ut_ 3 48 15 ?_
        refine ut_ 4 49 31 ?_
        refine ut_ 5 50 63 ?_
        refine ut_ 6 51 127 ?_
        refine pt_ 7 52 255 ?_
        refine dn_ ?_
        try go_wp2
        go_ret
        exact ⟨e2_, bw_ HB⟩
      ·replace H := bi_ H; obtain ⟨t4, A51, H⟩ := H
       obtain rfl := Option.some.inj H
       have hz52 := cz5_ BK1
       obtain ⟨Ao53, co53, eo53⟩ := Kd.R_slice HO_3.out
       subst eo53
       go_wp2_with (first | ((with_reducible refine gq_ 54 58 ?_); refine gc_ 58 Try.func54 (slices_Equal_string_string.calls k2 _ _ x3_2 _ _ l0_0 t4 _ (ch_ HO_3) (cl_ HO_3) (cb_ HR0_0 HB) HC0_0.out A51.out) ?_; rintro e w' ⟨rfl, ⟨nd, rfl⟩⟩; refine ⟨_, rfl, ?_⟩))
       go_ret
       exact ⟨e2_, bw_ HB⟩
end
section
attribute [local go_sem high] eqA25
def impl_extend.j0 : Nat → List (S25) → List ByteArray → Bool → List ByteArray → Int → ByteArray → Int → ByteArray → Option (List ByteArray × Int × ByteArray × Int)
 | 0, _, _, _, _, _, _, _, _ => none
 | k + 1, x1, x3, x11, x2000, x2001, x2002, x3000, x3001 => if x11 = true then ((impl_copyLog.f x2000 x2001 x2002).bind fun bt5 => (some (bt5.1, bt5.2.1, bt5.2.2, 1))) else ((impl_IsSigned.f k x1 x3000 x3001).bind fun t10 => (if t10 = true then (if (x3.length : Int) = 0 then ((impl_copyLog.f x2000 x2001 x2002).bind fun bt11 => (some (bt11.1, bt11.2.1, bt11.2.2, 3))) else ((slices_Concat_string_string.f k (([x2000, x3] : List (List ByteArray)))).bind fun t24 => ((impl_HeadOf.f k t24).bind fun bt27 => (if (!(bt27.1 == x3000) || (!(bt27.2.toList == x3001.toList))) = true then ((impl_copyLog.f x2000 x2001 x2002).bind fun bt29 => (some (bt29.1, bt29.2.1, bt29.2.2, 4))) else (some (t24, x3000, x3001, 0)))))) else ((impl_copyLog.f x2000 x2001 x2002).bind fun bt16 => (some (bt16.1, bt16.2.1, bt16.2.2, 2)))))
def impl_extend.f (k : Nat) (l0_0 : List ByteArray) (a0_1 : Int) (a0_2 : ByteArray) (l1 : List (S25)) (a2_0 : Int) (a2_1 : ByteArray) (l3 : List ByteArray) : Option (List ByteArray × Int × ByteArray × Int) := (impl_HeadOk.f a2_0 a2_1).bind fun t4 => (if t4 = true then (impl_extend.j0 k l1 l3 (a2_0 != (wrap64 ((l0_0.length : Int) + (l3.length : Int)))) l0_0 a0_1 a0_2 a2_0 a2_1) else (impl_extend.j0 k l1 l3 true l0_0 a0_1 a0_2 a2_0 a2_1))
theorem impl_extend.calls (k : Nat) (P0_0_ : Nat → Prop) (A0_0 : Option Addr) (c0_0 : Nat) (l0_0 : List ByteArray) (a0_1 : Int) (a0_2 : ByteArray) (A1 : Option Addr) (c1 : Nat) (l1 : List (S25)) (a2_0 : Int) (a2_1 : ByteArray) (P3_ : Nat → Prop) (A3 : Option Addr) (c3 : Nat) (l3 : List ByteArray) (r1 : List ByteArray) (r2 : Int) (r3 : ByteArray) (r4 : Int) (w : World) (hs0_0 : Kd.V Kd.string 9 w w.heap.size (fun k_ => P0_0_ k_) (.slice A0_0 l0_0.length c0_0) l0_0) (hr1 : Kd.C k25 w A1 l1.length l1) (hc1 : l1.length ≤ c1) (hs3 : Kd.V Kd.string 9 w w.heap.size (fun k_ => P3_ k_) (.slice A3 l3.length c3) l3) (h : impl_extend.f k l0_0 a0_1 a0_2 l1 a2_0 a2_1 l3 = some (r1, r2, r3, r4)) :
  Calls Try.prog 72 #[.agg #[.slice A0_0 l0_0.length c0_0, .int .i64 a0_1, .string a0_2], .slice A1 l1.length c1, .agg #[.int .i64 a2_0, .string a2_1], .slice A3 l3.length c3] w fun e w' => ∃ v0_ : Value, e = .returned (.tuple #[.agg #[v0_, .int .i64 r2, .string r3], .int .i64 r4]) ∧ Kd.R Kd.string 9 w' w.heap.size (fun k_ => (w.heap.size ≤ k_)) v0_ r1 ∧ Below w.heap.size w w' := by
 have hu37 := Try.underlying37
 have hu25 := Try.underlying25
 have HO0_0 := am_ (show Kd.V Kd.string 9 w w.heap.size (fun k_ => ((P0_0_ k_ ∨ P3_ k_) ∨ w.heap.size ≤ k_)) (.slice A0_0 l0_0.length c0_0) l0_0 from Kd.V_mono hs0_0 (fun k_ hk => .inl (.inl hk)))
 have HR1 := am_ hr1
 have HC1 := am_ hc1
 clear hr1 hc1
 have HO3 := am_ (show Kd.V Kd.string 9 w w.heap.size (fun k_ => ((P0_0_ k_ ∨ P3_ k_) ∨ w.heap.size ≤ k_)) (.slice A3 l3.length c3) l3 from Kd.V_mono hs3 (fun k_ hk => .inl (.inr hk)))
 have HB := h0_ w
 have H : ((impl_HeadOk.f a2_0 a2_1).bind fun t4 => (if t4 = true then (impl_extend.j0 k l1 l3 (a2_0 != (wrap64 ((l0_0.length : Int) + (l3.length : Int)))) l0_0 a0_1 a0_2 a2_0 a2_1) else (impl_extend.j0 k l1 l3 true l0_0 a0_1 a0_2 a2_0 a2_1))) = some (r1, r2, r3, r4) := h
 clear h
 have HC5 := am_ H
 clear H
 go_enter Try.func72, Try.ntmps72
 go_upto_region 1 with (first | ((with_reducible refine gd_ 4 ?_); (try (refine gate_guard (by rfl) ?_; dsimp only)); refine bx_ 4 37 #[.slice A0_0 l0_0.length c0_0, .int .i64 a0_1, .string a0_2] ?_; intro gb1 hg w6 hbox hb; replace HO0_0 := am_ (Kd.V_below (Kd.V_elderB (kv_ HO0_0.out) gb1 (Nat.le_of_eq hg.symm)) hb); replace HO3 := am_ (Kd.V_below (Kd.V_elderB (kv_ HO3.out) gb1 (Nat.le_of_eq hg.symm)) hb); have BK1 := am_ hbox; have GW1 := gg_ hg HB; have GE1 := GW1; replace HB := ss_ HB hb; clear hb hbox hg) | ((with_reducible refine gd_ 6 ?_); (try (refine gate_guard (by rfl) ?_; dsimp only)); refine bx_ 6 25 #[.int .i64 a2_0, .string a2_1] ?_; intro gb2 hg w7 hbox hb; replace HO0_0 := am_ (Kd.V_below (Kd.V_elderB (kv_ HO0_0.out) gb2 (Nat.le_of_eq hg.symm)) hb); replace HO3 := am_ (Kd.V_below (Kd.V_elderB (kv_ HO3.out) gb2 (Nat.le_of_eq hg.symm)) hb); have BK2 := am_ hbox; have GW2 := gg_ hg HB; have GE2 := GW2; replace HB := ss_ HB hb; have NB1_2 := nla_ hg BK1; have NB2_1 := nga_ hg BK1; replace BK1 := kl_ BK1 hb; clear hb hbox hg) | ((with_reducible refine gd_ 8 ?_); (try (refine gate_guard (by rfl) ?_; dsimp only)); refine x37_ 8 ?_; intro gb3 hg w8 hbox hb; replace HO0_0 := am_ (Kd.V_below (Kd.V_elderB (kv_ HO0_0.out) gb3 (Nat.le_of_eq hg.symm)) hb); replace HO3 := am_ (Kd.V_below (Kd.V_elderB (kv_ HO3.out) gb3 (Nat.le_of_eq hg.symm)) hb); have BK3 := am_ hbox; have GW3 := gg_ hg HB; have GE3 := GW3; replace HB := ss_ HB hb; have NB1_3 := nla_ hg BK1; have NB3_1 := nga_ hg BK1; replace BK1 := kl_ BK1 hb; have NB2_3 := nla_ hg BK2; have NB3_2 := nga_ hg BK2; replace BK2 := kl_ BK2 hb; clear hb hbox hg))
 (try simp only [Act.put, List.setIfInBounds_toArray, List.set_cons_zero, List.set_cons_succ])
 go_cut [11] (fun v11 wc => ∃ (kq : Nat) (x11_4 : Bool), v11 = .bool x11_4 ∧ Aside0 (impl_extend.j0 kq l1 l3 x11_4 l0_0 a0_1 a0_2 a2_0 a2_1 = some (r1, r2, r3, r4)) ∧ Aside0 (kq ≤ k) ∧ Aside0 (Kd.V Kd.string 9 wc w.heap.size (fun k_ => ((P0_0_ k_ ∨ P3_ k_) ∨ w.heap.size ≤ k_) ∧ k_ ≠ gb1 ∧ k_ ≠ gb2 ∧ k_ ≠ gb3) (.slice A3 l3.length c3) l3) ∧ Aside0 (Kd.V Kd.string 9 wc w.heap.size (fun k_ => ((P0_0_ k_ ∨ P3_ k_) ∨ w.heap.size ≤ k_) ∧ k_ ≠ gb1 ∧ k_ ≠ gb2 ∧ k_ ≠ gb3) (.slice A0_0 l0_0.length c0_0) l0_0) ∧ Aside0 (wc.heap[gb1]? = some (.cells #[(.slice A0_0 l0_0.length c0_0), .int .i64 a0_1, .string a0_2] 37 (0, 0))) ∧ Aside0 (wc.heap[gb2]? = some (.cells #[.int .i64 a2_0, .string a2_1] 25 (0, 0))) ∧ Aside0 (wc.heap[gb3]? = some (.cells #[(.slice none 0 0), .int .i64 0, .string (⟨#[]⟩ : ByteArray)] 37 (0, 0))) ∧ Aside0 (Below w.heap.size w wc))
 case first =>
  have H := HC5.out
  clear HC5
  replace H := bi_ H; obtain ⟨t4, A9, H⟩ := H
  replace H := itb_ H; obtain ⟨rfl, H⟩ | ⟨rfl, H⟩ := H
  ·have H' := am_ H
   clear H
   have hnb11 := NB2_1.out
   have hnc11 := NB1_2.out
   have hnb12 := NB2_3.out
   have hnc12 := NB3_2.out
   have hz13 := cz2_ BK2
   go_wp2_with (first | ((with_reducible refine gq_ 39 13 ?_); refine gc_ 13 Try.func39 (impl_HeadOk.calls a2_0 a2_1 true _ A9.out) ?_; rintro e w14 ⟨rfl, hb⟩; refine ⟨_, rfl, ?_⟩; replace HO0_0 := am_ (Kd.V_below (kv_ HO0_0.out) hb); replace HO3 := am_ (Kd.V_below (kv_ HO3.out) hb); replace BK1 := kl_ BK1 hb; replace BK2 := kl_ BK2 hb; replace BK3 := kl_ BK3 hb; replace HB := ss_ HB hb; clear hb; have hz15 := cz2_ BK2; have hnb16 := NB1_3.out; have hnc16 := NB3_1.out; have hz17 := cz3_ BK1))
   go_meet
   case rel => exact ⟨_, ((a2_0 != (wrap64 ((l0_0.length : Int) + (l3.length : Int))))), e1_, H', ⟨le_⟩, ⟨kv_ (Kd.V_mono HO3.out (fun _ hk => ⟨hk.1.1.1, ⟨hk.1.1.2, ⟨hk.1.2, hk.2⟩⟩⟩))⟩, ⟨kv_ (Kd.V_mono HO0_0.out (fun _ hk => ⟨hk.1.1.1, ⟨hk.1.1.2, ⟨hk.1.2, hk.2⟩⟩⟩))⟩, ⟨kb_ BK1.out⟩, ⟨kb_ BK2.out⟩, ⟨kb_ BK3.out⟩, ⟨bw_ HB⟩⟩
  ·have H' := am_ H
   clear H
   have hnb18 := NB2_1.out
   have hnc18 := NB1_2.out
   have hnb19 := NB2_3.out
   have hnc19 := NB3_2.out
   have hz20 := cz2_ BK2
   go_wp2_with (first | ((with_reducible refine gq_ 39 13 ?_); refine gc_ 13 Try.func39 (impl_HeadOk.calls a2_0 a2_1 false _ A9.out) ?_; rintro e w21 ⟨rfl, hb⟩; refine ⟨_, rfl, ?_⟩; replace HO0_0 := am_ (Kd.V_below (kv_ HO0_0.out) hb); replace HO3 := am_ (Kd.V_below (kv_ HO3.out) hb); replace BK1 := kl_ BK1 hb; replace BK2 := kl_ BK2 hb; replace BK3 := kl_ BK3 hb; replace HB := ss_ HB hb; clear hb))
   go_meet
   case rel => exact ⟨_, (true), e1_, H', ⟨le_⟩, ⟨kv_ (Kd.V_mono HO3.out (fun _ hk => ⟨hk.1.1.1, ⟨hk.1.1.2, ⟨hk.1.2, hk.2⟩⟩⟩))⟩, ⟨kv_ (Kd.V_mono HO0_0.out (fun _ hk => ⟨hk.1.1.1, ⟨hk.1.1.2, ⟨hk.1.2, hk.2⟩⟩⟩))⟩, ⟨kb_ BK1.out⟩, ⟨kb_ BK2.out⟩, ⟨kb_ BK3.out⟩, ⟨bw_ HB⟩⟩
 case rest =>
  clear HC5
  try clear c3
  obtain ⟨kq, x11_4, rfl, HA, HJ4, HO_3, HO_2000, BK1, BK2, BK3, HB⟩ := hcut
  cases kq with
  | zero => exact absurd HA.out (by simp [impl_extend.j0])
  | succ kj4 =>
   have H := HA.out
   clear HA
   simp only [impl_extend.j0] at H
   replace H := itb_ H; obtain ⟨rfl, H⟩ | ⟨rfl, H⟩ := H
   ·replace H := bi_ H; obtain ⟨⟨t5, t8, t9⟩, A23, H⟩ := H
    dsimp only at H
    replace H := so4_ H; obtain ⟨rfl, rfl, rfl, rfl⟩ := H
    have hnb24 := NB1_2.out
    have hnc24 := NB2_1.out
    have hnb25 := NB1_3.out
    have hnc25 := NB3_1.out
    have hz26 := cz3_ BK1
    go_wp2_with (first | ((with_reducible refine gq_ 69 27 ?_); refine gc_ 27 Try.func69 (impl_copyLog.calls _ _ l0_0 a0_1 a0_2 t5 t8 t9 _ (cr_ (Kd.V_reads' HO_2000.out).2.2) ((Kd.V_reads' HO_2000.out).2.1) A23.out) ?_; rintro e w27 ⟨v6, rfl, ho0, hb⟩; refine ⟨_, rfl, ?_⟩; replace HO_3 := am_ (Kd.V_elder' (kv_ HO_3.out) (Kd.R_base ho0) hb); replace HO_2000 := am_ (Kd.V_elder' (kv_ HO_2000.out) (Kd.R_base ho0) hb); have HO7 := am_ (Kd.R_lower (Kd.R_newM (M := fun k_ => (w.heap.size ≤ k_)) ho0 (sz_ HB) (fun k_ h_ => h_)) (sz_ HB)); replace BK1 := kl_ BK1 hb; replace BK2 := kl_ BK2 hb; replace BK3 := kl_ BK3 hb; replace HB := ss_ HB hb; clear hb ho0; obtain ⟨Ao28, co28, eo28⟩ := Kd.R_slice HO7.out; subst eo28; have hnb29 := NB3_2.out; have hnc29 := NB2_3.out; have hz30 := cz3_ BK3))
    refine bodyPost_ret (results_ct rfl _ _ gb3 37 #[.slice Ao28 t5.length co28, .int .i64 t8, .string t9] (0, 0) _ rfl (by exact kq_ BK3) Try.underlying37 rfl (by kernel_rfl)) rfl ?_
    exact ⟨_, e2_, kfm_ HO7 BK3, bw_ HB⟩
   ·replace H := bi_ H; obtain ⟨t10, A31, H⟩ := H
    replace H := itb_ H; obtain ⟨rfl, H⟩ | ⟨rfl, H⟩ := H
    ·replace H := it_ H; obtain ⟨c33, H⟩ | ⟨c33, H⟩ := H
     ·have c33b0 : ((l3.length : Int) == 0) = true := beq_iff_eq.mpr c33
      have c33b1 : ((l3.length : Int) != 0) = false := bne_eq_false_iff_eq.mpr c33
      clear c33
      replace H := bi_ H; obtain ⟨⟨t11, t14, t15⟩, A34, H⟩ := H
      dsimp only at H
      replace H := so4_ H; obtain ⟨rfl, rfl, rfl, rfl⟩ := H
      have hnb35 := NB2_1.out
      have hnc35 := NB1_2.out
      have hnb36 := NB2_3.out
      have hnc36 := NB3_2.out
      have hz37 := cz2_ BK2
      go_wp2_with (first | ((with_reducible refine gq_ 90 31 ?_); refine gc_ 31 Try.func90 (impl_IsSigned.calls kj4 _ _ l1 a2_0 a2_1 true _ (cb_ HR1 HB) HC1.out A31.out) ?_; rintro e w38 ⟨rfl, hb⟩; refine ⟨_, rfl, ?_⟩; replace HO_3 := am_ (Kd.V_below (kv_ HO_3.out) hb); replace HO_2000 := am_ (Kd.V_below (kv_ HO_2000.out) hb); replace BK1 := kl_ BK1 hb; replace BK2 := kl_ BK2 hb; replace BK3 := kl_ BK3 hb; replace HB := ss_ HB hb; clear hb; have hnb39 := NB1_3.out; have hnc39 := NB3_1.out; have hz40 := cz3_ BK1) | ((with_reducible refine gq_ 69 40 ?_); refine gc_ 40 Try.func69 (impl_copyLog.calls _ _ l0_0 a0_1 a0_2 t11 t14 t15 _ (cr_ (Kd.V_reads' HO_2000.out).2.2) ((Kd.V_reads' HO_2000.out).2.1) A34.out) ?_; rintro e w41 ⟨v12, rfl, ho0, hb⟩; refine ⟨_, rfl, ?_⟩; replace HO_3 := am_ (Kd.V_elder' (kv_ HO_3.out) (Kd.R_base ho0) hb); replace HO_2000 := am_ (Kd.V_elder' (kv_ HO_2000.out) (Kd.R_base ho0) hb); have HO13 := am_ (Kd.R_lower (Kd.R_newM (M := fun k_ => (w.heap.size ≤ k_)) ho0 (sz_ HB) (fun k_ h_ => h_)) (sz_ HB)); replace BK1 := kl_ BK1 hb; replace BK2 := kl_ BK2 hb; replace BK3 := kl_ BK3 hb; replace HB := ss_ HB hb; clear hb ho0; obtain ⟨Ao42, co42, eo42⟩ := Kd.R_slice HO13.out; subst eo42; have hz43 := cz3_ BK3))
      refine bodyPost_ret (results_ct rfl _ _ gb3 37 #[.slice Ao42 t11.length co42, .int .i64 t14, .string t15] (0, 0) _ rfl (by exact kq_ BK3) Try.underlying37 rfl (by kernel_rfl)) rfl ?_
      exact ⟨_, e2_, kfm_ HO13 BK3, bw_ HB⟩
     ·have c33b0 : ((l3.length : Int) == 0) = false := beq_eq_false_iff_ne.mpr c33
      have c33b1 : ((l3.length : Int) != 0) = true := bne_iff_ne.mpr c33
      have c33b2 : ¬ (l3 = []) := fun h_ => c33 (by rw [h_]; rfl)
      obtain ⟨y21, hy21⟩ : ∃ y_ : List (List ByteArray), y_ = (([l0_0, l3] : List (List ByteArray))) := ⟨_, rfl⟩
      replace H : ((slices_Concat_string_string.f kj4 y21).bind fun t24 => ((impl_HeadOf.f kj4 t24).bind fun bt27 => (if (!(bt27.1 == a2_0) || (!(bt27.2.toList == a2_1.toList))) = true then ((impl_copyLog.f l0_0 a0_1 a0_2).bind fun bt29 => (some (bt29.1, bt29.2.1, bt29.2.2, 4))) else (some (t24, a2_0, a2_1, 0))))) = some (r1, r2, r3, r4) := yh_ hy21 H
      have Ny21 := am_ hy21
      clear hy21
      replace H := bi_ H; obtain ⟨t24, A44, H⟩ := H
      replace H := bi_ H; obtain ⟨⟨t27, t28⟩, A45, H⟩ := H
      dsimp only at H
      replace H := it_ H; obtain ⟨c46, H⟩ | ⟨c46, H⟩ := H
      ·have c46b0 : (!(t27 == a2_0) || (!(t28.toList == a2_1.toList))) = true := c46
       clear c46
       replace H := bi_ H; obtain ⟨⟨t29, t32, t33⟩, A47, H⟩ := H
       dsimp only at H
       replace H := so4_ H; obtain ⟨rfl, rfl, rfl, rfl⟩ := H
       have hnb48 := NB2_1.out
       have hnc48 := NB1_2.out
       have hnb49 := NB2_3.out
       have hnc49 := NB3_2.out
       have hz50 := cz2_ BK2
       try go_wp2_with (first | ((with_reducible refine gq_ 90 31 ?_); refine gc_ 31 Try.func90 (impl_IsSigned.calls kj4 _ _ l1 a2_0 a2_1 true _ (cb_ HR1 HB) HC1.out A31.out) ?_; rintro e w51 ⟨rfl, hb⟩; refine ⟨_, rfl, ?_⟩; replace HO_3 := am_ (Kd.V_below (kv_ HO_3.out) hb); replace HO_2000 := am_ (Kd.V_below (kv_ HO_2000.out) hb); replace BK1 := kl_ BK1 hb; replace BK2 := kl_ BK2 hb; replace BK3 := kl_ BK3 hb; replace HB := ss_ HB hb; clear hb; have hnb52 := NB1_3.out; have hnc52 := NB3_1.out; have hz53 := cz3_ BK1) | ((with_reducible refine gd_ 44 ?_); (try (refine gate_guard (by rfl) ?_; dsimp only)); refine Kd.N_lit (Kd.slice 9 Kd.string) _ 26 ?hg (N' := 44) ?hd (xs := ([l0_0, l3] : List (List ByteArray))) (inner := [.slice A0_0 l0_0.length c0_0, .slice A3 l3.length c3]) (ok := (fun k_ => ((P0_0_ k_ ∨ P3_ k_) ∨ w.heap.size ≤ k_) ∧ k_ ≠ gb1 ∧ k_ ≠ gb2 ∧ k_ ≠ gb3)) (okp := (fun k_ => ((P0_0_ k_ ∨ P3_ k_) ∨ w.heap.size ≤ k_) ∧ k_ ≠ gb1 ∧ k_ ≠ gb2 ∧ k_ ≠ gb3)) ?hr ?hp (fun _ hk => hk) ((show ∀ k_, w51.heap.size ≤ k_ → (fun k_ => ((P0_0_ k_ ∨ P3_ k_) ∨ w.heap.size ≤ k_) ∧ k_ ≠ gb1 ∧ k_ ≠ gb2 ∧ k_ ≠ gb3) k_ from fun k_ hk => ⟨(.inr (Nat.le_trans (sz_ HB) hk)), Kd.freshB (kb_ BK1.out) k_ hk, Kd.freshB (kb_ BK2.out) k_ hk, Kd.freshB (kb_ BK3.out) k_ hk⟩) _ (Nat.le_refl _)) (Below.refl _ _) (Nat.le_refl _) (by simp) ?_; (case hd => rfl); (case hg => rfl); (case hr => first | (go_simp; done) | (go_simp; rfl)); (case hp => exact (Reps.one (show Kd.FK (Kd.slice 9 Kd.string) _ _ l0_0 [.slice A0_0 l0_0.length c0_0] from (Kd.FK_slice_mk (Kd.V_reads' (Kd.V_mono (ok' := (fun k_ => ((P0_0_ k_ ∨ P3_ k_) ∨ w.heap.size ≤ k_) ∧ k_ ≠ gb1 ∧ k_ ≠ gb2 ∧ k_ ≠ gb3)) (HO_2000.out) (fun k_ hk => ⟨hk.1, ⟨hk.2.1, ⟨hk.2.2.1, hk.2.2.2⟩⟩⟩))).2.1 (Kd.V_F (Kd.V_mono (ok' := (fun k_ => ((P0_0_ k_ ∨ P3_ k_) ∨ w.heap.size ≤ k_) ∧ k_ ≠ gb1 ∧ k_ ≠ gb2 ∧ k_ ≠ gb3)) (HO_2000.out) (fun k_ hk => ⟨hk.1, ⟨hk.2.1, ⟨hk.2.2.1, hk.2.2.2⟩⟩⟩))))) (Reps.one (show Kd.FK (Kd.slice 9 Kd.string) _ _ l3 [.slice A3 l3.length c3] from (Kd.FK_slice_mk (Kd.V_reads' (Kd.V_mono (ok' := (fun k_ => ((P0_0_ k_ ∨ P3_ k_) ∨ w.heap.size ≤ k_) ∧ k_ ≠ gb1 ∧ k_ ≠ gb2 ∧ k_ ≠ gb3)) (HO_3.out) (fun k_ hk => ⟨hk.1, ⟨hk.2.1, ⟨hk.2.2.1, hk.2.2.2⟩⟩⟩))).2.1 (Kd.V_F (Kd.V_mono (ok' := (fun k_ => ((P0_0_ k_ ∨ P3_ k_) ∨ w.heap.size ≤ k_) ∧ k_ ≠ gb1 ∧ k_ ≠ gb2 ∧ k_ ≠ gb3)) (HO_3.out) (fun k_ hk => ⟨hk.1, ⟨hk.2.1, ⟨hk.2.2.1, hk.2.2.2⟩⟩⟩))))) (Reps.none _ _)))); intro v22 w54 ho55 hb hg_ hnew_; clear hg_ hnew_; (first | rw [← Ny21.out] at ho55 | (simp only [Int.reduceToNat] at ho55; rw [← Ny21.out] at ho55)); replace HO_3 := am_ (Kd.V_elder' (kv_ HO_3.out) (Kd.N_base ho55) hb); replace HO_2000 := am_ (Kd.V_elder' (kv_ HO_2000.out) (Kd.N_base ho55) hb); have HO23 := am_ (Kd.N_lower ho55 (sz_ HB)); replace BK1 := kl_ BK1 hb; replace BK2 := kl_ BK2 hb; replace BK3 := kl_ BK3 hb; replace HB := ss_ HB hb; clear hb ho55; obtain ⟨Ao56, co56, eo56⟩ := Kd.N_slice HO23.out; subst eo56) | ((with_reducible refine gq_ 91 45 ?_); refine gc_ 45 Try.func91 (slices_Concat_string_string.calls kj4 _ _ y21 t24 _ (cr_ (Kd.N_reads' HO23.out).2.2) ((Kd.N_reads' HO23.out).2.1) A44.out) ?_; rintro e w57 ⟨v25, rfl, ho0, hb⟩; refine ⟨_, rfl, ?_⟩; replace HO_3 := am_ (Kd.V_elder' (kv_ HO_3.out) (Kd.R_base ho0) hb); replace HO_2000 := am_ (Kd.V_elder' (kv_ HO_2000.out) (Kd.R_base ho0) hb); replace HO23 := am_ (Kd.N_elder' (by (with_reducible repeat (first | apply Kd.N_alloc | apply Kd.N_drewN | apply Kd.N_drew)); exact HO23.out) (Kd.R_base ho0) hb); have HO26 := am_ (Kd.R_lower (Kd.R_newM (M := fun k_ => (w.heap.size ≤ k_)) ho0 (sz_ HB) (fun k_ h_ => h_)) (sz_ HB)); replace BK1 := kl_ BK1 hb; replace BK2 := kl_ BK2 hb; replace BK3 := kl_ BK3 hb; replace HB := ss_ HB hb; clear hb ho0))
       replace HO_3 := am_ (Kd.V_drew HO_3.out)
       replace HO_2000 := am_ (Kd.V_drew HO_2000.out)
       replace HO23 := am_ (Kd.N_drew HO23.out)
       replace HO26 := am_ (Kd.R_drew HO26.out)
       replace BK1 := bd_ BK1
       replace BK2 := bd_ BK2
       replace BK3 := bd_ BK3
       replace HB := hd_ HB
       obtain ⟨Ao59, co59, eo59⟩ := Kd.R_slice HO26.out
       (first | subst eo59 | (injection eo59 with f1_ f2_ f3_; have f4_ := f1_.symm; have f5_ := f3_.symm; clear f1_ f2_ f3_; subst f4_; subst f5_))
       refine start_ (n := 4) (S := fun w' => w'.cell? ⟨gb2, 0, none⟩ = some (.int .i64 a2_0) ∧ w'.cell? ⟨gb2, 1, none⟩ = some (.string a2_1)) (ds := []) (lz_ 4 0) (by kernel_rfl) rfl rfl ⟨bc0_ BK2.out, bc1_ BK2.out⟩ (fun hHeld => ?_)
       generalize w57.drew = w58 at HO_3 HO_2000 HO23 HO26 BK1 BK2 BK3 HB hHeld ⊢
       refine pk_ 0 46 1 ?_
       refine tk_ 2 48 5 ?_
       refine one_ (i := 1) (N := some 47) (lz_ 4 7) rfl rfl (by kernel_rfl) (by decide) (fun K hK => ?_)
       refine gf_ Try.func53 (impl_HeadOf.calls kj4 _ _ t24 t27 t28 _ (ch_ HO26) (cl_ HO26) A45.out) ?_
       rintro e w60 ⟨rfl, hb⟩
       refine ⟨_, rfl, ?_⟩
       replace HO_3 := am_ (Kd.V_below (kv_ HO_3.out) hb)
       replace HO_2000 := am_ (Kd.V_below (kv_ HO_2000.out) hb)
       replace HO23 := am_ (Kd.N_below (by (with_reducible repeat (first | apply Kd.N_alloc | apply Kd.N_drewN | apply Kd.N_drew)); exact HO23.out) hb)
       replace HO26 := rb_ HO26 hb
       replace BK1 := kl_ BK1 hb
       replace BK2 := kl_ BK2 hb
       replace BK3 := kl_ BK3 hb
       replace HB := ss_ HB hb
       clear hb
       refine hK.out _ _ ⟨bc0_ BK2.out, bc1_ BK2.out⟩ (fun hHeld => ?_)
       clear hK K
       refine no_ 47 ?_
       refine pk_ 3 49 15 ?_
       refine done_ (by kernel_rfl) ?_
       have hz61 := cz3_ BK1
       try go_wp2_with (first | ((with_reducible refine gq_ 69 51 ?_); refine gc_ 51 Try.func69 (impl_copyLog.calls _ _ l0_0 a0_1 a0_2 t29 t32 t33 _ (cr_ (Kd.V_reads' HO_2000.out).2.2) ((Kd.V_reads' HO_2000.out).2.1) A47.out) ?_; rintro e w62 ⟨v30, rfl, ho0, hb⟩; refine ⟨_, rfl, ?_⟩; replace HO_3 := am_ (Kd.V_elder' (kv_ HO_3.out) (Kd.R_base ho0) hb); replace HO_2000 := am_ (Kd.V_elder' (kv_ HO_2000.out) (Kd.R_base ho0) hb); replace HO23 := am_ (Kd.N_elder' (by (with_reducible repeat (first | apply Kd.N_alloc | apply Kd.N_drewN | apply Kd.N_drew)); exact HO23.out) (Kd.R_base ho0) hb); have HO31 := am_ (Kd.R_lower (Kd.R_new' (Kd.R_newM (M := fun k_ => (w.heap.size ≤ k_)) ho0 (sz_ HB) (fun k_ h_ => h_)) (lt_ HO26)) (sz_ HB)); replace HO26 := re_ HO26 ho0 hb; replace BK1 := kl_ BK1 hb; replace BK2 := kl_ BK2 hb; replace BK3 := kl_ BK3 hb; replace HB := ss_ HB hb; clear hb ho0; obtain ⟨Ao63, co63, eo63⟩ := Kd.R_slice HO31.out; subst eo63; have hz64 := cz3_ BK3))
       refine bodyPost_ret (results_ct rfl _ _ gb3 37 #[.slice Ao63 t29.length co63, .int .i64 t32, .string t33] (0, 0) _ rfl (by exact kq_ BK3) Try.underlying37 rfl (by kernel_rfl)) rfl ?_
       exact ⟨_, e2_, kr_ (Kd.R_mono (Kd.R_far (p := ⟨gb3, 2, none⟩) (Kd.R_far (p := ⟨gb3, 1, none⟩) (Kd.R_far (p := ⟨gb3, 0, none⟩) (Kd.R_types HO31.out BK3.out (by decide)) (fun _ hk => hk.2) (.slice Ao63 t29.length co63)) (fun _ hk => hk.2) (.int .i64 t32)) (fun _ hk => hk.2) (.string t33)) (fun _ hk => hk.1.1.1)), bw_ HB⟩
      ·have c46b0 : (!(t27 == a2_0) || (!(t28.toList == a2_1.toList))) = false := by simpa using c46
       clear c46
       replace H := so4_ H; obtain ⟨rfl, rfl, rfl, rfl⟩ := H
       have hnb65 := NB2_1.out
       have hnc65 := NB1_2.out
       have hnb66 := NB2_3.out
       have hnc66 := NB3_2.out
       have hz67 := cz2_ BK2
       try go_wp2_with (first | ((with_reducible refine gq_ 90 31 ?_); refine gc_ 31 Try.func90 (impl_IsSigned.calls kj4 _ _ l1 a2_0 a2_1 true _ (cb_ HR1 HB) HC1.out A31.out) ?_; rintro e w68 ⟨rfl, hb⟩; refine ⟨_, rfl, ?_⟩; replace HO_3 := am_ (Kd.V_below (kv_ HO_3.out) hb); replace HO_2000 := am_ (Kd.V_below (kv_ HO_2000.out) hb); replace BK1 := kl_ BK1 hb; replace BK2 := kl_ BK2 hb; replace BK3 := kl_ BK3 hb; replace HB := ss_ HB hb; clear hb; have hnb69 := NB1_3.out; have hnc69 := NB3_1.out; have hz70 := cz3_ BK1) | ((with_reducible refine gd_ 44 ?_); (try (refine gate_guard (by rfl) ?_; dsimp only)); refine Kd.N_lit (Kd.slice 9 Kd.string) _ 26 ?hg (N' := 44) ?hd (xs := ([l0_0, l3] : List (List ByteArray))) (inner := [.slice A0_0 l0_0.length c0_0, .slice A3 l3.length c3]) (ok := (fun k_ => ((P0_0_ k_ ∨ P3_ k_) ∨ w.heap.size ≤ k_) ∧ k_ ≠ gb1 ∧ k_ ≠ gb2 ∧ k_ ≠ gb3)) (okp := (fun k_ => ((P0_0_ k_ ∨ P3_ k_) ∨ w.heap.size ≤ k_) ∧ k_ ≠ gb1 ∧ k_ ≠ gb2 ∧ k_ ≠ gb3)) ?hr ?hp (fun _ hk => hk) ((show ∀ k_, w68.heap.size ≤ k_ → (fun k_ => ((P0_0_ k_ ∨ P3_ k_) ∨ w.heap.size ≤ k_) ∧ k_ ≠ gb1 ∧ k_ ≠ gb2 ∧ k_ ≠ gb3) k_ from fun k_ hk => ⟨(.inr (Nat.le_trans (sz_ HB) hk)), Kd.freshB (kb_ BK1.out) k_ hk, Kd.freshB (kb_ BK2.out) k_ hk, Kd.freshB (kb_ BK3.out) k_ hk⟩) _ (Nat.le_refl _)) (Below.refl _ _) (Nat.le_refl _) (by simp) ?_; (case hd => rfl); (case hg => rfl); (case hr => first | (go_simp; done) | (go_simp; rfl)); (case hp => exact (Reps.one (show Kd.FK (Kd.slice 9 Kd.string) _ _ l0_0 [.slice A0_0 l0_0.length c0_0] from (Kd.FK_slice_mk (Kd.V_reads' (Kd.V_mono (ok' := (fun k_ => ((P0_0_ k_ ∨ P3_ k_) ∨ w.heap.size ≤ k_) ∧ k_ ≠ gb1 ∧ k_ ≠ gb2 ∧ k_ ≠ gb3)) (HO_2000.out) (fun k_ hk => ⟨hk.1, ⟨hk.2.1, ⟨hk.2.2.1, hk.2.2.2⟩⟩⟩))).2.1 (Kd.V_F (Kd.V_mono (ok' := (fun k_ => ((P0_0_ k_ ∨ P3_ k_) ∨ w.heap.size ≤ k_) ∧ k_ ≠ gb1 ∧ k_ ≠ gb2 ∧ k_ ≠ gb3)) (HO_2000.out) (fun k_ hk => ⟨hk.1, ⟨hk.2.1, ⟨hk.2.2.1, hk.2.2.2⟩⟩⟩))))) (Reps.one (show Kd.FK (Kd.slice 9 Kd.string) _ _ l3 [.slice A3 l3.length c3] from (Kd.FK_slice_mk (Kd.V_reads' (Kd.V_mono (ok' := (fun k_ => ((P0_0_ k_ ∨ P3_ k_) ∨ w.heap.size ≤ k_) ∧ k_ ≠ gb1 ∧ k_ ≠ gb2 ∧ k_ ≠ gb3)) (HO_3.out) (fun k_ hk => ⟨hk.1, ⟨hk.2.1, ⟨hk.2.2.1, hk.2.2.2⟩⟩⟩))).2.1 (Kd.V_F (Kd.V_mono (ok' := (fun k_ => ((P0_0_ k_ ∨ P3_ k_) ∨ w.heap.size ≤ k_) ∧ k_ ≠ gb1 ∧ k_ ≠ gb2 ∧ k_ ≠ gb3)) (HO_3.out) (fun k_ hk => ⟨hk.1, ⟨hk.2.1, ⟨hk.2.2.1, hk.2.2.2⟩⟩⟩))))) (Reps.none _ _)))); intro v22 w71 ho72 hb hg_ hnew_; clear hg_ hnew_; (first | rw [← Ny21.out] at ho72 | (simp only [Int.reduceToNat] at ho72; rw [← Ny21.out] at ho72)); replace HO_3 := am_ (Kd.V_elder' (kv_ HO_3.out) (Kd.N_base ho72) hb); replace HO_2000 := am_ (Kd.V_elder' (kv_ HO_2000.out) (Kd.N_base ho72) hb); have HO23 := am_ (Kd.N_lower ho72 (sz_ HB)); replace BK1 := kl_ BK1 hb; replace BK2 := kl_ BK2 hb; replace BK3 := kl_ BK3 hb; replace HB := ss_ HB hb; clear hb ho72; obtain ⟨Ao73, co73, eo73⟩ := Kd.N_slice HO23.out; subst eo73) | ((with_reducible refine gq_ 91 45 ?_); refine gc_ 45 Try.func91 (slices_Concat_string_string.calls kj4 _ _ y21 t24 _ (cr_ (Kd.N_reads' HO23.out).2.2) ((Kd.N_reads' HO23.out).2.1) A44.out) ?_; rintro e w74 ⟨v25, rfl, ho0, hb⟩; refine ⟨_, rfl, ?_⟩; replace HO_3 := am_ (Kd.V_elder' (kv_ HO_3.out) (Kd.R_base ho0) hb); replace HO_2000 := am_ (Kd.V_elder' (kv_ HO_2000.out) (Kd.R_base ho0) hb); replace HO23 := am_ (Kd.N_elder' (by (with_reducible repeat (first | apply Kd.N_alloc | apply Kd.N_drewN | apply Kd.N_drew)); exact HO23.out) (Kd.R_base ho0) hb); have HO26 := am_ (Kd.R_lower (Kd.R_newM (M := fun k_ => (w.heap.size ≤ k_)) ho0 (sz_ HB) (fun k_ h_ => h_)) (sz_ HB)); replace BK1 := kl_ BK1 hb; replace BK2 := kl_ BK2 hb; replace BK3 := kl_ BK3 hb; replace HB := ss_ HB hb; clear hb ho0))
       replace HO_3 := am_ (Kd.V_drew HO_3.out)
       replace HO_2000 := am_ (Kd.V_drew HO_2000.out)
       replace HO23 := am_ (Kd.N_drew HO23.out)
       replace HO26 := am_ (Kd.R_drew HO26.out)
       replace BK1 := bd_ BK1
       replace BK2 := bd_ BK2
       replace BK3 := bd_ BK3
       replace HB := hd_ HB
       obtain ⟨Ao76, co76, eo76⟩ := Kd.R_slice HO26.out
       (first | subst eo76 | (injection eo76 with f1_ f2_ f3_; have f4_ := f1_.symm; have f5_ := f3_.symm; clear f1_ f2_ f3_; subst f4_; subst f5_))
       refine start_ (n := 4) (S := fun w' => w'.cell? ⟨gb2, 0, none⟩ = some (.int .i64 a2_0) ∧ w'.cell? ⟨gb2, 1, none⟩ = some (.string a2_1)) (ds := []) (lz_ 4 0) (by kernel_rfl) rfl rfl ⟨bc0_ BK2.out, bc1_ BK2.out⟩ (fun hHeld => ?_)
       generalize w74.drew = w75 at HO_3 HO_2000 HO23 HO26 BK1 BK2 BK3 HB hHeld ⊢
       refine pk_ 0 46 1 ?_
       refine tk_ 2 48 5 ?_
       refine one_ (i := 1) (N := some 47) (lz_ 4 7) rfl rfl (by kernel_rfl) (by decide) (fun K hK => ?_)
       refine gf_ Try.func53 (impl_HeadOf.calls kj4 _ _ t24 t27 t28 _ (ch_ HO26) (cl_ HO26) A45.out) ?_
       rintro e w77 ⟨rfl, hb⟩
       refine ⟨_, rfl, ?_⟩
       replace HO_3 := am_ (Kd.V_below (kv_ HO_3.out) hb)
       replace HO_2000 := am_ (Kd.V_below (kv_ HO_2000.out) hb)
       replace HO23 := am_ (Kd.N_below (by (with_reducible repeat (first | apply Kd.N_alloc | apply Kd.N_drewN | apply Kd.N_drew)); exact HO23.out) hb)
       replace HO26 := rb_ HO26 hb
       replace BK1 := kl_ BK1 hb
       replace BK2 := kl_ BK2 hb
       replace BK3 := kl_ BK3 hb
       replace HB := ss_ HB hb
       clear hb
       refine hK.out _ _ ⟨bc0_ BK2.out, bc1_ BK2.out⟩ (fun hHeld => ?_)
       clear hK K
       refine no_ 47 ?_
       refine pk_ 3 49 15 ?_
       refine done_ (by kernel_rfl) ?_
       have hz78 := cz2_ BK2
       have hz79 := cz3_ BK3
       try go_wp2
       refine bodyPost_ret (results_ct rfl _ _ gb3 37 #[.slice Ao76 t24.length co76, .int .i64 a2_0, .string a2_1] (0, 0) _ rfl (by exact kq_ BK3) Try.underlying37 rfl (by kernel_rfl)) rfl ?_
       exact ⟨_, e2_, kfm_ HO26 BK3, bw_ HB⟩
    ·replace H := bi_ H; obtain ⟨⟨t16, t19, t20⟩, A80, H⟩ := H
     dsimp only at H
     replace H := so4_ H; obtain ⟨rfl, rfl, rfl, rfl⟩ := H
     have hnb81 := NB2_1.out
     have hnc81 := NB1_2.out
     have hnb82 := NB2_3.out
     have hnc82 := NB3_2.out
     have hz83 := cz2_ BK2
     go_wp2_with (first | ((with_reducible refine gq_ 90 31 ?_); refine gc_ 31 Try.func90 (impl_IsSigned.calls kj4 _ _ l1 a2_0 a2_1 false _ (cb_ HR1 HB) HC1.out A31.out) ?_; rintro e w84 ⟨rfl, hb⟩; refine ⟨_, rfl, ?_⟩; replace HO_3 := am_ (Kd.V_below (kv_ HO_3.out) hb); replace HO_2000 := am_ (Kd.V_below (kv_ HO_2000.out) hb); replace BK1 := kl_ BK1 hb; replace BK2 := kl_ BK2 hb; replace BK3 := kl_ BK3 hb; replace HB := ss_ HB hb; clear hb; have hnb85 := NB1_3.out; have hnc85 := NB3_1.out; have hz86 := cz3_ BK1) | ((with_reducible refine gq_ 69 34 ?_); refine gc_ 34 Try.func69 (impl_copyLog.calls _ _ l0_0 a0_1 a0_2 t16 t19 t20 _ (cr_ (Kd.V_reads' HO_2000.out).2.2) ((Kd.V_reads' HO_2000.out).2.1) A80.out) ?_; rintro e w87 ⟨v17, rfl, ho0, hb⟩; refine ⟨_, rfl, ?_⟩; replace HO_3 := am_ (Kd.V_elder' (kv_ HO_3.out) (Kd.R_base ho0) hb); replace HO_2000 := am_ (Kd.V_elder' (kv_ HO_2000.out) (Kd.R_base ho0) hb); have HO18 := am_ (Kd.R_lower (Kd.R_newM (M := fun k_ => (w.heap.size ≤ k_)) ho0 (sz_ HB) (fun k_ h_ => h_)) (sz_ HB)); replace BK1 := kl_ BK1 hb; replace BK2 := kl_ BK2 hb; replace BK3 := kl_ BK3 hb; replace HB := ss_ HB hb; clear hb ho0; obtain ⟨Ao88, co88, eo88⟩ := Kd.R_slice HO18.out; subst eo88; have hz89 := cz3_ BK3))
     refine bodyPost_ret (results_ct rfl _ _ gb3 37 #[.slice Ao88 t16.length co88, .int .i64 t19, .string t20] (0, 0) _ rfl (by exact kq_ BK3) Try.underlying37 rfl (by kernel_rfl)) rfl ?_
     exact ⟨_, e2_, kfm_ HO18 BK3, bw_ HB⟩
end
def impl_LogNew.f (k : Nat)  : Option (List ByteArray × Int × ByteArray) := (impl_HeadOf.f k ([] : List ByteArray)).bind fun bt2 => (some (([] : List ByteArray), bt2.1, bt2.2))
theorem impl_LogNew.calls (k : Nat)  (r1 : List ByteArray) (r2 : Int) (r3 : ByteArray) (w : World) (h : impl_LogNew.f k  = some (r1, r2, r3)) :
  Calls Try.prog 79 #[] w fun e w' => ∃ v0_ : Value, e = .returned (.agg #[v0_, .int .i64 r2, .string r3]) ∧ Kd.R Kd.string 9 w' w.heap.size (fun _ => True) v0_ r1 ∧ Below w.heap.size w w' := by
 have hu37 := Try.underlying37
 have HB := h0_ w
 have H : ((impl_HeadOf.f k ([] : List ByteArray)).bind fun bt2 => (some (([] : List ByteArray), bt2.1, bt2.2))) = some (r1, r2, r3) := h
 clear h
 replace H := bi_ H; obtain ⟨⟨t602, t3⟩, A1, H⟩ := H
 dsimp only at H
 replace H := so3_ H; obtain ⟨rfl, rfl, rfl⟩ := H
 go_enter Try.func79, Try.ntmps79
 go_wp2_with (first | ((with_reducible refine gd_ 0 ?_); refine x37_ 0 (hx_ HB ?_); clear HB; intro gb1 w2 BK1 GW1 HB; have GE1 := GW1) | ((with_reducible refine gk_ 53 ?_); refine gl_ 1 Try.func53 #[.slice none 0 0] ?_; (refine (impl_HeadOf.calls k _ _ ([] : List ByteArray) t602 t3 _ ?side1 ?side2 A1.out).mono ?_); (case side1 => exact Kd.C_nil _ _); (case side2 => exact Nat.le_refl _); rintro e w3 ⟨rfl, hb⟩; refine ⟨_, rfl, ?_⟩; replace BK1 := kl_ BK1 hb; replace HB := ss_ HB hb; clear hb; have hz4 := cz3_ BK1))
 refine bodyPost_ret (results_cell_row rfl _ _ gb1 37 #[.slice none 0 0, .int .i64 t602, .string t3] (0, 0) _ rfl (by exact kq_ BK1) Try.underlying37 rfl (by kernel_rfl)) rfl ?_
 exact ⟨_, e2_, nil_, bw_ HB⟩
def impl_StoreNew.f (k : Nat)  : Option (List ByteArray × Int × ByteArray × List Int × Int) := (impl_LogNew.f k).bind fun bt2 => (some (bt2.1, bt2.2.1, bt2.2.2, ([] : List Int), 0))
theorem impl_StoreNew.calls (k : Nat)  (r1 : List ByteArray) (r2 : Int) (r3 : ByteArray) (r4 : List Int) (r5 : Int) (w : World) (h : impl_StoreNew.f k  = some (r1, r2, r3, r4, r5)) :
  Calls Try.prog 50 #[] w fun e w' => ∃ v0_ v3_ : Value, e = .returned (.agg #[v0_, .int .i64 r2, .string r3, v3_, .int .i64 r5]) ∧ Kd.R Kd.string 9 w' w.heap.size (fun _ => True) v0_ r1 ∧ Kd.R (Kd.int .u8) 5 w' w.heap.size (fun _ => True) v3_ r4 ∧ Below w.heap.size w w' := by
 have hu39 := Try.underlying39
 have HB := h0_ w
 have H : ((impl_LogNew.f k).bind fun bt2 => (some (bt2.1, bt2.2.1, bt2.2.2, ([] : List Int), 0))) = some (r1, r2, r3, r4, r5) := h
 clear h
 replace H := bi_ H; obtain ⟨⟨t602, t5, t6⟩, A1, H⟩ := H
 dsimp only at H
 replace H := so5_ H; obtain ⟨rfl, rfl, rfl, rfl, rfl⟩ := H
 go_enter Try.func50, Try.ntmps50
 go_wp2_with (first | ((with_reducible refine gd_ 0 ?_); refine x39_ 0 (hx_ HB ?_); clear HB; intro gb1 w2 BK1 GW1 HB; have GE1 := GW1) | ((with_reducible refine gq_ 79 1 ?_); refine gc_ 1 Try.func79 (impl_LogNew.calls k  t602 t5 t6 _ A1.out) ?_; rintro e w3 ⟨v3, rfl, ho0, hb⟩; refine ⟨_, rfl, ?_⟩; have HO4 := rlo_ ho0 HB; replace BK1 := kl_ BK1 hb; replace HB := ss_ HB hb; clear hb ho0; obtain ⟨Ao4, co4, eo4⟩ := Kd.R_slice HO4.out; subst eo4; have hz5 := cz5_ BK1))
 refine bodyPost_ret (results_cell_row rfl _ _ gb1 39 #[.slice Ao4 t602.length co4, .int .i64 t5, .string t6, .slice none 0 0, .int .i64 0] (0, 0) _ rfl (by exact kq_ BK1) Try.underlying39 rfl (by kernel_rfl)) rfl ?_
 exact ⟨_, _, e2_, kfm_ HO4 BK1, nil_, bw_ HB⟩
def impl_Store_commit.f (k : Nat) (l : List ByteArray) (n : Int) (s : ByteArray) (b : List Int) (u : Int) (t : List S25) (a : Int) (z : ByteArray) (x : List ByteArray) : Option (List ByteArray × Int × ByteArray × List Int × Int) :=
 (impl_PutCommit.f k a z x).bind fun m => (if wrap64 ((b.length : Int) + (m.length : Int)) > 60000 then some (l, n, s, b, 1) else ((impl_extend.f k l n s t a z x).bind fun r => (if r.2.2.2 = 0 then (if b.length + m.length < 140737488355328 then some (r.1, r.2.1, r.2.2.1, b ++ m, 0) else none) else some (l, n, s, b, r.2.2.2))))
theorem Kd.R_gone {α : Type} {d : Kd α} {e base g : Nat} {W : World} {v : Value} {xs : List α} (h : d.R e W base (fun k => k ≠ g) v xs) (i : Nat) (y : Value) : d.R e (W.setCell ⟨g, i, none⟩ y) base (fun k => k ≠ g) v xs := Kd.R_far h (fun _ hk => hk) y
theorem impl_Store_commit.calls (k g : Nat) (A0 : Option Addr) (c0 : Nat) (l : List ByteArray) (n : Int) (s : ByteArray) (A3 : Option Addr) (c3 : Nat) (b : List Int) (u : Int) (A1 : Option Addr) (c1 : Nat) (t : List S25) (a : Int) (z : ByteArray) (A4 : Option Addr) (c4 : Nat) (x : List ByteArray) (r1 : List ByteArray) (r2 : Int) (r3 : ByteArray) (r4 : List Int) (r5 : Int) (w0 w : World)
  (hg : w0.heap.size ≤ g) (hbk : w.heap[g]? = some (.cells #[.slice A0 l.length c0, .int .i64 n, .string s, .slice A3 b.length c3, .int .i64 u] 39 (0, 0)))
  (hO : Kd.R Kd.string 9 w w0.heap.size (fun k_ => k_ ≠ g) (.slice A0 l.length c0) l) (hP : Kd.R (Kd.int .u8) 5 w w0.heap.size (fun k_ => k_ ≠ g) (.slice A3 b.length c3) b)
  (hT : Kd.C k25 w A1 t.length t) (hT1 : t.length ≤ c1) (hX : Kd.C Kd.string w A4 x.length x) (hX1 : x.length ≤ c4) (hB : Below w0.heap.size w0 w) (h : impl_Store_commit.f k l n s b u t a z x = some (r1, r2, r3, r4, r5)) :
  Calls Try.prog 45 #[.pointer (some ⟨g, 0, none⟩), .slice A1 t.length c1, .agg #[.int .i64 a, .string z], .slice A4 x.length c4] w fun e w' => e = .returned (.int .i64 r5) ∧ ∃ (A0' : Option Addr) (c0' : Nat) (A3' : Option Addr) (c3' : Nat), Kd.R Kd.string 9 w' w0.heap.size (fun k_ => k_ ≠ g) (.slice A0' r1.length c0') r1 ∧ Kd.R (Kd.int .u8) 5 w' w0.heap.size (fun k_ => k_ ≠ g) (.slice A3' r4.length c3') r4 ∧ w'.heap[g]? = some (.cells #[.slice A0' r1.length c0', .int .i64 r2, .string r3, .slice A3' r4.length c3', .int .i64 u] 39 (0, 0)) ∧ Below w0.heap.size w0 w' ∧ Kept w w' (fun k_ => k_ = g ∨ some k_ = (Value.slice A3 b.length c3).ownBlock) := by
 have hu37 := Try.underlying39
 have hu31 := Try.underlying37
 have hu28 := Try.underlying25
 have HB := am_ hB
 have GE := am_ hg
 have BK := am_ hbk
 have HO := am_ hO
 have HP := am_ hP
 have HT := am_ hT
 have HT1 := am_ hT1
 have HX := am_ hX
 have HX1 := am_ hX1
 have HKP := am_ (Kept.refl w (fun k_ => k_ = g ∨ some k_ = (Value.slice A3 b.length c3).ownBlock))
 unfold impl_Store_commit.f at h
 replace h := bi_ h; obtain ⟨m, AM, h⟩ := h
 clear hB hg hbk hO hP hT hT1 hX hX1
 have hz := cz5_ BK
 replace h := it_ h; obtain ⟨d1, h⟩ | ⟨d1, h⟩ := h
 ·have d1b : decide (60000 < wrap64 ((b.length : Int) + (m.length : Int))) = true := decide_eq_true d1
  have d1c : decide (60000 < IntKind.i64.wrap ((b.length : Int) + (m.length : Int))) = true := by rw [i64_w]; exact d1b
  clear d1
  replace h := so5_ h; obtain ⟨rfl, rfl, rfl, rfl, rfl⟩ := h
  go_enter Try.func45, Try.ntmps45
  go_wp2_with (first | ((with_reducible refine gd_ 6 ?_); refine bx_ 6 25 #[.int .i64 a, .string z] ?_; intro gh hg_ w1 hbox hb; have BH := am_ hbox; have GH := gg_ hg_ HB; have NGH := nla_ hg_ BK; replace HB := ss_ HB hb; replace BK := kl_ BK hb; replace HO := rb_ HO hb; replace HP := rb_ HP hb; replace HT := am_ (Kd.C_below HT.out hb); replace HX := am_ (Kd.C_below HX.out hb); replace HKP := am_ (Kept.below HKP.out hb); clear hb hbox hg_ hz; have hz := cz5_ BK; have hy := cz2_ BH; have hn := NGH.out; have hn2 := NGH.out.symm) | ((with_reducible refine gq_ 71 14 ?_); refine gc_ 14 Try.func71 (impl_PutCommit.calls k a z _ _ x m _ HX.out HX1.out AM.out) ?_; rintro e w2 ⟨v1, rfl, ho, hb⟩; refine ⟨_, rfl, ?_⟩; have HM := rlo_ ho HB; replace HB := ss_ HB hb; replace BK := kl_ BK hb; replace HO := rb_ HO hb; replace HP := rb_ HP hb; replace HT := am_ (Kd.C_below HT.out hb); replace HX := am_ (Kd.C_below HX.out hb); replace HKP := am_ (Kept.below HKP.out hb); replace BH := kl_ BH hb; clear hb ho hz hy; have hz := cz5_ BK; have hy := cz2_ BH; obtain ⟨Am, cm, em⟩ := Kd.R_slice HM.out; subst em))
  go_ret
  exact ⟨rfl, A0, c0, A3, c3, HO.out, HP.out, BK.out, HB.out, HKP.out⟩
 ·have d1b : decide (60000 < wrap64 ((b.length : Int) + (m.length : Int))) = false := decide_eq_false d1
  have d1c : decide (60000 < IntKind.i64.wrap ((b.length : Int) + (m.length : Int))) = false := by rw [i64_w]; exact d1b
  clear d1
  replace h := bi_ h; obtain ⟨⟨q1, q2, q3, q4⟩, AE, h⟩ := h
  dsimp only at h
  have H := am_ h
  clear h
  go_enter Try.func45, Try.ntmps45
  go_wp2_with (first | ((with_reducible refine gd_ 6 ?_); refine bx_ 6 25 #[.int .i64 a, .string z] ?_; intro gh hg_ w1 hbox hb; have BH := am_ hbox; have GH := gg_ hg_ HB; have NGH := nla_ hg_ BK; replace HB := ss_ HB hb; replace BK := kl_ BK hb; replace HO := rb_ HO hb; replace HP := rb_ HP hb; replace HT := am_ (Kd.C_below HT.out hb); replace HX := am_ (Kd.C_below HX.out hb); replace HKP := am_ (Kept.below HKP.out hb); clear hb hbox hg_ hz; have hz := cz5_ BK; have hy := cz2_ BH; have hn := NGH.out; have hn2 := NGH.out.symm) | ((with_reducible refine gq_ 71 14 ?_); refine gc_ 14 Try.func71 (impl_PutCommit.calls k a z _ _ x m _ HX.out HX1.out AM.out) ?_; rintro e w2 ⟨v1, rfl, ho, hb⟩; refine ⟨_, rfl, ?_⟩; have HM := rlo_ ho HB; replace HB := ss_ HB hb; replace BK := kl_ BK hb; replace HO := rb_ HO hb; replace HP := rb_ HP hb; replace HT := am_ (Kd.C_below HT.out hb); replace HX := am_ (Kd.C_below HX.out hb); replace HKP := am_ (Kept.below HKP.out hb); replace BH := kl_ BH hb; clear hb ho hz hy; have hz := cz5_ BK; have hy := cz2_ BH; obtain ⟨Am, cm, em⟩ := Kd.R_slice HM.out; subst em))
  clear hz hy hn hn2
  replace BK := bd_ BK
  replace BH := bd_ BH
  replace HO := am_ (Kd.R_drew HO.out)
  replace HP := am_ (Kd.R_drew HP.out)
  replace HT := am_ (Kd.C_drew HT.out)
  replace HX := am_ (Kd.C_drew HX.out)
  replace HM := am_ (Kd.R_drew HM.out)
  replace HB := hd_ HB
  replace HKP := am_ (Kept.drew HKP.out)
  refine start_ (n := 14) (S := fun w' => w'.cell? ⟨g, 0, none⟩ = some (.slice A0 l.length c0) ∧ w'.cell? ⟨g, 1, none⟩ = some (.int .i64 n) ∧ w'.cell? ⟨g, 2, none⟩ = some (.string s) ∧ w'.cell? ⟨gh, 0, none⟩ = some (.int .i64 a) ∧ w'.cell? ⟨gh, 1, none⟩ = some (.string z)) (ds := []) (lz_ 14 0) (by kernel_rfl) rfl rfl ⟨bc0_ BK.out, bc1_ BK.out, bc2_ BK.out, bc0_ BH.out, bc1_ BH.out⟩ (fun hHeld => ?_)
  generalize w2.drew = w3 at BK BH HO HP HT HX HM HB HKP hHeld ⊢
  refine pk_ 0 25 1 ?_
  refine pk_ 1 26 3 ?_
  refine pk_ 2 27 7 ?_
  refine pk_ 4 29 23 ?_
  refine pk_ 6 31 87 ?_
  refine tk_ 3 28 95 ?_
  refine tk_ 5 30 127 ?_
  refine join_ (σ := Value × Nat) 2 (lz_ 14 4095) (fun s_ => [(32, .tuple #[.agg #[s_.1, .int .i64 q2, .string q3], .int .i64 q4]), (24, .tuple #[.agg #[s_.1, .int .i64 q2, .string q3], .int .i64 q4]), (33, .agg #[s_.1, .int .i64 q2, .string q3]), (34, .int .i64 q4), (10, .pointer (some ⟨s_.2, 0, none⟩))]) (fun s_ w' => Aside0 (Kd.R Kd.string 9 w' w0.heap.size (fun k_ => k_ ≠ g) s_.1 q1) ∧ Aside0 (Kd.R Kd.string 9 w' w0.heap.size (fun k_ => k_ ≠ g) (.slice A0 l.length c0) l) ∧ Aside0 (Kd.R (Kd.int .u8) 5 w' w0.heap.size (fun k_ => k_ ≠ g) (.slice A3 b.length c3) b) ∧ Aside0 (Kd.R (Kd.int .u8) 5 w' w0.heap.size (fun _ => True) (.slice Am m.length cm) m) ∧ Aside0 (w'.heap[g]? = some (.cells #[.slice A0 l.length c0, .int .i64 n, .string s, .slice A3 b.length c3, .int .i64 u] 39 (0, 0))) ∧ Aside0 (w'.heap[gh]? = some (.cells #[.int .i64 a, .string z] 25 (0, 0))) ∧ Aside0 (w'.heap[s_.2]? = some (.cells #[.slice none 0 0, .int .i64 0, .string (⟨#[]⟩ : ByteArray)] 37 (0, 0))) ∧ Aside0 (w0.heap.size ≤ s_.2) ∧ Aside0 (w.heap.size ≤ s_.2) ∧ Aside0 (g ≠ s_.2) ∧ Aside0 (gh ≠ s_.2) ∧ Aside0 (Below w0.heap.size w0 w') ∧ Aside0 (Kept w w' (fun k_ => k_ = g ∨ some k_ = (Value.slice A3 b.length c3).ownBlock))) ?_ ?_
  rotate_left
  ·intro hJ
   refine two_ (i := 7) (j := 11) (Ni := some 32) (Nj := some 10) (lz_ 14 255) (lz_ 14 2175) rfl rfl rfl rfl (by kernel_rfl) (by decide) (by decide) (fun K hK => ?_) (fun K hK => ?_)
   ·skip
    refine gf_ Try.func72 (impl_extend.calls k (fun k_ => True) _ _ l n s _ _ t a z (fun k_ => True) _ _ x q1 q2 q3 q4 _ (Kd.V_mk (cl_ HO) (Kd.F_mono (Kd.C_F Kd.heap_string (Kd.R_reads' HO.out).2.2) (fun _ _ => trivial))) HT.out HT1.out (Kd.V_mk HX1.out (Kd.F_mono (Kd.C_F Kd.heap_string HX.out) (fun _ _ => trivial))) AE.out) ?_
    rintro e w4 ⟨v, rfl, ho, hb⟩
    refine ⟨_, rfl, ?_⟩
    have HV := am_ (Kd.R_mono (ok' := fun k_ => k_ ≠ g) (Kd.R_lower ho (sz_ HB)) (fun k_ hk_ => by have := blk_lt BK.out; omega))
    replace HB := ss_ HB hb
    replace BK := kl_ BK hb; replace BH := kl_ BH hb; replace HO := rb_ HO hb; replace HP := rb_ HP hb; replace HT := am_ (Kd.C_below HT.out hb); replace HX := am_ (Kd.C_below HX.out hb); replace HM := rb_ HM hb; replace HKP := am_ (Kept.below HKP.out hb)
    clear hb ho
    refine hK.out _ _ ⟨bc0_ BK.out, bc1_ BK.out, bc2_ BK.out, bc0_ BH.out, bc1_ BH.out⟩ (fun hHeld => ?_)
    clear hK K
    refine no_ 32 ?_
    refine pk_ 8 24 511 ?_
    refine pk_ 9 33 1023 ?_
    refine pk_ 10 34 2047 ?_
    refine one_ (i := 11) (N := some 10) (lz_ 14 4095) rfl rfl (by kernel_rfl) (by decide) (fun K hK => ?_)
    refine bz_ 10 37 #[.slice none 0 0, .int .i64 0, .string (⟨#[]⟩ : ByteArray)] ?_
    intro gl hg_ w5 hbox hb
    have BL := am_ hbox
    have GL := gg_ hg_ HB
    have GLW := am_ (gz_ hg_ HKP.out.1)
    have NGL := nla_ hg_ BK
    have NHL := nla_ hg_ BH
    replace HB := ss_ HB hb
    replace BK := kl_ BK hb; replace BH := kl_ BH hb; replace HO := rb_ HO hb; replace HP := rb_ HP hb; replace HT := am_ (Kd.C_below HT.out hb); replace HX := am_ (Kd.C_below HX.out hb); replace HM := rb_ HM hb; replace HKP := am_ (Kept.below HKP.out hb); replace HV := rb_ HV hb
    clear hb hbox hg_
    refine hK.out _ _ ⟨bc0_ BK.out, bc1_ BK.out, bc2_ BK.out, bc0_ BH.out, bc1_ BH.out⟩ (fun hHeld => ?_)
    clear hK K
    refine no_ 10 ?_
    exact nj_ (hJ (v, gl) _ ⟨HV, HO, HP, HM, BK, BH, BL, GL, GLW, NGL, NHL, HB, HKP⟩)
   ·skip
    refine bz_ 10 37 #[.slice none 0 0, .int .i64 0, .string (⟨#[]⟩ : ByteArray)] ?_
    intro gl hg_ w5 hbox hb
    have BL := am_ hbox
    have GL := gg_ hg_ HB
    have GLW := am_ (gz_ hg_ HKP.out.1)
    have NGL := nla_ hg_ BK
    have NHL := nla_ hg_ BH
    replace HB := ss_ HB hb
    replace BK := kl_ BK hb; replace BH := kl_ BH hb; replace HO := rb_ HO hb; replace HP := rb_ HP hb; replace HT := am_ (Kd.C_below HT.out hb); replace HX := am_ (Kd.C_below HX.out hb); replace HM := rb_ HM hb; replace HKP := am_ (Kept.below HKP.out hb)
    clear hb hbox hg_
    refine hK.out _ _ ⟨bc0_ BK.out, bc1_ BK.out, bc2_ BK.out, bc0_ BH.out, bc1_ BH.out⟩ (fun hHeld => ?_)
    clear hK K
    refine no_ 10 ?_
    refine one_ (i := 7) (N := some 32) (lz_ 14 2303) rfl rfl (by kernel_rfl) (by decide) (fun K hK => ?_)
    refine gf_ Try.func72 (impl_extend.calls k (fun k_ => True) _ _ l n s _ _ t a z (fun k_ => True) _ _ x q1 q2 q3 q4 _ (Kd.V_mk (cl_ HO) (Kd.F_mono (Kd.C_F Kd.heap_string (Kd.R_reads' HO.out).2.2) (fun _ _ => trivial))) HT.out HT1.out (Kd.V_mk HX1.out (Kd.F_mono (Kd.C_F Kd.heap_string HX.out) (fun _ _ => trivial))) AE.out) ?_
    rintro e w4 ⟨v, rfl, ho, hb⟩
    refine ⟨_, rfl, ?_⟩
    have HV := am_ (Kd.R_mono (ok' := fun k_ => k_ ≠ g) (Kd.R_lower ho (sz_ HB)) (fun k_ hk_ => by have := blk_lt BK.out; omega))
    replace HB := ss_ HB hb
    replace BK := kl_ BK hb; replace BH := kl_ BH hb; replace HO := rb_ HO hb; replace HP := rb_ HP hb; replace HT := am_ (Kd.C_below HT.out hb); replace HX := am_ (Kd.C_below HX.out hb); replace HM := rb_ HM hb; replace HKP := am_ (Kept.below HKP.out hb); replace BL := kl_ BL hb
    clear hb ho
    refine hK.out _ _ ⟨bc0_ BK.out, bc1_ BK.out, bc2_ BK.out, bc0_ BH.out, bc1_ BH.out⟩ (fun hHeld => ?_)
    clear hK K
    refine no_ 32 ?_
    refine pk_ 8 24 2559 ?_
    refine pk_ 9 33 3071 ?_
    refine pk_ 10 34 4095 ?_
    exact nj_ (hJ (v, gl) _ ⟨HV, HO, HP, HM, BK, BH, BL, GL, GLW, NGL, NHL, HB, HKP⟩)
  ·clear BK BH HO HP HT HX HM HB HKP hHeld
   rintro ⟨v, gl⟩ w6 ⟨HV, HO, HP, HM, BK, BH, BL, GL, GLW, NGL, NHL, HB, HKP⟩
   dsimp only at HV BL GL GLW NGL NHL
   have hHeld := hn5_ (bc0_ BK.out) (bc1_ BK.out) (bc2_ BK.out) (bc0_ BH.out) (bc1_ BH.out)
   refine nj_ ?_
   obtain ⟨Av, cv, ev⟩ := Kd.R_slice HV.out
   subst ev
   refine one_ (i := 12) (N := none) (lz_ 14 8191) rfl rfl (by kernel_rfl) (by decide) (fun K hK => ?_)
   have hs := cz3_ BL
   have hn1 := NGL.out
   have hn2 := NGL.out.symm
   have hn3 := NHL.out
   have hn4 := NHL.out.symm
   refine skip_ (w1 := ?_) (by rfl) rfl ?_ ?_
   rotate_left
   ·go_simp
    rfl
   obtain ⟨w7, hw7⟩ : ∃ w7 : World, w7 = (((w6.setCell ⟨gl, 0, none⟩ (.slice Av q1.length cv)).setCell ⟨gl, 1, none⟩ (.int .i64 q2)).setCell ⟨gl, 2, none⟩ (.string q3)) := ⟨_, rfl⟩
   rw [← hw7]
   have HV7 : Aside0 (Kd.R Kd.string 9 w7 w0.heap.size (fun k_ => k_ ≠ g) (.slice Av q1.length cv) q1) := ⟨by rw [hw7]; exact kf_ HV BL⟩
   have HO7 : Aside0 (Kd.R Kd.string 9 w7 w0.heap.size (fun k_ => k_ ≠ g) (.slice A0 l.length c0) l) := ⟨by rw [hw7]; exact kf_ HO BL⟩
   have HP7 : Aside0 (Kd.R (Kd.int .u8) 5 w7 w0.heap.size (fun k_ => k_ ≠ g) (.slice A3 b.length c3) b) := ⟨by rw [hw7]; exact kf_ HP BL⟩
   have HM7 : Aside0 (Kd.R (Kd.int .u8) 5 w7 w0.heap.size (fun _ => True) (.slice Am m.length cm) m) := ⟨by rw [hw7]; exact kf_ HM BL⟩
   have BK7 : Aside0 (w7.heap[g]? = some (.cells #[.slice A0 l.length c0, .int .i64 n, .string s, .slice A3 b.length c3, .int .i64 u] 39 (0, 0))) := ⟨by rw [hw7]; exact kq_ BK⟩
   have BH7 : Aside0 (w7.heap[gh]? = some (.cells #[.int .i64 a, .string z] 25 (0, 0))) := ⟨by rw [hw7]; exact kq_ BH⟩
   have BL7 : Aside0 (w7.heap[gl]? = some (.cells #[.slice Av q1.length cv, .int .i64 q2, .string q3] 37 (0, 0))) := ⟨by rw [hw7]; exact kq_ BL⟩
   have HB7 : Aside0 (Below w0.heap.size w0 w7) := ⟨by rw [hw7]; exact bw_ HB⟩
   have HKP7 : Aside0 (Kept w w7 (fun k_ => k_ = g ∨ some k_ = (Value.slice A3 b.length c3).ownBlock)) := ⟨by rw [hw7]; exact Kept.setCell (Kept.setCell (Kept.setCell HKP.out (.inr GLW.out) _) (.inr GLW.out) _) (.inr GLW.out) _⟩
   refine hK.out _ _ ⟨bc0_ BK7.out, bc1_ BK7.out, bc2_ BK7.out, bc0_ BH7.out, bc1_ BH7.out⟩ (fun hHeld => ?_)
   clear hK K HV HO HP HM BK BH BL HB HKP hs hw7
   refine pk_ 13 11 16383 ?_
   refine done_ (by kernel_rfl) ?_
   clear hHeld hn3 hn4
   have hz := cz5_ BK7
   have hl := cz3_ BL7
   have h := H.out
   clear H
   replace h := it_ h; obtain ⟨d2, h⟩ | ⟨d2, h⟩ := h
   ·have d2b : (q4 == 0) = true := beq_iff_eq.mpr d2
    have d2c : (q4 != 0) = false := bne_eq_false_iff_eq.mpr d2
    replace h := ip_ h; obtain ⟨d3, h⟩ := h
    have LM := am_ d3
    clear d2 d3
    replace h := so5_ h; obtain ⟨rfl, rfl, rfl, rfl, rfl⟩ := h
    go_wp2_with ((at_builtin; refine Kd.R_append_rows (Kd.int .u8) (w0 := w0) w0.heap.size rfl (.tmp 46) (.tmp 47) 22 5 (.int .u8 0) 1 rfl Try.underlying22 info5 rfl (by decide) (by omega) (.slice A3 b.length c3) b m _ _ _ (fun k_ => k_ ≠ g) (fun _ => False) rfl rfl ?aO ?aR (fun _ _ h => h) (fun _ h => h.elim) ?aF ?aB ?aS ?aL ?_; (case aO => exact Kd.R_gone (Kd.R_gone (Kd.R_gone HP7.out 0 (.slice Av q1.length cv)) 1 (.int .i64 q2)) 2 (.string q3)); (case aR => exact (chf_ HM7 BK7)); (case aF => exact (fun k_ hk_ e_ => by have := blk_lt BK7.out; simp [World.setCell] at hk_; omega)); (case aB => exact (bw_ HB7)); (case aS => exact (sz_ HB7)); (case aL => have := LM.out; omega); intro v9 w9 ho hb hgr hat; have BK9 := kgp_ BK7 HP7 hgr; have HV9 := am_ (Kd.R_mono (Kd.R_after (Kd.R_apart' (Kd.R_gone (Kd.R_gone (Kd.R_gone HV7.out 0 (.slice Av q1.length cv)) 1 (.int .i64 q2)) 2 (.string q3)) (Kd.R_typed (Kd.R_gone (Kd.R_gone (Kd.R_gone HP7.out 0 (.slice Av q1.length cv)) 1 (.int .i64 q2)) 2 (.string q3))) (by decide)) hgr hat) (fun _ h_ => h_.1)); have HKP9 := am_ (Kept.of_grown hgr (Kept.setCell (Kept.setCell (Kept.setCell HKP7.out (.inl (.inl rfl)) _) (.inl (.inl rfl)) _) (.inl (.inl rfl)) _) (fun k_ hk_ => .inl (.inr hk_.symm))); have HB9 := am_ hb; obtain ⟨A9, c9, e9⟩ := Kd.R_slice ho; subst e9; have HP9 := am_ ho; clear ho hb hgr hat hz hl; have hz := cz5_ BK9))
    go_ret
    exact ⟨rfl, Av, cv, A9, c9, Kd.R_gone HV9.out 3 _, Kd.R_gone HP9.out 3 _, (by rw [List.length_append]; exact kq_ BK9), bw_ HB9, Kept.setCell HKP9.out (.inl (.inl rfl)) _⟩
   ·have d2b : (q4 == 0) = false := beq_eq_false_iff_ne.mpr d2
    have d2c : (q4 != 0) = true := bne_iff_ne.mpr d2
    clear d2
    replace h := so5_ h; obtain ⟨rfl, rfl, rfl, rfl, rfl⟩ := h
    go_wp2
    go_ret
    exact ⟨rfl, A0, c0, A3, c3, HO7.out, HP7.out, BK7.out, HB7.out, HKP7.out⟩
section
attribute [local go_sem] max2_int min2_int max_two min_two
def impl_OpenStore.l0 : Nat → List S25 → List Int → Int → Int → Int → List ByteArray → Int → ByteArray → List Int → Option (List ByteArray × Int × ByteArray × List Int × Int)
 | 0, _, _, _, _, _, _, _, _, _ => none
 | k + 1, t, b, u, cnt, at_, l, n, s, m => if at_ < (b.length : Int) then ((impl_GetCommit.f k b at_).bind fun g => (if g.2.2.2.2 = true then ((impl_Store_commit.f k l n s m u t g.1 g.2.1 g.2.2.1).bind fun r => (if r.2.2.2.2 = 0 then (impl_OpenStore.l0 k t b u (wrap64 (cnt + 1)) g.2.2.2.1 r.1 r.2.1 r.2.2.1 r.2.2.2.1) else (some (r.1, r.2.1, r.2.2.1, r.2.2.2.1, cnt)))) else (some (l, n, s, m, cnt)))) else (some (l, n, s, m, cnt))
def impl_OpenStore.f (k : Nat) (t : List S25) (b : List Int) : Option (List ByteArray × Int × ByteArray × List Int × Int × Int) :=
 (impl_StoreNew.f k).bind fun q => ((impl_OpenStore.l0 k t (b.take (mn (b.length : Int) 60000).toNat) q.2.2.2.2 0 0 q.1 q.2.1 q.2.2.1 q.2.2.2.1).bind fun r => some (r.1, r.2.1, r.2.2.1, r.2.2.2.1, (r.2.2.2.1.length : Int), r.2.2.2.2))
theorem impl_OpenStore.calls (k : Nat) (A0 : Option Addr) (c0 : Nat) (t : List S25) (A1 : Option Addr) (c1 : Nat) (b : List Int) (r1 : List ByteArray) (r2 : Int) (r3 : ByteArray) (r4 : List Int) (r5 r6 : Int) (w : World)
  (hr0 : Kd.C k25 w A0 t.length t) (hc0 : t.length ≤ c0) (hr1 : Kd.C (Kd.int .u8) w A1 b.length b) (hc1 : b.length ≤ c1) (h : impl_OpenStore.f k t b = some (r1, r2, r3, r4, r5, r6)) :
  Calls Try.prog 17 #[.slice A0 t.length c0, .slice A1 b.length c1] w fun e w' => ∃ v0_ v3_ : Value, e = .returned (.tuple #[.agg #[v0_, .int .i64 r2, .string r3, v3_, .int .i64 r5], .int .i64 r6]) ∧ Kd.R Kd.string 9 w' w.heap.size (fun _ => True) v0_ r1 ∧ Kd.R (Kd.int .u8) 5 w' w.heap.size (fun _ => True) v3_ r4 ∧ Below w.heap.size w w' := by
 have hu37 := Try.underlying39
 have hu28 := Try.underlying25
 have HR0 := am_ hr0
 have HC0 := am_ hc0
 have HR1 := am_ hr1
 have HC1 := am_ hc1
 have HB := h0_ w
 unfold impl_OpenStore.f at h
 replace h := bi_ h; obtain ⟨⟨q1, q2, q3, q4, q5⟩, AN, h⟩ := h
 dsimp only at h
 obtain ⟨j, hj⟩ : ∃ j : Int, mn (b.length : Int) 60000 = j := ⟨_, rfl⟩
 rw [hj] at h
 have hj0 : 0 ≤ j ∧ j ≤ (b.length : Int) := by
  unfold mn at hj
  split at hj <;> omega
 replace hj : (if (60000 : Int) < (b.length : Int) then 60000 else (b.length : Int)) = j := hj
 have hj2 : decide (0 ≤ j) = true := decide_eq_true hj0.1
 obtain ⟨i0, hi0, _, hsz0, _⟩ := info_parts info5
 obtain ⟨hcut, hA, hC⟩ := print_take_of (P := Try.prog) (Value.int .u8) 0 22 5 .i64 Try.underlying22 hi0 hsz0 A1 c1 b j hj0.1 hj0.2 HC1.out
 have HRb := am_ (Kd.C_of_reads (h1 := fun _ => rfl) (hA _ (Kd.reads_of_C HR1.out)))
 have HCb := am_ hC
 clear hA hC hi0 hsz0 hj0 hr0 hc0 hr1 hc1
 generalize b.take j.toNat = b' at *
 replace h := bi_ h; obtain ⟨⟨y1, y2, y3, y4, y5⟩, AL, h⟩ := h
 dsimp only at h
 replace h := so6_ h; obtain ⟨rfl, rfl, rfl, rfl, rfl, rfl⟩ := h
 go_enter Try.func17, Try.ntmps17
 go_wp2_with (first | ((with_reducible refine gd_ 4 ?_); refine x39_ 4 ?_; intro g4 hg w1 hbox hb; have B4 := am_ hbox; have G4 := gg_ hg HB; replace HB := ss_ HB hb; clear hb hbox hg) | ((with_reducible refine gq_ 50 19 ?_); refine gc_ 19 Try.func50 (impl_StoreNew.calls k q1 q2 q3 q4 q5 _ AN.out) ?_; rintro e w2 ⟨v0, v3, rfl, ho, hp, hb⟩; refine ⟨_, rfl, ?_⟩; have HO := rlo_ ho HB; have HP := rlo_ hp HB; replace HB := ss_ HB hb; replace B4 := kl_ B4 hb; clear hb ho hp; obtain ⟨Ao, co, eo⟩ := Kd.R_slice HO.out; subst eo; obtain ⟨Ap, cp, ep⟩ := Kd.R_slice HP.out; subst ep) | ((with_reducible refine gd_ 6 ?_); refine x39_ 6 ?_; intro g6 hg w3 hbox hb; have B6 := am_ hbox; have G6 := gg_ hg HB; have N46 := nla_ hg B4; replace HB := ss_ HB hb; replace B4 := kl_ B4 hb; replace HO := rb_ HO hb; replace HP := rb_ HP hb; clear hb hbox hg hj hcut hj2; have hz6 := cz5_ B6))
 go_loopg [7, 8] k (fun kq v7 v8 w' => ∃ (cnt at_ : Int) (l : List ByteArray) (n : Int) (s : ByteArray) (m : List Int) (Ao : Option Addr) (co : Nat) (Ap : Option Addr) (cp : Nat), v7 = .int .i64 cnt ∧ v8 = .int .i64 at_ ∧ Aside0 (impl_OpenStore.l0 kq t b' q5 cnt at_ l n s m = some (y1, y2, y3, y4, y5)) ∧ Aside0 (kq ≤ k) ∧ Aside0 (Kd.R Kd.string 9 w' w.heap.size (fun k_ => k_ ≠ g6) (.slice Ao l.length co) l) ∧ Aside0 (Kd.R (Kd.int .u8) 5 w' w.heap.size (fun k_ => k_ ≠ g6) (.slice Ap m.length cp) m) ∧ Aside0 (w'.heap[g6]? = some (.cells #[.slice Ao l.length co, .int .i64 n, .string s, .slice Ap m.length cp, .int .i64 q5] 39 (0, 0))) ∧ Aside0 (w'.heap[g4]? = some (.cells #[.slice none 0 0, .int .i64 0, .string (⟨#[]⟩ : ByteArray), .slice none 0 0, .int .i64 0] 39 (0, 0))) ∧ Aside0 (Below w.heap.size w w'))
 case atStart => exact ⟨0, 0, q1, q2, q3, q4, Ao, co, Ap, cp, e1_, e1_, AL, ⟨Nat.le_refl _⟩, ⟨Kd.R_mono (Kd.R_far (p := ⟨g6, 4, none⟩) (Kd.R_far (p := ⟨g6, 3, none⟩) (Kd.R_far (p := ⟨g6, 2, none⟩) (Kd.R_far (p := ⟨g6, 1, none⟩) (Kd.R_far (p := ⟨g6, 0, none⟩) (Kd.R_types HO.out B6.out (by decide)) (fun _ hk => hk.2) _) (fun _ hk => hk.2) _) (fun _ hk => hk.2) _) (fun _ hk => hk.2) _) (fun _ hk => hk.2) _) (fun _ h_ => h_.2)⟩, ⟨Kd.R_mono (Kd.R_far (p := ⟨g6, 4, none⟩) (Kd.R_far (p := ⟨g6, 3, none⟩) (Kd.R_far (p := ⟨g6, 2, none⟩) (Kd.R_far (p := ⟨g6, 1, none⟩) (Kd.R_far (p := ⟨g6, 0, none⟩) (Kd.R_types HP.out B6.out (by decide)) (fun _ hk => hk.2) _) (fun _ hk => hk.2) _) (fun _ hk => hk.2) _) (fun _ hk => hk.2) _) (fun _ hk => hk.2) _) (fun _ h_ => h_.2)⟩, ⟨kq_ B6⟩, ⟨kq_ B4⟩, ⟨bw_ HB⟩⟩
 case round =>
  clear AL HO HP B6 B4 HB hz6
  obtain ⟨cnt, at_, l, n, s, m, Ao, co, Ap, cp, rfl, rfl, HA, HK1, HO, HP, B6, B4, HB⟩ := hrel
  cases gk with
  | zero => exact absurd HA.out (by simp [impl_OpenStore.l0])
  | succ k1 =>
   have H := HA.out
   clear HA
   simp only [impl_OpenStore.l0] at H
   replace H := it_ H; obtain ⟨d1, H⟩ | ⟨d1, H⟩ := H
   ·have d1b : decide (at_ < (b'.length : Int)) = true := decide_eq_true d1
    clear d1
    replace H := bi_ H; obtain ⟨⟨g1, g2, g3, gn, g5⟩, AG, H⟩ := H
    dsimp only at H
    replace H := itb_ H; obtain ⟨rfl, H⟩ | ⟨rfl, H⟩ := H
    ·replace H := bi_ H; obtain ⟨⟨z1, z2, z3, z4, z5⟩, AM, H⟩ := H
     dsimp only at H
     replace H := it_ H; obtain ⟨d2, H⟩ | ⟨d2, H⟩ := H
     ·have d2b : (z5 == 0) = true := beq_iff_eq.mpr d2
      have d2c : (z5 != 0) = false := bne_eq_false_iff_eq.mpr d2
      clear d2
      have H' := am_ H
      clear H
      go_wp2_with (first | ((with_reducible refine gq_ 51 27 ?_); refine gc_ 27 Try.func51 (impl_GetCommit.calls k1 _ _ b' at_ g1 g2 g3 gn true _ (cb_ HRb HB) HCb.out AG.out) ?_; rintro e w5 ⟨v, rfl, ho, hb⟩; refine ⟨_, rfl, ?_⟩; have HX := rlo_ ho HB; replace HO := rb_ HO hb; replace HP := rb_ HP hb; replace B4 := kl_ B4 hb; replace B6 := kl_ B6 hb; replace HB := ss_ HB hb; clear hb ho; obtain ⟨Ax, cx, ex⟩ := Kd.R_slice HX.out; subst ex) | ((with_reducible refine gd_ 9 ?_); refine x25_ 9 ?_; intro g9 hg w6 hbox hb; have B9 := am_ hbox; have G9 := gg_ hg HB; have N69 := nla_ hg B6; have N49 := nla_ hg B4; replace HB := ss_ HB hb; replace B4 := kl_ B4 hb; replace B6 := kl_ B6 hb; replace HO := rb_ HO hb; replace HP := rb_ HP hb; replace HX := rb_ HX hb; clear hb hbox hg; have hz9 := cz2_ B9) | ((with_reducible refine gq_ 45 37 ?_); refine gc_ 37 Try.func45 (impl_Store_commit.calls k1 g6 Ao co l n s Ap cp m q5 _ _ t g1 g2 _ _ g3 z1 z2 z3 z4 z5 w _ G6.out (kq_ B6) (kf_ HO B9) (kf_ HP B9) (Kd.C_below HR0.out (bw_ HB)) HC0.out (chf_ HX B9) (cl_ HX) (bw_ HB) AM.out) ?_; rintro e w7 ⟨rfl, A5, c5, A6, c6, ho, hp, hbk, hb, hk⟩; refine ⟨_, rfl, ?_⟩; replace B4 := am_ (blk_kept (kq_ B4) hk (fun hs => hs.elim (fun e => N46.out e) (fun e => (Kd.R_ne HP.out B4.out (by decide)) e))); replace B6 := am_ hbk; replace HB := am_ hb; replace HO := am_ ho; replace HP := am_ hp; clear hb hbk ho hp hk hz9 B9 N69 N49 HX))
      go_roundg k1
      case measure => have := HK1.out; omega
      case rel => exact ⟨wrap64 (cnt + 1), gn, z1, z2, z3, z4, A5, c5, A6, c6, e1_, e1_, H', ⟨by have := HK1.out; omega⟩, HO, HP, B6, B4, HB⟩
     ·have d2b : (z5 == 0) = false := beq_eq_false_iff_ne.mpr d2
      have d2c : (z5 != 0) = true := bne_iff_ne.mpr d2
      clear d2
      replace H := so5_ H; obtain ⟨rfl, rfl, rfl, rfl, rfl⟩ := H
      go_wp2_with (first | ((with_reducible refine gq_ 51 27 ?_); refine gc_ 27 Try.func51 (impl_GetCommit.calls k1 _ _ b' at_ g1 g2 g3 gn true _ (cb_ HRb HB) HCb.out AG.out) ?_; rintro e w5 ⟨v, rfl, ho, hb⟩; refine ⟨_, rfl, ?_⟩; have HX := rlo_ ho HB; replace HO := rb_ HO hb; replace HP := rb_ HP hb; replace B4 := kl_ B4 hb; replace B6 := kl_ B6 hb; replace HB := ss_ HB hb; clear hb ho; obtain ⟨Ax, cx, ex⟩ := Kd.R_slice HX.out; subst ex) | ((with_reducible refine gd_ 9 ?_); refine x25_ 9 ?_; intro g9 hg w6 hbox hb; have B9 := am_ hbox; have G9 := gg_ hg HB; have N69 := nla_ hg B6; have N49 := nla_ hg B4; replace HB := ss_ HB hb; replace B4 := kl_ B4 hb; replace B6 := kl_ B6 hb; replace HO := rb_ HO hb; replace HP := rb_ HP hb; replace HX := rb_ HX hb; clear hb hbox hg; have hz9 := cz2_ B9) | ((with_reducible refine gq_ 45 37 ?_); refine gc_ 37 Try.func45 (impl_Store_commit.calls k1 g6 Ao co l n s Ap cp m q5 _ _ t g1 g2 _ _ g3 z1 z2 z3 z4 z5 w _ G6.out (kq_ B6) (kf_ HO B9) (kf_ HP B9) (Kd.C_below HR0.out (bw_ HB)) HC0.out (chf_ HX B9) (cl_ HX) (bw_ HB) AM.out) ?_; rintro e w7 ⟨rfl, A5, c5, A6, c6, ho, hp, hbk, hb, hk⟩; refine ⟨_, rfl, ?_⟩; replace B4 := am_ (blk_kept (kq_ B4) hk (fun hs => hs.elim (fun e => N46.out e) (fun e => (Kd.R_ne HP.out B4.out (by decide)) e))); replace B6 := am_ hbk; replace HB := am_ hb; replace HO := am_ ho; replace HP := am_ hp; clear hb hbk ho hp hk hz9 B9 N69 N49 HX; have hz6 := cz5_ B6; have hz4 := cz5_ B4; have hn5 := N46.out; have hn6 := N46.out.symm))
      refine bodyPost_ret (results_ct rfl _ _ g4 39 #[.slice A5 z1.length c5, .int .i64 z2, .string z3, .slice A6 z4.length c6, .int .i64 (z4.length : Int)] (0, 0) _ rfl (by exact kq_ B4) Try.underlying39 rfl (by kernel_rfl)) rfl ?_
      exact ⟨_, _, rfl, Kd.R_mono (kf_ ⟨Kd.R_gone HO.out 4 (.int .i64 (z4.length : Int))⟩ ⟨kq_ B4⟩) (fun _ _ => trivial), Kd.R_mono (kf_ ⟨Kd.R_gone HP.out 4 (.int .i64 (z4.length : Int))⟩ ⟨kq_ B4⟩) (fun _ _ => trivial), bw_ HB⟩
    ·replace H := so5_ H; obtain ⟨rfl, rfl, rfl, rfl, rfl⟩ := H
     go_wp2_with (first | ((with_reducible refine gq_ 51 27 ?_); refine gc_ 27 Try.func51 (impl_GetCommit.calls k1 _ _ b' at_ g1 g2 g3 gn false _ (cb_ HRb HB) HCb.out AG.out) ?_; rintro e w5 ⟨v, rfl, ho, hb⟩; refine ⟨_, rfl, ?_⟩; have HX := rlo_ ho HB; replace HO := rb_ HO hb; replace HP := rb_ HP hb; replace B4 := kl_ B4 hb; replace B6 := kl_ B6 hb; replace HB := ss_ HB hb; clear hb ho; obtain ⟨Ax, cx, ex⟩ := Kd.R_slice HX.out; subst ex) | ((with_reducible refine gd_ 9 ?_); refine x25_ 9 ?_; intro g9 hg w6 hbox hb; have B9 := am_ hbox; have G9 := gg_ hg HB; have N69 := nla_ hg B6; have N49 := nla_ hg B4; replace HB := ss_ HB hb; replace B4 := kl_ B4 hb; replace B6 := kl_ B6 hb; replace HO := rb_ HO hb; replace HP := rb_ HP hb; replace HX := rb_ HX hb; clear hb hbox hg; have hz9 := cz2_ B9; have hz6 := cz5_ B6; have hz4 := cz5_ B4; have hn1 := N69.out; have hn2 := N69.out.symm; have hn3 := N49.out; have hn4 := N49.out.symm; have hn5 := N46.out; have hn6 := N46.out.symm))
     refine bodyPost_ret (results_ct rfl _ _ g4 39 #[.slice Ao l.length co, .int .i64 n, .string s, .slice Ap m.length cp, .int .i64 (m.length : Int)] (0, 0) _ rfl (by exact kq_ B4) Try.underlying39 rfl (by kernel_rfl)) rfl ?_
     have HO2 : Aside0 (Kd.R Kd.string 9 ((w6.setCell ⟨g9, 0, none⟩ (.int .i64 g1)).setCell ⟨g9, 1, none⟩ (.string g2)) w.heap.size (fun k_ => k_ ≠ g6) (.slice Ao l.length co) l) := ⟨kf_ HO B9⟩
     have HP2 : Aside0 (Kd.R (Kd.int .u8) 5 ((w6.setCell ⟨g9, 0, none⟩ (.int .i64 g1)).setCell ⟨g9, 1, none⟩ (.string g2)) w.heap.size (fun k_ => k_ ≠ g6) (.slice Ap m.length cp) m) := ⟨kf_ HP B9⟩
     exact ⟨_, _, rfl, Kd.R_mono (kf_ ⟨Kd.R_gone HO2.out 4 (.int .i64 (m.length : Int))⟩ ⟨kq_ B4⟩) (fun _ _ => trivial), Kd.R_mono (kf_ ⟨Kd.R_gone HP2.out 4 (.int .i64 (m.length : Int))⟩ ⟨kq_ B4⟩) (fun _ _ => trivial), bw_ HB⟩
   ·have d1b : decide (at_ < (b'.length : Int)) = false := decide_eq_false d1
    clear d1
    replace H := so5_ H; obtain ⟨rfl, rfl, rfl, rfl, rfl⟩ := H
    have hz6 := cz5_ B6
    have hz4 := cz5_ B4
    have hn5 := N46.out
    have hn6 := N46.out.symm
    go_wp2
    refine bodyPost_ret (results_ct rfl _ _ g4 39 #[.slice Ao l.length co, .int .i64 n, .string s, .slice Ap m.length cp, .int .i64 (m.length : Int)] (0, 0) _ rfl (by exact kq_ B4) Try.underlying39 rfl (by kernel_rfl)) rfl ?_
    exact ⟨_, _, rfl, Kd.R_mono (kf_ ⟨Kd.R_gone HO.out 4 (.int .i64 (m.length : Int))⟩ ⟨kq_ B4⟩) (fun _ _ => trivial), Kd.R_mono (kf_ ⟨Kd.R_gone HP.out 4 (.int .i64 (m.length : Int))⟩ ⟨kq_ B4⟩) (fun _ _ => trivial), bw_ HB⟩
end
def impl_Commit.f (k : Nat) (l : List ByteArray) (n : Int) (s : ByteArray) (b : List Int) (u : Int) (t : List S25) (a : Int) (z : ByteArray) (x : List ByteArray) : Option (List ByteArray × Int × ByteArray × List Int × Int × Int) :=
 (impl_copyStore.f l n s b u).bind fun c => ((impl_StoreOk.f k l n s b u).bind fun q => (if q = true then ((impl_Store_commit.f k c.1 c.2.1 c.2.2.1 c.2.2.2.1 c.2.2.2.2 t a z x).bind fun r => some (r.1, r.2.1, r.2.2.1, r.2.2.2.1, c.2.2.2.2, r.2.2.2.2)) else some (c.1, c.2.1, c.2.2.1, c.2.2.2.1, c.2.2.2.2, 1)))
theorem impl_Commit.calls (k : Nat) (A0 : Option Addr) (c0 : Nat) (l : List ByteArray) (n : Int) (s : ByteArray) (A3 : Option Addr) (c3 : Nat) (b : List Int) (u : Int) (A1 : Option Addr) (c1 : Nat) (t : List S25) (a : Int) (z : ByteArray) (A4 : Option Addr) (c4 : Nat) (x : List ByteArray) (r1 : List ByteArray) (r2 : Int) (r3 : ByteArray) (r4 : List Int) (r5 r6 : Int) (w : World)
  (hr0 : Kd.C Kd.string w A0 l.length l) (hc0 : l.length ≤ c0) (hr3 : Kd.C (Kd.int .u8) w A3 b.length b) (hc3 : b.length ≤ c3) (hT : Kd.C k25 w A1 t.length t) (hT1 : t.length ≤ c1) (hX : Kd.C Kd.string w A4 x.length x) (hX1 : x.length ≤ c4) (h : impl_Commit.f k l n s b u t a z x = some (r1, r2, r3, r4, r5, r6)) :
  Calls Try.prog 15 #[.agg #[.slice A0 l.length c0, .int .i64 n, .string s, .slice A3 b.length c3, .int .i64 u], .slice A1 t.length c1, .agg #[.int .i64 a, .string z], .slice A4 x.length c4] w fun e w' => ∃ v0_ v3_ : Value, e = .returned (.tuple #[.agg #[v0_, .int .i64 r2, .string r3, v3_, .int .i64 r5], .int .i64 r6]) ∧ Kd.R Kd.string 9 w' w.heap.size (fun _ => True) v0_ r1 ∧ Kd.R (Kd.int .u8) 5 w' w.heap.size (fun _ => True) v3_ r4 ∧ Below w.heap.size w w' := by
 have hu37 := Try.underlying39
 have hu28 := Try.underlying25
 have HR0 := am_ hr0
 have HC0 := am_ hc0
 have HR3 := am_ hr3
 have HC3 := am_ hc3
 have HT := am_ hT
 have HT1 := am_ hT1
 have HX := am_ hX
 have HX1 := am_ hX1
 have HB := h0_ w
 unfold impl_Commit.f at h
 replace h := bi_ h; obtain ⟨⟨q1, q2, q3, q4, q5⟩, AC, h⟩ := h
 dsimp only at h
 replace h := bi_ h; obtain ⟨q, AO, h⟩ := h
 clear hr0 hc0 hr3 hc3 hT hT1 hX hX1
 cases q with
 | false =>
  rw [if_neg (by simp)] at h
  replace h := so6_ h; obtain ⟨rfl, rfl, rfl, rfl, rfl, rfl⟩ := h
  go_enter Try.func15, Try.ntmps15
  go_wp2_with (first | ((with_reducible refine gd_ 4 ?_); refine bx_ 4 39 #[.slice A0 l.length c0, .int .i64 n, .string s, .slice A3 b.length c3, .int .i64 u] ?_; intro g4 hg w1 hbox hb; have B4 := am_ hbox; have G4 := gg_ hg HB; replace HB := ss_ HB hb; clear hb hbox hg) | ((with_reducible refine gd_ 6 ?_); refine bx_ 6 25 #[.int .i64 a, .string z] ?_; intro g6 hg w2 hbox hb; have B6 := am_ hbox; have G6 := gg_ hg HB; replace HB := ss_ HB hb; replace B4 := kl_ B4 hb; clear hb hbox hg) | ((with_reducible refine gd_ 8 ?_); refine x39_ 8 ?_; intro g8 hg w3 hbox hb; have B8 := am_ hbox; have G8 := gg_ hg HB; replace HB := ss_ HB hb; replace B4 := kl_ B4 hb; replace B6 := kl_ B6 hb; clear hb hbox hg; have hz4 := cz5_ B4) | ((with_reducible refine gq_ 44 13 ?_); refine gc_ 13 Try.func44 (impl_copyStore.calls _ _ l n s _ _ b u q1 q2 q3 q4 q5 _ (cb_ HR0 HB) HC0.out (cb_ HR3 HB) HC3.out AC.out) ?_; rintro e w4 ⟨v0, v3, rfl, ho, hp, hb⟩; refine ⟨_, rfl, ?_⟩; have HO := rlo_ ho HB; have HP := rlo_ hp HB; replace HB := ss_ HB hb; replace B4 := kl_ B4 hb; replace B6 := kl_ B6 hb; replace B8 := kl_ B8 hb; clear hb ho hp hz4; obtain ⟨Ao, co, eo⟩ := Kd.R_slice HO.out; subst eo; obtain ⟨Ap, cp, ep⟩ := Kd.R_slice HP.out; subst ep) | ((with_reducible refine gd_ 10 ?_); refine x39_ 10 ?_; intro g10 hg w5 hbox hb; have B10 := am_ hbox; have G10 := gg_ hg HB; have N4 := nla_ hg B4; have N6 := nla_ hg B6; have N8 := nla_ hg B8; replace HB := ss_ HB hb; replace B4 := kl_ B4 hb; replace B6 := kl_ B6 hb; replace B8 := kl_ B8 hb; replace HO := rb_ HO hb; replace HP := rb_ HP hb; clear hb hbox hg; have hz10 := cz5_ B10; have hz4 := cz5_ B4; have hn4 := N4.out; have hn4' := N4.out.symm) | ((with_reducible refine gq_ 18 15 ?_); refine gc_ 15 Try.func18 (impl_StoreOk.calls k _ _ l n s _ _ b u false _ (Kd.C_below HR0.out (bw_ HB)) HC0.out (Kd.C_below HR3.out (bw_ HB)) HC3.out AO.out) ?_; rintro e w6 ⟨rfl, hb⟩; refine ⟨_, rfl, ?_⟩; replace HO := rbf_ HO B10 hb; replace HP := rbf_ HP B10 hb; replace HB := ss_ HB hb; replace B6 := kp_ B6 hb; replace B8 := kp_ B8 hb; replace B10 := kp_ B10 hb; clear hb hz10 hz4 hn4 hn4'; have hz6 := cz2_ B6; have hz10 := cz5_ B10; have hz8 := cz5_ B8; have hn8 := N8.out; have hn8' := N8.out.symm))
  refine bodyPost_ret (results_ct rfl _ _ g8 39 #[.slice Ao q1.length co, .int .i64 q2, .string q3, .slice Ap q4.length cp, .int .i64 q5] (0, 0) _ rfl (by exact kq_ B8) Try.underlying39 rfl (by kernel_rfl)) rfl ?_
  exact ⟨_, _, rfl, kf_ HO B8, kf_ HP B8, bw_ HB⟩
 | true =>
  rw [if_pos rfl] at h
  replace h := bi_ h; obtain ⟨⟨y1, y2, y3, y4, y5⟩, AM, h⟩ := h
  dsimp only at h AM
  replace h := so6_ h; obtain ⟨rfl, rfl, rfl, rfl, rfl, rfl⟩ := h
  go_enter Try.func15, Try.ntmps15
  go_wp2_with (first | ((with_reducible refine gd_ 4 ?_); refine bx_ 4 39 #[.slice A0 l.length c0, .int .i64 n, .string s, .slice A3 b.length c3, .int .i64 u] ?_; intro g4 hg w1 hbox hb; have B4 := am_ hbox; have G4 := gg_ hg HB; replace HB := ss_ HB hb; clear hb hbox hg) | ((with_reducible refine gd_ 6 ?_); refine bx_ 6 25 #[.int .i64 a, .string z] ?_; intro g6 hg w2 hbox hb; have B6 := am_ hbox; have G6 := gg_ hg HB; replace HB := ss_ HB hb; replace B4 := kl_ B4 hb; clear hb hbox hg) | ((with_reducible refine gd_ 8 ?_); refine x39_ 8 ?_; intro g8 hg w3 hbox hb; have B8 := am_ hbox; have G8 := gg_ hg HB; replace HB := ss_ HB hb; replace B4 := kl_ B4 hb; replace B6 := kl_ B6 hb; clear hb hbox hg; have hz4 := cz5_ B4) | ((with_reducible refine gq_ 44 13 ?_); refine gc_ 13 Try.func44 (impl_copyStore.calls _ _ l n s _ _ b u q1 q2 q3 q4 q5 _ (cb_ HR0 HB) HC0.out (cb_ HR3 HB) HC3.out AC.out) ?_; rintro e w4 ⟨v0, v3, rfl, ho, hp, hb⟩; refine ⟨_, rfl, ?_⟩; have HO := rlo_ ho HB; have HP := rlo_ hp HB; replace HB := ss_ HB hb; replace B4 := kl_ B4 hb; replace B6 := kl_ B6 hb; replace B8 := kl_ B8 hb; clear hb ho hp hz4; obtain ⟨Ao, co, eo⟩ := Kd.R_slice HO.out; subst eo; obtain ⟨Ap, cp, ep⟩ := Kd.R_slice HP.out; subst ep) | ((with_reducible refine gd_ 10 ?_); refine x39_ 10 ?_; intro g10 hg w5 hbox hb; have B10 := am_ hbox; have G10 := gg_ hg HB; have N4 := nla_ hg B4; have N6 := nla_ hg B6; have N8 := nla_ hg B8; replace HB := ss_ HB hb; replace B4 := kl_ B4 hb; replace B6 := kl_ B6 hb; replace B8 := kl_ B8 hb; replace HO := rb_ HO hb; replace HP := rb_ HP hb; clear hb hbox hg; have hz10 := cz5_ B10; have hz4 := cz5_ B4; have hn4 := N4.out; have hn4' := N4.out.symm) | ((with_reducible refine gq_ 18 15 ?_); refine gc_ 15 Try.func18 (impl_StoreOk.calls k _ _ l n s _ _ b u true _ (Kd.C_below HR0.out (bw_ HB)) HC0.out (Kd.C_below HR3.out (bw_ HB)) HC3.out AO.out) ?_; rintro e w6 ⟨rfl, hb⟩; refine ⟨_, rfl, ?_⟩; replace HO := rbf_ HO B10 hb; replace HP := rbf_ HP B10 hb; replace HB := ss_ HB hb; replace B6 := kp_ B6 hb; replace B8 := kp_ B8 hb; replace B10 := kp_ B10 hb; clear hb hz10 hz4 hn4 hn4'; have hz6 := cz2_ B6; have hz10 := cz5_ B10; have hz8 := cz5_ B8; have hn8 := N8.out; have hn8' := N8.out.symm) | ((with_reducible refine gq_ 45 21 ?_); refine gc_ 21 Try.func45 (impl_Store_commit.calls k g10 Ao co q1 q2 q3 Ap cp q4 q5 _ _ t a z _ _ x y1 y2 y3 y4 y5 w _ G10.out B10.out (Kd.R_mono (Kd.R_types HO.out B10.out (by decide)) (fun _ h_ => h_.2)) (Kd.R_mono (Kd.R_types HP.out B10.out (by decide)) (fun _ h_ => h_.2)) (cb_ HT HB) HT1.out (cb_ HX HB) HX1.out HB.out AM.out) ?_; rintro e w7 ⟨rfl, A5, c5, A6, c6, ho, hp, hbk, hb, hk⟩; refine ⟨_, rfl, ?_⟩; replace B8 := am_ (blk_kept B8.out hk (fun hs => hs.elim (fun e => N8.out e) (fun e => (Kd.R_ne HP.out B8.out (by decide)) e))); replace B10 := am_ hbk; replace HB := am_ hb; replace HO := am_ ho; replace HP := am_ hp; clear hb hbk ho hp hk hz6 hz10 hz8 B6 N6; have hz10 := cz5_ B10; have hz8 := cz5_ B8))
  refine bodyPost_ret (results_ct rfl _ _ g8 39 #[.slice A5 y1.length c5, .int .i64 y2, .string y3, .slice A6 y4.length c6, .int .i64 q5] (0, 0) _ rfl (by exact kq_ B8) Try.underlying39 rfl (by kernel_rfl)) rfl ?_
  exact ⟨_, _, rfl, Kd.R_mono (kf_ HO B8) (fun _ _ => trivial), Kd.R_mono (kf_ HP B8) (fun _ _ => trivial), bw_ HB⟩
section
attribute [local go_sem high] eqA25
def laws_FnStored.j0 : Nat → List (S25) → Int → Int → Bool → List ByteArray → Int → ByteArray → List Int → Int → Int → ByteArray → List ByteArray → Int → ByteArray → List Int → Int → Option (Bool)
 | 0, _, _, _, _, _, _, _, _, _, _, _, _, _, _, _, _ => none
 | k + 1, x4, x8, x10, x44, x20000, x20001, x20002, x20003, x20004, x21000, x21001, x32000, x32001, x32002, x32003, x32004 => if x44 = true then (if x8 = x10 then (if (x32003.length : Int) = (x20003.length : Int) then ((laws_sameTexts.f k x32000 x20000).bind fun t43 => (some t43)) else (none)) else (none)) else ((some (([(⟨x21000, x21001⟩ : S25)] : List (S25)) : List (S25))).bind fun y44 => (if y44.length + x4.length < 5864062014805 then ((impl_OpenStore.f k (y44 ++ x4) x32003).bind fun bt50 => ((impl_StoreOk.f k x32000 x32001 x32002 x32003 x32004).bind fun t61 => (if t61 = true then (if (x32001 == x21000 && (x32002.toList == x21001.toList)) = true then (if (x32003.length : Int) > (x20003.length : Int) then (if bt50.2.2.2.2.2 > 0 then ((laws_begins.f k bt50.1 x32000).bind fun t62 => (some t62)) else (if (x20003.length : Int) > 0 then ((laws_begins.f k bt50.1 x32000).bind fun t63 => (some t63)) else (none))) else (none)) else (none)) else (none)))) else (none)))
def laws_FnStored.f (k : Nat) (l0 : List Int) : Option (Bool) := (laws_big.f l0).bind fun t1 => (if t1 = true then (some true) else ((spec_DrawCommit.f k l0).bind fun bt2 => ((impl_Commit.f k bt2.1 bt2.2.1 bt2.2.2.1 bt2.2.2.2.1 bt2.2.2.2.2.1 bt2.2.2.2.2.2.1 bt2.2.2.2.2.2.2.1 bt2.2.2.2.2.2.2.2.1 bt2.2.2.2.2.2.2.2.2).bind fun bt21 => ((spec_Commit.f k bt2.1 bt2.2.1 bt2.2.2.1 bt2.2.2.2.1 bt2.2.2.2.2.1 bt2.2.2.2.2.2.1 bt2.2.2.2.2.2.2.1 bt2.2.2.2.2.2.2.2.1 bt2.2.2.2.2.2.2.2.2).bind fun bt32 => (if bt21.2.2.2.2.2 = bt32.2.2.2.2.2 then (laws_FnStored.j0 k bt2.2.2.2.2.2.1 bt21.2.2.2.2.2 bt32.2.2.2.2.2 (bt21.2.2.2.2.2 != 0) bt2.1 bt2.2.1 bt2.2.2.1 bt2.2.2.2.1 bt2.2.2.2.2.1 bt2.2.2.2.2.2.2.1 bt2.2.2.2.2.2.2.2.1 bt21.1 bt21.2.1 bt21.2.2.1 bt21.2.2.2.1 bt21.2.2.2.2.1) else (laws_FnStored.j0 k bt2.2.2.2.2.2.1 bt21.2.2.2.2.2 bt32.2.2.2.2.2 true bt2.1 bt2.2.1 bt2.2.2.1 bt2.2.2.2.1 bt2.2.2.2.2.1 bt2.2.2.2.2.2.2.1 bt2.2.2.2.2.2.2.2.1 bt21.1 bt21.2.1 bt21.2.2.1 bt21.2.2.2.1 bt21.2.2.2.2.1))))))
def laws_FnStored.T8 : Bool × List (List Nat × List Nat) := (true, [([], []), ([0], [0]), ([], []), ([1, 2], [1, 2]), ([], []), ([4], [4]), ([3, 5, 3], [3, 5]), ([6], [6]), ([7], [7]), ([7], [7]), ([], []), ([10, 8, 6, 0, 1, 2, 3, 4, 5, 6, 7, 8, 10], [8, 10]), ([9, 11, 0, 1, 2, 3, 4, 5, 6, 7, 8, 9, 10, 11], [9])])
def laws_FnStored.B8 : List Nat := [0, 1, 0, 7, 0, 16, 63, 127, 255, 255, 0, 1535, 4095]
theorem laws_FnStored.tab8 : rtab .any (opsOf Try.f4 8) = laws_FnStored.T8 := by kernel_rfl
theorem laws_FnStored.bits8 : waitsOk laws_FnStored.T8.2 laws_FnStored.B8 = true := by kernel_rfl
theorem laws_FnStored.calls (k : Nat) (A0 : Option Addr) (c0 : Nat) (l0 : List Int) (r : Bool) (w : World) (hr0 : Kd.C (Kd.int .u8) w A0 l0.length l0) (hc0 : l0.length ≤ c0) (h : laws_FnStored.f k l0 = some r) :
  Calls Try.prog 4 #[.slice A0 l0.length c0] w fun e w' => e = .returned (.bool r) ∧ Below w.heap.size w w' := by
 have hu39 := Try.underlying39
 have hu25 := Try.underlying25
 have HR0 := am_ hr0
 have HC0 := am_ hc0
 clear hr0 hc0
 have HB := h0_ w
 have H : ((laws_big.f l0).bind fun t1 => (if t1 = true then (some true) else ((spec_DrawCommit.f k l0).bind fun bt2 => ((impl_Commit.f k bt2.1 bt2.2.1 bt2.2.2.1 bt2.2.2.2.1 bt2.2.2.2.2.1 bt2.2.2.2.2.2.1 bt2.2.2.2.2.2.2.1 bt2.2.2.2.2.2.2.2.1 bt2.2.2.2.2.2.2.2.2).bind fun bt21 => ((spec_Commit.f k bt2.1 bt2.2.1 bt2.2.2.1 bt2.2.2.2.1 bt2.2.2.2.2.1 bt2.2.2.2.2.2.1 bt2.2.2.2.2.2.2.1 bt2.2.2.2.2.2.2.2.1 bt2.2.2.2.2.2.2.2.2).bind fun bt32 => (if bt21.2.2.2.2.2 = bt32.2.2.2.2.2 then (laws_FnStored.j0 k bt2.2.2.2.2.2.1 bt21.2.2.2.2.2 bt32.2.2.2.2.2 (bt21.2.2.2.2.2 != 0) bt2.1 bt2.2.1 bt2.2.2.1 bt2.2.2.2.1 bt2.2.2.2.2.1 bt2.2.2.2.2.2.2.1 bt2.2.2.2.2.2.2.2.1 bt21.1 bt21.2.1 bt21.2.2.1 bt21.2.2.2.1 bt21.2.2.2.2.1) else (laws_FnStored.j0 k bt2.2.2.2.2.2.1 bt21.2.2.2.2.2 bt32.2.2.2.2.2 true bt2.1 bt2.2.1 bt2.2.2.1 bt2.2.2.2.1 bt2.2.2.2.2.1 bt2.2.2.2.2.2.2.1 bt2.2.2.2.2.2.2.2.1 bt21.1 bt21.2.1 bt21.2.2.1 bt21.2.2.2.1 bt21.2.2.2.2.1))))))) = some r := h
 clear h
 replace H := bi_ H; obtain ⟨t1, A2, H⟩ := H
 replace H := itb_ H; obtain ⟨rfl, H⟩ | ⟨rfl, H⟩ := H
 ·obtain rfl := Option.some.inj H
  go_enter Try.func4, Try.ntmps4
  go_wp2_with (first | ((with_reducible refine gq_ 5 14 ?_); refine gc_ 14 Try.func5 (laws_big.calls _ _ l0 true _ (cr_ HR0.out) HC0.out A2.out) ?_; rintro e w' ⟨rfl, ⟨nd, rfl⟩⟩; refine ⟨_, rfl, ?_⟩))
  go_ret
  exact ⟨e2_, bw_ HB⟩
 ·replace H := bi_ H; obtain ⟨⟨t602, t5, t6, t7, t10, t11, t14, t15, t16⟩, A4, H⟩ := H
  dsimp only at H
  replace H := bi_ H; obtain ⟨⟨t21, t24, t25, t26, t29, t30⟩, A5, H⟩ := H
  dsimp only at H
  replace H := bi_ H; obtain ⟨⟨t32, t35, t36, t37, t40, t41⟩, A6, H⟩ := H
  dsimp only at H
  have HC7 := am_ H
  clear H
  go_enter Try.func4, Try.ntmps4
  go_upto_region 6 with (first | ((with_reducible refine gq_ 5 14 ?_); refine gc_ 14 Try.func5 (laws_big.calls _ _ l0 false _ (cr_ HR0.out) HC0.out A2.out) ?_; rintro e w' ⟨rfl, ⟨nd, rfl⟩⟩; refine ⟨_, rfl, ?_⟩) | ((with_reducible refine gq_ 14 17 ?_); refine gc_ 17 Try.func14 (spec_DrawCommit.calls k _ _ l0 t602 t5 t6 t7 t10 t11 t14 t15 t16 _ (cr_ HR0.out) HC0.out A4.out) ?_; rintro e w8 ⟨v3, v8, v12, v17, rfl, ho0, ho1, ho2, ho3, hb⟩; refine ⟨_, rfl, ?_⟩; have HO4 := rlo_ ho0 HB; have HO9 := rlo_ ho1 HB; have HO13 := rlo_ ho2 HB; have HO18 := rlo_ ho3 HB; replace HB := ss_ HB hb; clear hb ho0 ho1 ho2 ho3) | ((with_reducible refine gd_ 3 ?_); (try (refine gate_guard (by rfl) ?_; dsimp only)); refine x39_ 3 ?_; intro gb19 hg w9 hbox hb; replace HO4 := rb_ HO4 hb; replace HO9 := rb_ HO9 hb; replace HO13 := rb_ HO13 hb; replace HO18 := rb_ HO18 hb; have BK19 := am_ hbox; have GW19 := gg_ hg HB; have GE19 := GW19; replace HB := ss_ HB hb; clear hb hbox hg) | ((with_reducible refine gd_ 5 ?_); (try (refine gate_guard (by rfl) ?_; dsimp only)); refine x25_ 5 ?_; intro gb20 hg w10 hbox hb; replace HO4 := rb_ HO4 hb; replace HO9 := rb_ HO9 hb; replace HO13 := am_ (Kd.R_below (Kd.R_elderB (kr_ HO13.out) gb20 (Nat.le_of_eq hg.symm)) hb); replace HO18 := rb_ HO18 hb; have BK20 := am_ hbox; have GW20 := gg_ hg HB; have GE20 := GW20; replace HB := ss_ HB hb; have NB19_20 := nla_ hg BK19; have NB20_19 := nga_ hg BK19; replace BK19 := kl_ BK19 hb; clear hb hbox hg; obtain ⟨Ao11, co11, eo11⟩ := Kd.R_slice HO4.out; subst eo11; have hnb12 := NB19_20.out; have hnc12 := NB20_19.out; have hz13 := cz5_ BK19; obtain ⟨Ao14, co14, eo14⟩ := Kd.R_slice HO9.out; subst eo14; have hz15 := cz2_ BK20; obtain ⟨Ao16, co16, eo16⟩ := Kd.R_slice HO13.out; subst eo16; obtain ⟨Ao17, co17, eo17⟩ := Kd.R_slice HO18.out; subst eo17) | ((with_reducible refine gk_ 15 ?_); refine gl_ 27 Try.func15 #[.agg #[.slice Ao11 t602.length co11, .int .i64 t5, .string t6, .slice Ao14 t7.length co14, .int .i64 t10], .slice Ao16 t11.length co16, .agg #[.int .i64 t14, .string t15], .slice Ao17 t16.length co17] ?_; (with_reducible refine (impl_Commit.calls k _ _ t602 t5 t6 _ _ t7 t10 _ _ t11 t14 t15 _ _ t16 t21 t24 t25 t26 t29 t30 _ ?side1 ?side2 ?side3 ?side4 ?side5 ?side6 ?side7 ?side8 A5.out).mono ?_); (case side1 => refine (Kd.R_reads' (e := 9) (base := w.heap.size) (ok := fun k_ => some k_ ≠ (.slice Ao17 t16.length co17 : Value).ownBlock) (n := t602.length) (c := co11) ?_).2.2; exact (kr_ ((Kd.R_mono (Kd.R_mono (Kd.R_far (p := ⟨gb20, 1, none⟩) (Kd.R_far (p := ⟨gb20, 0, none⟩) (Kd.R_far (p := ⟨gb19, 4, none⟩) (Kd.R_far (p := ⟨gb19, 3, none⟩) (Kd.R_far (p := ⟨gb19, 2, none⟩) (Kd.R_far (p := ⟨gb19, 1, none⟩) (Kd.R_far (p := ⟨gb19, 0, none⟩) (Kd.R_types (Kd.R_types HO4.out BK19.out (by decide)) BK20.out (by decide)) (fun _ hk => hk.1.2) (.slice Ao11 t602.length co11)) (fun _ hk => hk.1.2) (.int .i64 t5)) (fun _ hk => hk.1.2) (.string t6)) (fun _ hk => hk.1.2) (.slice Ao14 t7.length co14)) (fun _ hk => hk.1.2) (.int .i64 t10)) (fun _ hk => hk.2) (.int .i64 t14)) (fun _ hk => hk.2) (.string t15)) (fun _ h_ => h_.1)) (fun _ h_ => h_.1))))); (case side2 => exact (cl_ HO4)); (case side3 => refine (Kd.R_reads' (e := 5) (base := w.heap.size) (ok := fun k_ => True) (n := t7.length) (c := co14) ?_).2.2; exact (kr_ ((Kd.R_mono (Kd.R_mono (Kd.R_far (p := ⟨gb20, 1, none⟩) (Kd.R_far (p := ⟨gb20, 0, none⟩) (Kd.R_far (p := ⟨gb19, 4, none⟩) (Kd.R_far (p := ⟨gb19, 3, none⟩) (Kd.R_far (p := ⟨gb19, 2, none⟩) (Kd.R_far (p := ⟨gb19, 1, none⟩) (Kd.R_far (p := ⟨gb19, 0, none⟩) (Kd.R_types (Kd.R_types HO9.out BK19.out (by decide)) BK20.out (by decide)) (fun _ hk => hk.1.2) (.slice Ao11 t602.length co11)) (fun _ hk => hk.1.2) (.int .i64 t5)) (fun _ hk => hk.1.2) (.string t6)) (fun _ hk => hk.1.2) (.slice Ao14 t7.length co14)) (fun _ hk => hk.1.2) (.int .i64 t10)) (fun _ hk => hk.2) (.int .i64 t14)) (fun _ hk => hk.2) (.string t15)) (fun _ h_ => h_.1)) (fun _ h_ => h_.1))))); (case side4 => exact (cl_ HO9)); (case side5 => refine (Kd.R_reads' (e := 25) (base := w.heap.size) (ok := fun k_ => (True ∧ k_ ≠ gb20)) (n := t11.length) (c := co16) ?_).2.2; exact (kr_ ((Kd.R_mono (Kd.R_mono (Kd.R_far (p := ⟨gb20, 1, none⟩) (Kd.R_far (p := ⟨gb20, 0, none⟩) (Kd.R_far (p := ⟨gb19, 4, none⟩) (Kd.R_far (p := ⟨gb19, 3, none⟩) (Kd.R_far (p := ⟨gb19, 2, none⟩) (Kd.R_far (p := ⟨gb19, 1, none⟩) (Kd.R_far (p := ⟨gb19, 0, none⟩) (Kd.R_mono (Kd.R_types HO13.out BK19.out (by decide)) (fun k_ hk => (⟨hk, hk.1.2⟩ : _ ∧ k_ ≠ gb20))) (fun _ hk => hk.1.2) (.slice Ao11 t602.length co11)) (fun _ hk => hk.1.2) (.int .i64 t5)) (fun _ hk => hk.1.2) (.string t6)) (fun _ hk => hk.1.2) (.slice Ao14 t7.length co14)) (fun _ hk => hk.1.2) (.int .i64 t10)) (fun _ hk => hk.2) (.int .i64 t14)) (fun _ hk => hk.2) (.string t15)) (fun _ h_ => h_.1)) (fun _ h_ => h_.1))))); (case side6 => exact (cl_ HO13)); (case side7 => refine (Kd.R_reads' (e := 9) (base := w.heap.size) (ok := fun k_ => some k_ ≠ (.slice Ao11 t602.length co11 : Value).ownBlock) (n := t16.length) (c := co17) ?_).2.2; exact (kr_ ((Kd.R_mono (Kd.R_mono (Kd.R_far (p := ⟨gb20, 1, none⟩) (Kd.R_far (p := ⟨gb20, 0, none⟩) (Kd.R_far (p := ⟨gb19, 4, none⟩) (Kd.R_far (p := ⟨gb19, 3, none⟩) (Kd.R_far (p := ⟨gb19, 2, none⟩) (Kd.R_far (p := ⟨gb19, 1, none⟩) (Kd.R_far (p := ⟨gb19, 0, none⟩) (Kd.R_types (Kd.R_types HO18.out BK19.out (by decide)) BK20.out (by decide)) (fun _ hk => hk.1.2) (.slice Ao11 t602.length co11)) (fun _ hk => hk.1.2) (.int .i64 t5)) (fun _ hk => hk.1.2) (.string t6)) (fun _ hk => hk.1.2) (.slice Ao14 t7.length co14)) (fun _ hk => hk.1.2) (.int .i64 t10)) (fun _ hk => hk.2) (.int .i64 t14)) (fun _ hk => hk.2) (.string t15)) (fun _ h_ => h_.1)) (fun _ h_ => h_.1))))); (case side8 => exact (cl_ HO18)); rintro e w18 ⟨v22, v27, rfl, ho0, ho1, hb⟩; refine ⟨_, rfl, ?_⟩; replace HO13 := am_ (Kd.R_below (kr_ ((Kd.R_mono (Kd.R_mono (Kd.R_far (p := ⟨gb20, 1, none⟩) (Kd.R_far (p := ⟨gb20, 0, none⟩) (Kd.R_far (p := ⟨gb19, 4, none⟩) (Kd.R_far (p := ⟨gb19, 3, none⟩) (Kd.R_far (p := ⟨gb19, 2, none⟩) (Kd.R_far (p := ⟨gb19, 1, none⟩) (Kd.R_far (p := ⟨gb19, 0, none⟩) (Kd.R_mono (Kd.R_types HO13.out BK19.out (by decide)) (fun k_ hk => (⟨hk, hk.1.2⟩ : _ ∧ k_ ≠ gb20))) (fun _ hk => hk.1.2) (.slice Ao11 t602.length co11)) (fun _ hk => hk.1.2) (.int .i64 t5)) (fun _ hk => hk.1.2) (.string t6)) (fun _ hk => hk.1.2) (.slice Ao14 t7.length co14)) (fun _ hk => hk.1.2) (.int .i64 t10)) (fun _ hk => hk.2) (.int .i64 t14)) (fun _ hk => hk.2) (.string t15)) (fun _ h_ => h_.1)) (fun _ h_ => h_.1)))) hb); have HO23 := am_ (Kd.R_lower (Kd.R_new' (Kd.R_new' ho0 (Kd.R_lt (kr_ ((Kd.R_mono (Kd.R_mono (Kd.R_far (p := ⟨gb20, 1, none⟩) (Kd.R_far (p := ⟨gb20, 0, none⟩) (Kd.R_far (p := ⟨gb19, 4, none⟩) (Kd.R_far (p := ⟨gb19, 3, none⟩) (Kd.R_far (p := ⟨gb19, 2, none⟩) (Kd.R_far (p := ⟨gb19, 1, none⟩) (Kd.R_far (p := ⟨gb19, 0, none⟩) (Kd.R_types (Kd.R_types HO4.out BK19.out (by decide)) BK20.out (by decide)) (fun _ hk => hk.1.2) (.slice Ao11 t602.length co11)) (fun _ hk => hk.1.2) (.int .i64 t5)) (fun _ hk => hk.1.2) (.string t6)) (fun _ hk => hk.1.2) (.slice Ao14 t7.length co14)) (fun _ hk => hk.1.2) (.int .i64 t10)) (fun _ hk => hk.2) (.int .i64 t14)) (fun _ hk => hk.2) (.string t15)) (fun _ h_ => h_.1)) (fun _ h_ => h_.1)))))) (Kd.R_lt (kr_ ((Kd.R_mono (Kd.R_mono (Kd.R_far (p := ⟨gb20, 1, none⟩) (Kd.R_far (p := ⟨gb20, 0, none⟩) (Kd.R_far (p := ⟨gb19, 4, none⟩) (Kd.R_far (p := ⟨gb19, 3, none⟩) (Kd.R_far (p := ⟨gb19, 2, none⟩) (Kd.R_far (p := ⟨gb19, 1, none⟩) (Kd.R_far (p := ⟨gb19, 0, none⟩) (Kd.R_types (Kd.R_types HO18.out BK19.out (by decide)) BK20.out (by decide)) (fun _ hk => hk.1.2) (.slice Ao11 t602.length co11)) (fun _ hk => hk.1.2) (.int .i64 t5)) (fun _ hk => hk.1.2) (.string t6)) (fun _ hk => hk.1.2) (.slice Ao14 t7.length co14)) (fun _ hk => hk.1.2) (.int .i64 t10)) (fun _ hk => hk.2) (.int .i64 t14)) (fun _ hk => hk.2) (.string t15)) (fun _ h_ => h_.1)) (fun _ h_ => h_.1)))))) (sz_ HB)); replace HO4 := am_ (Kd.R_elder' (kr_ ((Kd.R_mono (Kd.R_mono (Kd.R_far (p := ⟨gb20, 1, none⟩) (Kd.R_far (p := ⟨gb20, 0, none⟩) (Kd.R_far (p := ⟨gb19, 4, none⟩) (Kd.R_far (p := ⟨gb19, 3, none⟩) (Kd.R_far (p := ⟨gb19, 2, none⟩) (Kd.R_far (p := ⟨gb19, 1, none⟩) (Kd.R_far (p := ⟨gb19, 0, none⟩) (Kd.R_types (Kd.R_types HO4.out BK19.out (by decide)) BK20.out (by decide)) (fun _ hk => hk.1.2) (.slice Ao11 t602.length co11)) (fun _ hk => hk.1.2) (.int .i64 t5)) (fun _ hk => hk.1.2) (.string t6)) (fun _ hk => hk.1.2) (.slice Ao14 t7.length co14)) (fun _ hk => hk.1.2) (.int .i64 t10)) (fun _ hk => hk.2) (.int .i64 t14)) (fun _ hk => hk.2) (.string t15)) (fun _ h_ => h_.1)) (fun _ h_ => h_.1)))) (Kd.R_base ho0) hb); replace HO18 := am_ (Kd.R_elder' (kr_ ((Kd.R_mono (Kd.R_mono (Kd.R_far (p := ⟨gb20, 1, none⟩) (Kd.R_far (p := ⟨gb20, 0, none⟩) (Kd.R_far (p := ⟨gb19, 4, none⟩) (Kd.R_far (p := ⟨gb19, 3, none⟩) (Kd.R_far (p := ⟨gb19, 2, none⟩) (Kd.R_far (p := ⟨gb19, 1, none⟩) (Kd.R_far (p := ⟨gb19, 0, none⟩) (Kd.R_types (Kd.R_types HO18.out BK19.out (by decide)) BK20.out (by decide)) (fun _ hk => hk.1.2) (.slice Ao11 t602.length co11)) (fun _ hk => hk.1.2) (.int .i64 t5)) (fun _ hk => hk.1.2) (.string t6)) (fun _ hk => hk.1.2) (.slice Ao14 t7.length co14)) (fun _ hk => hk.1.2) (.int .i64 t10)) (fun _ hk => hk.2) (.int .i64 t14)) (fun _ hk => hk.2) (.string t15)) (fun _ h_ => h_.1)) (fun _ h_ => h_.1)))) (Kd.R_base ho0) hb); have HO28 := am_ (Kd.R_lower (Kd.R_new' ho1 (Kd.R_lt (kr_ ((Kd.R_mono (Kd.R_mono (Kd.R_far (p := ⟨gb20, 1, none⟩) (Kd.R_far (p := ⟨gb20, 0, none⟩) (Kd.R_far (p := ⟨gb19, 4, none⟩) (Kd.R_far (p := ⟨gb19, 3, none⟩) (Kd.R_far (p := ⟨gb19, 2, none⟩) (Kd.R_far (p := ⟨gb19, 1, none⟩) (Kd.R_far (p := ⟨gb19, 0, none⟩) (Kd.R_types (Kd.R_types HO9.out BK19.out (by decide)) BK20.out (by decide)) (fun _ hk => hk.1.2) (.slice Ao11 t602.length co11)) (fun _ hk => hk.1.2) (.int .i64 t5)) (fun _ hk => hk.1.2) (.string t6)) (fun _ hk => hk.1.2) (.slice Ao14 t7.length co14)) (fun _ hk => hk.1.2) (.int .i64 t10)) (fun _ hk => hk.2) (.int .i64 t14)) (fun _ hk => hk.2) (.string t15)) (fun _ h_ => h_.1)) (fun _ h_ => h_.1)))))) (sz_ HB)); replace HO9 := am_ (Kd.R_elder' (kr_ ((Kd.R_mono (Kd.R_mono (Kd.R_far (p := ⟨gb20, 1, none⟩) (Kd.R_far (p := ⟨gb20, 0, none⟩) (Kd.R_far (p := ⟨gb19, 4, none⟩) (Kd.R_far (p := ⟨gb19, 3, none⟩) (Kd.R_far (p := ⟨gb19, 2, none⟩) (Kd.R_far (p := ⟨gb19, 1, none⟩) (Kd.R_far (p := ⟨gb19, 0, none⟩) (Kd.R_types (Kd.R_types HO9.out BK19.out (by decide)) BK20.out (by decide)) (fun _ hk => hk.1.2) (.slice Ao11 t602.length co11)) (fun _ hk => hk.1.2) (.int .i64 t5)) (fun _ hk => hk.1.2) (.string t6)) (fun _ hk => hk.1.2) (.slice Ao14 t7.length co14)) (fun _ hk => hk.1.2) (.int .i64 t10)) (fun _ hk => hk.2) (.int .i64 t14)) (fun _ hk => hk.2) (.string t15)) (fun _ h_ => h_.1)) (fun _ h_ => h_.1)))) (Kd.R_base ho1) hb); replace BK19 := kp_ BK19 hb; replace BK20 := kp_ BK20 hb; replace HB := ss_ HB hb; clear hb ho0 ho1) | ((with_reducible refine gd_ 7 ?_); (try (refine gate_guard (by rfl) ?_; dsimp only)); refine x39_ 7 ?_; intro gb31 hg w19 hbox hb; replace HO4 := rb_ HO4 hb; replace HO9 := rb_ HO9 hb; replace HO13 := rb_ HO13 hb; replace HO18 := rb_ HO18 hb; replace HO23 := rb_ HO23 hb; replace HO28 := rb_ HO28 hb; have BK31 := am_ hbox; have GW31 := gg_ hg HB; have GE31 := GW31; replace HB := ss_ HB hb; have NB19_31 := nla_ hg BK19; have NB31_19 := nga_ hg BK19; replace BK19 := kl_ BK19 hb; have NB20_31 := nla_ hg BK20; have NB31_20 := nga_ hg BK20; replace BK20 := kl_ BK20 hb; clear hb hbox hg; obtain ⟨Ao20, co20, eo20⟩ := Kd.R_slice HO23.out; subst eo20; have hnb21 := NB31_19.out; have hnc21 := NB19_31.out; have hnb22 := NB31_20.out; have hnc22 := NB20_31.out; have hz23 := cz5_ BK31; obtain ⟨Ao24, co24, eo24⟩ := Kd.R_slice HO28.out; subst eo24; have hz25 := cz5_ BK19; have hz26 := cz2_ BK20) | ((with_reducible refine gq_ 16 35 ?_); refine gc_ 35 Try.func16 (spec_Commit.calls k _ _ t602 t5 t6 _ _ t7 t10 _ _ t11 t14 t15 _ _ t16 t32 t35 t36 t37 t40 t41 _ (chf_ HO4 BK31) (cl_ HO4) (chf_ HO9 BK31) (cl_ HO9) (chf_ HO13 BK31) (cl_ HO13) (chf_ HO18 BK31) (cl_ HO18) A6.out) ?_; rintro e w27 ⟨v33, v38, rfl, ho0, ho1, hb⟩; refine ⟨_, rfl, ?_⟩; replace HO13 := rbf_ HO13 BK31 hb; have HO34 := am_ (Kd.R_lower (Kd.R_new' (Kd.R_new' (Kd.R_new' ho0 (lf_ HO4 BK31)) (lf_ HO18 BK31)) (lf_ HO23 BK31)) (sz_ HB)); replace HO4 := ref_ HO4 BK31 ho0 hb; replace HO18 := ref_ HO18 BK31 ho0 hb; replace HO23 := ref_ HO23 BK31 ho0 hb; have HO39 := am_ (Kd.R_lower (Kd.R_new' (Kd.R_new' ho1 (lf_ HO9 BK31)) (lf_ HO28 BK31)) (sz_ HB)); replace HO9 := ref_ HO9 BK31 ho1 hb; replace HO28 := ref_ HO28 BK31 ho1 hb; replace BK19 := kp_ BK19 hb; replace BK20 := kp_ BK20 hb; replace BK31 := kp_ BK31 hb; replace HB := ss_ HB hb; clear hb ho0 ho1) | ((with_reducible refine gd_ 9 ?_); (try (refine gate_guard (by rfl) ?_; dsimp only)); refine x39_ 9 ?_; intro gb42 hg w28 hbox hb; replace HO4 := rb_ HO4 hb; replace HO9 := rb_ HO9 hb; replace HO13 := rb_ HO13 hb; replace HO18 := rb_ HO18 hb; replace HO23 := rb_ HO23 hb; replace HO28 := rb_ HO28 hb; replace HO34 := rb_ HO34 hb; replace HO39 := rb_ HO39 hb; have BK42 := am_ hbox; have GW42 := gg_ hg HB; have GE42 := GW42; replace HB := ss_ HB hb; have NB19_42 := nla_ hg BK19; have NB42_19 := nga_ hg BK19; replace BK19 := kl_ BK19 hb; have NB20_42 := nla_ hg BK20; have NB42_20 := nga_ hg BK20; replace BK20 := kl_ BK20 hb; have NB31_42 := nla_ hg BK31; have NB42_31 := nga_ hg BK31; replace BK31 := kl_ BK31 hb; clear hb hbox hg; obtain ⟨Ao29, co29, eo29⟩ := Kd.R_slice HO34.out; subst eo29; have hnb30 := NB42_19.out; have hnc30 := NB19_42.out; have hnb31 := NB42_20.out; have hnc31 := NB20_42.out; have hnb32 := NB42_31.out; have hnc32 := NB31_42.out; have hz33 := cz5_ BK42; obtain ⟨Ao34, co34, eo34⟩ := Kd.R_slice HO39.out; subst eo34))
  (try simp only [Act.put, List.setIfInBounds_toArray, List.set_cons_zero, List.set_cons_succ])
  go_cut [44] (fun v44 wc => ∃ (kq : Nat) (x44_6 : Bool), v44 = .bool x44_6 ∧ Aside0 (laws_FnStored.j0 kq t11 t30 t41 x44_6 t602 t5 t6 t7 t10 t14 t15 t21 t24 t25 t26 t29 = some r) ∧ Aside0 (kq ≤ k) ∧ Aside0 (Kd.R k25 25 wc w.heap.size (fun k_ => k_ ≠ gb20) (.slice Ao16 t11.length co16) t11) ∧ Aside0 (Kd.R Kd.string 9 wc w.heap.size (fun k_ => some k_ ≠ ((.slice Ao20 t21.length co20) : Value).ownBlock ∧ some k_ ≠ ((.slice Ao29 t32.length co29) : Value).ownBlock) (.slice Ao11 t602.length co11) t602) ∧ Aside0 (Kd.R (Kd.int .u8) 5 wc w.heap.size (fun k_ => some k_ ≠ ((.slice Ao24 t26.length co24) : Value).ownBlock ∧ some k_ ≠ ((.slice Ao34 t37.length co34) : Value).ownBlock) (.slice Ao14 t7.length co14) t7) ∧ Aside0 (Kd.R Kd.string 9 wc w.heap.size (fun k_ => some k_ ≠ ((.slice Ao11 t602.length co11) : Value).ownBlock ∧ some k_ ≠ ((.slice Ao29 t32.length co29) : Value).ownBlock) (.slice Ao20 t21.length co20) t21) ∧ Aside0 (Kd.R (Kd.int .u8) 5 wc w.heap.size (fun k_ => some k_ ≠ ((.slice Ao14 t7.length co14) : Value).ownBlock ∧ some k_ ≠ ((.slice Ao34 t37.length co34) : Value).ownBlock) (.slice Ao24 t26.length co24) t26) ∧ Aside0 (Kd.R Kd.string 9 wc w.heap.size (fun k_ => some k_ ≠ ((.slice Ao11 t602.length co11) : Value).ownBlock ∧ some k_ ≠ ((.slice Ao20 t21.length co20) : Value).ownBlock) (.slice Ao29 t32.length co29) t32) ∧ Aside0 (Kd.R (Kd.int .u8) 5 wc w.heap.size (fun k_ => some k_ ≠ ((.slice Ao14 t7.length co14) : Value).ownBlock ∧ some k_ ≠ ((.slice Ao24 t26.length co24) : Value).ownBlock) (.slice Ao34 t37.length co34) t37) ∧ Aside0 (wc.heap[gb19]? = some (.cells #[(.slice Ao11 t602.length co11), .int .i64 t5, .string t6, (.slice Ao14 t7.length co14), .int .i64 t10] 39 (0, 0))) ∧ Aside0 (wc.heap[gb20]? = some (.cells #[.int .i64 t14, .string t15] 25 (0, 0))) ∧ Aside0 (wc.heap[gb31]? = some (.cells #[(.slice Ao20 t21.length co20), .int .i64 t24, .string t25, (.slice Ao24 t26.length co24), .int .i64 t29] 39 (0, 0))) ∧ Aside0 (wc.heap[gb42]? = some (.cells #[(.slice Ao29 t32.length co29), .int .i64 t35, .string t36, (.slice Ao34 t37.length co34), .int .i64 t40] 39 (0, 0))) ∧ Aside0 (Below w.heap.size w wc))
  case first =>
   have H := HC7.out
   clear HC7
   replace H := it_ H; obtain ⟨c35, H⟩ | ⟨c35, H⟩ := H
   ·have c35b0 : (t30 == t41) = true := beq_iff_eq.mpr c35
    have c35b1 : (t30 != t41) = false := bne_eq_false_iff_eq.mpr c35
    clear c35
    (first | rw [c35b0] | (simp only [i64_w, i32_w]; rw [c35b0]) | skip)
    have H' := am_ H
    clear H
    go_wp2
    go_meet
    case rel => exact ⟨_, ((t30 != 0)), e1_, H', ⟨le_⟩, ⟨kr_ (Kd.R_mono (Kd.R_far (p := ⟨gb42, 4, none⟩) (Kd.R_far (p := ⟨gb42, 3, none⟩) (Kd.R_far (p := ⟨gb42, 2, none⟩) (Kd.R_far (p := ⟨gb42, 1, none⟩) (Kd.R_far (p := ⟨gb42, 0, none⟩) (Kd.R_types HO13.out BK42.out (by decide)) (fun _ hk => hk.2) (.slice Ao29 t32.length co29)) (fun _ hk => hk.2) (.int .i64 t35)) (fun _ hk => hk.2) (.string t36)) (fun _ hk => hk.2) (.slice Ao34 t37.length co34)) (fun _ hk => hk.2) (.int .i64 t40)) (fun _ hk => hk.1.2))⟩, ⟨kr_ (Kd.R_mono (Kd.R_far (p := ⟨gb42, 4, none⟩) (Kd.R_far (p := ⟨gb42, 3, none⟩) (Kd.R_far (p := ⟨gb42, 2, none⟩) (Kd.R_far (p := ⟨gb42, 1, none⟩) (Kd.R_far (p := ⟨gb42, 0, none⟩) (Kd.R_types HO4.out BK42.out (by decide)) (fun _ hk => hk.2) (.slice Ao29 t32.length co29)) (fun _ hk => hk.2) (.int .i64 t35)) (fun _ hk => hk.2) (.string t36)) (fun _ hk => hk.2) (.slice Ao34 t37.length co34)) (fun _ hk => hk.2) (.int .i64 t40)) (fun _ hk => ⟨hk.1.1.2, hk.1.2⟩))⟩, ⟨kr_ (Kd.R_mono (Kd.R_far (p := ⟨gb42, 4, none⟩) (Kd.R_far (p := ⟨gb42, 3, none⟩) (Kd.R_far (p := ⟨gb42, 2, none⟩) (Kd.R_far (p := ⟨gb42, 1, none⟩) (Kd.R_far (p := ⟨gb42, 0, none⟩) (Kd.R_types HO9.out BK42.out (by decide)) (fun _ hk => hk.2) (.slice Ao29 t32.length co29)) (fun _ hk => hk.2) (.int .i64 t35)) (fun _ hk => hk.2) (.string t36)) (fun _ hk => hk.2) (.slice Ao34 t37.length co34)) (fun _ hk => hk.2) (.int .i64 t40)) (fun _ hk => ⟨hk.1.1.2, hk.1.2⟩))⟩, ⟨kr_ (Kd.R_mono (Kd.R_far (p := ⟨gb42, 4, none⟩) (Kd.R_far (p := ⟨gb42, 3, none⟩) (Kd.R_far (p := ⟨gb42, 2, none⟩) (Kd.R_far (p := ⟨gb42, 1, none⟩) (Kd.R_far (p := ⟨gb42, 0, none⟩) (Kd.R_types HO23.out BK42.out (by decide)) (fun _ hk => hk.2) (.slice Ao29 t32.length co29)) (fun _ hk => hk.2) (.int .i64 t35)) (fun _ hk => hk.2) (.string t36)) (fun _ hk => hk.2) (.slice Ao34 t37.length co34)) (fun _ hk => hk.2) (.int .i64 t40)) (fun _ hk => ⟨hk.1.1.1.2, hk.1.2⟩))⟩, ⟨kr_ (Kd.R_mono (Kd.R_far (p := ⟨gb42, 4, none⟩) (Kd.R_far (p := ⟨gb42, 3, none⟩) (Kd.R_far (p := ⟨gb42, 2, none⟩) (Kd.R_far (p := ⟨gb42, 1, none⟩) (Kd.R_far (p := ⟨gb42, 0, none⟩) (Kd.R_types HO28.out BK42.out (by decide)) (fun _ hk => hk.2) (.slice Ao29 t32.length co29)) (fun _ hk => hk.2) (.int .i64 t35)) (fun _ hk => hk.2) (.string t36)) (fun _ hk => hk.2) (.slice Ao34 t37.length co34)) (fun _ hk => hk.2) (.int .i64 t40)) (fun _ hk => ⟨hk.1.1.2, hk.1.2⟩))⟩, ⟨kr_ (Kd.R_mono (Kd.R_far (p := ⟨gb42, 4, none⟩) (Kd.R_far (p := ⟨gb42, 3, none⟩) (Kd.R_far (p := ⟨gb42, 2, none⟩) (Kd.R_far (p := ⟨gb42, 1, none⟩) (Kd.R_far (p := ⟨gb42, 0, none⟩) (Kd.R_types HO34.out BK42.out (by decide)) (fun _ hk => hk.2) (.slice Ao29 t32.length co29)) (fun _ hk => hk.2) (.int .i64 t35)) (fun _ hk => hk.2) (.string t36)) (fun _ hk => hk.2) (.slice Ao34 t37.length co34)) (fun _ hk => hk.2) (.int .i64 t40)) (fun _ hk => ⟨hk.1.1.1.2, hk.1.2⟩))⟩, ⟨kr_ (Kd.R_mono (Kd.R_far (p := ⟨gb42, 4, none⟩) (Kd.R_far (p := ⟨gb42, 3, none⟩) (Kd.R_far (p := ⟨gb42, 2, none⟩) (Kd.R_far (p := ⟨gb42, 1, none⟩) (Kd.R_far (p := ⟨gb42, 0, none⟩) (Kd.R_types HO39.out BK42.out (by decide)) (fun _ hk => hk.2) (.slice Ao29 t32.length co29)) (fun _ hk => hk.2) (.int .i64 t35)) (fun _ hk => hk.2) (.string t36)) (fun _ hk => hk.2) (.slice Ao34 t37.length co34)) (fun _ hk => hk.2) (.int .i64 t40)) (fun _ hk => ⟨hk.1.1.2, hk.1.2⟩))⟩, ⟨kq_ BK19⟩, ⟨kq_ BK20⟩, ⟨kq_ BK31⟩, ⟨kq_ BK42⟩, ⟨bw_ HB⟩⟩
   ·have c35b0 : (t30 == t41) = false := beq_eq_false_iff_ne.mpr c35
    have c35b1 : (t30 != t41) = true := bne_iff_ne.mpr c35
    (first | rw [c35b0] | (simp only [i64_w, i32_w]; rw [c35b0]) | skip)
    have H' := am_ H
    clear H
    go_wp2
    go_meet
    case rel => exact ⟨_, (true), e1_, H', ⟨le_⟩, ⟨kr_ (Kd.R_mono (Kd.R_far (p := ⟨gb42, 4, none⟩) (Kd.R_far (p := ⟨gb42, 3, none⟩) (Kd.R_far (p := ⟨gb42, 2, none⟩) (Kd.R_far (p := ⟨gb42, 1, none⟩) (Kd.R_far (p := ⟨gb42, 0, none⟩) (Kd.R_types HO13.out BK42.out (by decide)) (fun _ hk => hk.2) (.slice Ao29 t32.length co29)) (fun _ hk => hk.2) (.int .i64 t35)) (fun _ hk => hk.2) (.string t36)) (fun _ hk => hk.2) (.slice Ao34 t37.length co34)) (fun _ hk => hk.2) (.int .i64 t40)) (fun _ hk => hk.1.2))⟩, ⟨kr_ (Kd.R_mono (Kd.R_far (p := ⟨gb42, 4, none⟩) (Kd.R_far (p := ⟨gb42, 3, none⟩) (Kd.R_far (p := ⟨gb42, 2, none⟩) (Kd.R_far (p := ⟨gb42, 1, none⟩) (Kd.R_far (p := ⟨gb42, 0, none⟩) (Kd.R_types HO4.out BK42.out (by decide)) (fun _ hk => hk.2) (.slice Ao29 t32.length co29)) (fun _ hk => hk.2) (.int .i64 t35)) (fun _ hk => hk.2) (.string t36)) (fun _ hk => hk.2) (.slice Ao34 t37.length co34)) (fun _ hk => hk.2) (.int .i64 t40)) (fun _ hk => ⟨hk.1.1.2, hk.1.2⟩))⟩, ⟨kr_ (Kd.R_mono (Kd.R_far (p := ⟨gb42, 4, none⟩) (Kd.R_far (p := ⟨gb42, 3, none⟩) (Kd.R_far (p := ⟨gb42, 2, none⟩) (Kd.R_far (p := ⟨gb42, 1, none⟩) (Kd.R_far (p := ⟨gb42, 0, none⟩) (Kd.R_types HO9.out BK42.out (by decide)) (fun _ hk => hk.2) (.slice Ao29 t32.length co29)) (fun _ hk => hk.2) (.int .i64 t35)) (fun _ hk => hk.2) (.string t36)) (fun _ hk => hk.2) (.slice Ao34 t37.length co34)) (fun _ hk => hk.2) (.int .i64 t40)) (fun _ hk => ⟨hk.1.1.2, hk.1.2⟩))⟩, ⟨kr_ (Kd.R_mono (Kd.R_far (p := ⟨gb42, 4, none⟩) (Kd.R_far (p := ⟨gb42, 3, none⟩) (Kd.R_far (p := ⟨gb42, 2, none⟩) (Kd.R_far (p := ⟨gb42, 1, none⟩) (Kd.R_far (p := ⟨gb42, 0, none⟩) (Kd.R_types HO23.out BK42.out (by decide)) (fun _ hk => hk.2) (.slice Ao29 t32.length co29)) (fun _ hk => hk.2) (.int .i64 t35)) (fun _ hk => hk.2) (.string t36)) (fun _ hk => hk.2) (.slice Ao34 t37.length co34)) (fun _ hk => hk.2) (.int .i64 t40)) (fun _ hk => ⟨hk.1.1.1.2, hk.1.2⟩))⟩, ⟨kr_ (Kd.R_mono (Kd.R_far (p := ⟨gb42, 4, none⟩) (Kd.R_far (p := ⟨gb42, 3, none⟩) (Kd.R_far (p := ⟨gb42, 2, none⟩) (Kd.R_far (p := ⟨gb42, 1, none⟩) (Kd.R_far (p := ⟨gb42, 0, none⟩) (Kd.R_types HO28.out BK42.out (by decide)) (fun _ hk => hk.2) (.slice Ao29 t32.length co29)) (fun _ hk => hk.2) (.int .i64 t35)) (fun _ hk => hk.2) (.string t36)) (fun _ hk => hk.2) (.slice Ao34 t37.length co34)) (fun _ hk => hk.2) (.int .i64 t40)) (fun _ hk => ⟨hk.1.1.2, hk.1.2⟩))⟩, ⟨kr_ (Kd.R_mono (Kd.R_far (p := ⟨gb42, 4, none⟩) (Kd.R_far (p := ⟨gb42, 3, none⟩) (Kd.R_far (p := ⟨gb42, 2, none⟩) (Kd.R_far (p := ⟨gb42, 1, none⟩) (Kd.R_far (p := ⟨gb42, 0, none⟩) (Kd.R_types HO34.out BK42.out (by decide)) (fun _ hk => hk.2) (.slice Ao29 t32.length co29)) (fun _ hk => hk.2) (.int .i64 t35)) (fun _ hk => hk.2) (.string t36)) (fun _ hk => hk.2) (.slice Ao34 t37.length co34)) (fun _ hk => hk.2) (.int .i64 t40)) (fun _ hk => ⟨hk.1.1.1.2, hk.1.2⟩))⟩, ⟨kr_ (Kd.R_mono (Kd.R_far (p := ⟨gb42, 4, none⟩) (Kd.R_far (p := ⟨gb42, 3, none⟩) (Kd.R_far (p := ⟨gb42, 2, none⟩) (Kd.R_far (p := ⟨gb42, 1, none⟩) (Kd.R_far (p := ⟨gb42, 0, none⟩) (Kd.R_types HO39.out BK42.out (by decide)) (fun _ hk => hk.2) (.slice Ao29 t32.length co29)) (fun _ hk => hk.2) (.int .i64 t35)) (fun _ hk => hk.2) (.string t36)) (fun _ hk => hk.2) (.slice Ao34 t37.length co34)) (fun _ hk => hk.2) (.int .i64 t40)) (fun _ hk => ⟨hk.1.1.2, hk.1.2⟩))⟩, ⟨kq_ BK19⟩, ⟨kq_ BK20⟩, ⟨kq_ BK31⟩, ⟨kq_ BK42⟩, ⟨bw_ HB⟩⟩
  case rest =>
   clear HC7
   try clear hz13
   try clear hz15
   try clear hz23
   try clear hz25
   try clear hz26
   try clear hz33
   obtain ⟨kq, x44_6, rfl, HA, HJ6, HO_4, HO_20000, HO_20003, HO_32000, HO_32003, HO_43000, HO_43003, BK19, BK20, BK31, BK42, HB⟩ := hcut
   cases kq with
   | zero => exact absurd HA.out (by simp [laws_FnStored.j0])
   | succ kj6 =>
    have H := HA.out
    clear HA
    simp only [laws_FnStored.j0] at H
    replace H := itb_ H; obtain ⟨rfl, H⟩ | ⟨rfl, H⟩ := H
    ·replace H := ip_ H; obtain ⟨c37, H⟩ := H
     have c37b0 : (t30 == t41) = true := beq_iff_eq.mpr c37
     have c37b1 : (t30 != t41) = false := bne_eq_false_iff_eq.mpr c37
     clear c37
     replace H := ip_ H; obtain ⟨c38, H⟩ := H
     have c38b0 : ((t26.length : Int) == (t7.length : Int)) = true := beq_iff_eq.mpr c38
     have c38b1 : ((t26.length : Int) != (t7.length : Int)) = false := bne_eq_false_iff_eq.mpr c38
     have c38b2 : (t26.length == t7.length) = true := by first | simpa using c38 | (simp at c38 ⊢; omega)
     clear c38
     replace H := bi_ H; obtain ⟨t43, A39, H⟩ := H
     obtain rfl := Option.some.inj H
     have hnb40 := NB31_19.out
     have hnc40 := NB19_31.out
     have hnb41 := NB31_20.out
     have hnc41 := NB20_31.out
     have hnb42 := NB31_42.out
     have hnc42 := NB42_31.out
     have hz43 := cz5_ BK31
     have hnb44 := NB19_20.out
     have hnc44 := NB20_19.out
     have hnb45 := NB19_42.out
     have hnc45 := NB42_19.out
     have hz46 := cz5_ BK19
     go_wp2_with (first | (go_at_call 13; (with_reducible refine (laws_sameTexts.calls kj6 _ _ t21 _ _ t602 t43 _ ?side1 ?side2 ?side3 ?side4 A39.out).mono ?_); (case side1 => exact ch_ HO_32000); (case side2 => exact (cl_ HO_32000)); (case side3 => exact ch_ HO_20000); (case side4 => exact (cl_ HO_20000)); rintro e w' ⟨rfl, ⟨nd, rfl⟩⟩))
     go_ret
     exact ⟨e2_, bw_ HB⟩
    ·obtain ⟨y44, Ny44, H⟩ := sb_ (([(⟨t14, t15⟩ : S25)] : List (S25))) H
     replace H := ip_ H; obtain ⟨c47, H⟩ := H
     have LMc47 := am_ c47
     clear c47
     obtain ⟨y47, hy47⟩ : ∃ y_ : List (S25), y_ = (y44 ++ t11) := ⟨_, rfl⟩
     replace H : ((impl_OpenStore.f kj6 y47 t26).bind fun bt50 => ((impl_StoreOk.f kj6 t21 t24 t25 t26 t29).bind fun t61 => (if t61 = true then (if (t24 == t14 && (t25.toList == t15.toList)) = true then (if (t26.length : Int) > (t7.length : Int) then (if bt50.2.2.2.2.2 > 0 then ((laws_begins.f kj6 bt50.1 t21).bind fun t62 => (some t62)) else (if (t7.length : Int) > 0 then ((laws_begins.f kj6 bt50.1 t21).bind fun t63 => (some t63)) else (none))) else (none)) else (none)) else (none)))) = some r := yh_ hy47 H
     have Ny47 := am_ hy47
     clear hy47
     replace H := bi_ H; obtain ⟨⟨t50, t53, t54, t55, t58, t59⟩, A48, H⟩ := H
     dsimp only at H
     replace H := bi_ H; obtain ⟨t61, A49, H⟩ := H
     replace H := ipb_ H; obtain ⟨rfl, H⟩ := H
     replace H := ip_ H; obtain ⟨c51, H⟩ := H
     have c51b0 : (t24 == t14 && (t25.toList == t15.toList)) = true := c51
     (try (have c51b1 : decide (t24 = t14 && (t25.toList == t15.toList)) = true := by simpa using c51))
     (try (have c51b2 : (t24 == t14 && (t25.toList == t15.toList)) = true := by simpa using c51))
     clear c51
     replace H := ip_ H; obtain ⟨c52, H⟩ := H
     have c52b0 : decide ((t7.length : Int) < (t26.length : Int)) = true := decide_eq_true c52
     have c52b1 : decide (t7.length < t26.length) = true := decide_eq_true (Int.ofNat_lt.mp c52)
     clear c52
     try go_wp2
     replace HO_4 := am_ (Kd.R_drew HO_4.out)
     replace HO_20000 := am_ (Kd.R_drew HO_20000.out)
     replace HO_20003 := am_ (Kd.R_drew HO_20003.out)
     replace HO_32000 := am_ (Kd.R_drew HO_32000.out)
     replace HO_32003 := am_ (Kd.R_drew HO_32003.out)
     replace HO_43000 := am_ (Kd.R_drew HO_43000.out)
     replace HO_43003 := am_ (Kd.R_drew HO_43003.out)
     replace BK19 := bd_ BK19
     replace BK20 := bd_ BK20
     replace BK31 := bd_ BK31
     replace BK42 := bd_ BK42
     replace HB := hd_ HB
     refine sw_ 13 (fun w' => w'.cell? ⟨gb20, 0, none⟩ = some (.int .i64 t14) ∧ w'.cell? ⟨gb20, 1, none⟩ = some (.string t15) ∧ w'.cell? ⟨gb31, 0, none⟩ = some (.slice Ao20 t21.length co20) ∧ w'.cell? ⟨gb31, 1, none⟩ = some (.int .i64 t24) ∧ w'.cell? ⟨gb31, 2, none⟩ = some (.string t25) ∧ w'.cell? ⟨gb31, 3, none⟩ = some (.slice Ao24 t26.length co24) ∧ w'.cell? ⟨gb31, 4, none⟩ = some (.int .i64 t29)) [] laws_FnStored.tab8 laws_FnStored.bits8 ⟨bc0_ BK20.out, bc1_ BK20.out, bc0_ BK31.out, bc1_ BK31.out, bc2_ BK31.out, bc3_ BK31.out, bc4_ BK31.out⟩ (fun hHeld HT_ HW_ => ?_)
     generalize wc.drew = w55 at HO_4 HO_20000 HO_20003 HO_32000 HO_32003 HO_43000 HO_43003 BK19 BK20 BK31 BK42 HB hHeld ⊢
     refine pt_ 2 69 4 ?_
     refine pt_ 4 71 20 ?_
     refine tt_ 0 67 21 ?_
     refine tt_ 5 72 53 ?_
     refine join_ (σ := Value × Value × Value × Value × Nat) 2 (lz_ 13 2047) (fun s_ => [(68, s_.1), (70, s_.2.1), (73, .tuple #[.agg #[s_.2.2.1, .int .i64 t53, .string t54, s_.2.2.2.1, .int .i64 t58], .int .i64 t59]), (11, .pointer (some ⟨s_.2.2.2.2, 0, none⟩)), (66, .tuple #[.agg #[s_.2.2.1, .int .i64 t53, .string t54, s_.2.2.2.1, .int .i64 t58], .int .i64 t59]), (74, .agg #[s_.2.2.1, .int .i64 t53, .string t54, s_.2.2.2.1, .int .i64 t58]), (75, .int .i64 t59)]) (fun s_ w' => (w'.cell? ⟨gb20, 0, none⟩ = some (.int .i64 t14) ∧ w'.cell? ⟨gb20, 1, none⟩ = some (.string t15) ∧ w'.cell? ⟨gb31, 0, none⟩ = some (.slice Ao20 t21.length co20) ∧ w'.cell? ⟨gb31, 1, none⟩ = some (.int .i64 t24) ∧ w'.cell? ⟨gb31, 2, none⟩ = some (.string t25) ∧ w'.cell? ⟨gb31, 3, none⟩ = some (.slice Ao24 t26.length co24) ∧ w'.cell? ⟨gb31, 4, none⟩ = some (.int .i64 t29)) ∧ (Kd.R k25 25 w' w.heap.size (fun k_ => some k_ ≠ (.slice Ao16 t11.length co16 : Value).ownBlock ∧ k_ ≠ gb20) s_.2.1 y47) ∧ (Kd.R Kd.string 9 w' w.heap.size (fun k_ => some k_ ≠ (.slice Ao11 t602.length co11 : Value).ownBlock ∧ some k_ ≠ (.slice Ao20 t21.length co20 : Value).ownBlock ∧ some k_ ≠ (.slice Ao29 t32.length co29 : Value).ownBlock) s_.2.2.1 t50) ∧ (Kd.R (Kd.int .u8) 5 w' w.heap.size (fun k_ => some k_ ≠ (.slice Ao14 t7.length co14 : Value).ownBlock ∧ some k_ ≠ (.slice Ao24 t26.length co24 : Value).ownBlock ∧ some k_ ≠ (.slice Ao34 t37.length co34 : Value).ownBlock) s_.2.2.2.1 t55) ∧ (Kd.R k25 25 w' w.heap.size (fun k_ => some k_ ≠ (s_.2.1 : Value).ownBlock ∧ k_ ≠ gb20) (.slice Ao16 t11.length co16) t11) ∧ (Kd.R Kd.string 9 w' w.heap.size (fun k_ => some k_ ≠ (s_.2.2.1 : Value).ownBlock ∧ some k_ ≠ (.slice Ao20 t21.length co20 : Value).ownBlock ∧ some k_ ≠ (.slice Ao29 t32.length co29 : Value).ownBlock) (.slice Ao11 t602.length co11) t602) ∧ (Kd.R (Kd.int .u8) 5 w' w.heap.size (fun k_ => some k_ ≠ (s_.2.2.2.1 : Value).ownBlock ∧ some k_ ≠ (.slice Ao24 t26.length co24 : Value).ownBlock ∧ some k_ ≠ (.slice Ao34 t37.length co34 : Value).ownBlock) (.slice Ao14 t7.length co14) t7) ∧ (Kd.R Kd.string 9 w' w.heap.size (fun k_ => some k_ ≠ (s_.2.2.1 : Value).ownBlock ∧ some k_ ≠ (.slice Ao11 t602.length co11 : Value).ownBlock ∧ some k_ ≠ (.slice Ao29 t32.length co29 : Value).ownBlock) (.slice Ao20 t21.length co20) t21) ∧ (Kd.R (Kd.int .u8) 5 w' w.heap.size (fun k_ => some k_ ≠ (s_.2.2.2.1 : Value).ownBlock ∧ some k_ ≠ (.slice Ao14 t7.length co14 : Value).ownBlock ∧ some k_ ≠ (.slice Ao34 t37.length co34 : Value).ownBlock) (.slice Ao24 t26.length co24) t26) ∧ (Kd.R Kd.string 9 w' w.heap.size (fun k_ => some k_ ≠ (s_.2.2.1 : Value).ownBlock ∧ some k_ ≠ (.slice Ao11 t602.length co11 : Value).ownBlock ∧ some k_ ≠ (.slice Ao20 t21.length co20 : Value).ownBlock) (.slice Ao29 t32.length co29) t32) ∧ (Kd.R (Kd.int .u8) 5 w' w.heap.size (fun k_ => some k_ ≠ (s_.2.2.2.1 : Value).ownBlock ∧ some k_ ≠ (.slice Ao14 t7.length co14 : Value).ownBlock ∧ some k_ ≠ (.slice Ao24 t26.length co24 : Value).ownBlock) (.slice Ao34 t37.length co34) t37) ∧ (w'.heap[gb19]? = some (.cells #[.slice Ao11 t602.length co11, .int .i64 t5, .string t6, .slice Ao14 t7.length co14, .int .i64 t10] 39 (0, 0))) ∧ (w'.heap[gb20]? = some (.cells #[.int .i64 t14, .string t15] 25 (0, 0))) ∧ (w'.heap[gb31]? = some (.cells #[.slice Ao20 t21.length co20, .int .i64 t24, .string t25, .slice Ao24 t26.length co24, .int .i64 t29] 39 (0, 0))) ∧ (w'.heap[gb42]? = some (.cells #[.slice Ao29 t32.length co29, .int .i64 t35, .string t36, .slice Ao34 t37.length co34, .int .i64 t40] 39 (0, 0))) ∧ (w'.heap[s_.2.2.2.2]? = some (.cells #[.slice none 0 0, .int .i64 0, .string (⟨#[]⟩ : ByteArray), .slice none 0 0, .int .i64 0] 39 (0, 0))) ∧ (w.heap.size ≤ s_.2.2.2.2) ∧ (w.heap.size ≤ s_.2.2.2.2) ∧ (gb19 ≠ s_.2.2.2.2) ∧ (s_.2.2.2.2 ≠ gb19) ∧ (gb20 ≠ s_.2.2.2.2) ∧ (s_.2.2.2.2 ≠ gb20) ∧ (gb31 ≠ s_.2.2.2.2) ∧ (s_.2.2.2.2 ≠ gb31) ∧ (gb42 ≠ s_.2.2.2.2) ∧ (s_.2.2.2.2 ≠ gb42) ∧ (Below w.heap.size w w')) ?_ ?_
     rotate_left
     ·intro hCont
      refine two_ (i := 1) (j := 10) (Ni := some 68) (Nj := some 11) (lz_ 13 55) (lz_ 13 1077) rfl rfl rfl rfl (two_of HT_.out (by kernel_rfl)) (by decide) (by decide) (fun K hK => ?_) (fun K hK => ?_)
      ·skip
       refine Kd.R_lit_step k25 _ 25 ?hg (N := 68) ?hd (xs := ([(⟨t14, t15⟩ : S25)] : List (S25))) (inner := [.int .i64 t14, .string t15]) (ok := fun _ => True) (okp := fun _ => True) ?hr ?hp (fun _ hk => hk) trivial (Below.refl _ _) (Nat.le_refl _) (by simp) ?_; (case hd => rfl); (case hg => rfl); (case hr => first | (go_simp; done) | (go_simp; rfl)); (case hp => exact (Reps.c2 (show Kd.M k25 _ _ _ (⟨t14, t15⟩ : S25) [.int .i64 t14, .string t15] from (k25_mkM _ _ _ (⟨t14, t15⟩ : S25) )) (Reps.none _ _)))
       intro v45 w56 ho57 hb hg_ hnew_
       clear hg_ hnew_
       (first | rw [← Ny44.out] at ho57 | (simp only [Int.reduceToNat] at ho57; rw [← Ny44.out] at ho57))
       replace HO_20000 := rb_ HO_20000 hb
       replace HO_20003 := rb_ HO_20003 hb
       replace HO_32000 := rb_ HO_32000 hb
       replace HO_32003 := rb_ HO_32003 hb
       replace HO_43000 := rb_ HO_43000 hb
       replace HO_43003 := rb_ HO_43003 hb
       have HO46 := am_ (Kd.R_lower (Kd.R_newB (Kd.R_new' ho57 (lt_ HO_4)) (kb_ BK20.out)) (sz_ HB))
       replace HO_4 := re_ HO_4 ho57 hb
       replace BK19 := kl_ BK19 hb
       replace BK20 := kl_ BK20 hb
       replace BK31 := kl_ BK31 hb
       replace BK42 := kl_ BK42 hb
       replace HB := ss_ HB hb
       clear hb ho57
       refine hK.out _ _ ⟨bc0_ BK20.out, bc1_ BK20.out, bc0_ BK31.out, bc1_ BK31.out, bc2_ BK31.out, bc3_ BK31.out, bc4_ BK31.out⟩ (fun hHeld => ?_)
       clear hK K
       refine no_ 68 ?_
       refine two_ (i := 3) (j := 10) (Ni := some 70) (Nj := some 11) (lz_ 13 63) (lz_ 13 1079) rfl rfl rfl rfl (two_of HT_.out (by kernel_rfl)) (by decide) (by decide) (fun K hK => ?_) (fun K hK => ?_)
       ·skip
        refine Kd.R_append_rows_step k25 (w0 := w) w.heap.size (by rfl) (.tmp 68) (.tmp 69) 40 25 (.agg #[(.int .i64 0), (.string ⟨#[]⟩)]) 24 rfl Try.underlying40 info25 rfl (by decide) (by omega) v45 y44 t11 _ _ _ (fun k_ => some k_ ≠ (.slice Ao16 t11.length co16 : Value).ownBlock ∧ k_ ≠ gb20) (fun _ => False) rfl rfl ?aO ?aR (fun _ _ h => h) (fun _ h => h.elim) ?aF ?aB ?aS ?aL ?_
        (case aR => repeat (first | exact (Kd.R_reads' HO_4.out).2.2 | (with_reducible refine Kd.C_alloc ?_ _) | (with_reducible refine Kd.C_drewN ?_ _) | (with_reducible refine Kd.C_drew ?_)))
        (case aB => exact (bw_ HB))
        (case aF => exact (fun k_ hk => ⟨Kd.fresh' (lt_ HO_4) k_ hk, Kd.freshB (kb_ BK20.out) k_ hk⟩))
        (case aO => exact (kr_ (Kd.R_mono HO46.out (fun _ hk => ⟨hk.1.2, hk.2⟩))))
        (case aS => exact (sz_ HB))
        (case aL => have := LMc47.out; omega)
        intro v48 w58 ho hb hg hat
        rw [← Ny47.out] at ho
        replace HO_4 := am_ (Kd.R_after (ok := (fun k_ => k_ ≠ gb20)) (kr_ HO_4.out) hg hat)
        replace HO_20000 := am_ (Kd.R_over' (kr_ HO_20000.out) (Kd.R_typed (kr_ HO46.out)) (by decide) hg)
        replace HO_20003 := am_ (Kd.R_over' (kr_ HO_20003.out) (Kd.R_typed (kr_ HO46.out)) (by decide) hg)
        replace HO_32000 := am_ (Kd.R_over' (kr_ HO_32000.out) (Kd.R_typed (kr_ HO46.out)) (by decide) hg)
        replace HO_32003 := am_ (Kd.R_over' (kr_ HO_32003.out) (Kd.R_typed (kr_ HO46.out)) (by decide) hg)
        replace HO_43000 := am_ (Kd.R_over' (kr_ HO_43000.out) (Kd.R_typed (kr_ HO46.out)) (by decide) hg)
        replace HO_43003 := am_ (Kd.R_over' (kr_ HO_43003.out) (Kd.R_typed (kr_ HO46.out)) (by decide) hg)
        replace BK19 := kg_ BK19 HO46 hg
        replace BK20 := am_ (blk_grown (kb_ BK20.out) hg (Kd.R_away HO46.out (fun _ hk => hk.2)))
        replace BK31 := kg_ BK31 HO46 hg
        replace BK42 := kg_ BK42 HO46 hg
        replace HB := am_ hb
        have HO49 := am_ ho
        clear HO46
        clear ho hb hg hat
        obtain ⟨Ao59, co59, eo59⟩ := Kd.R_slice HO49.out
        (first | subst eo59 | (injection eo59 with f1_ f2_ f3_; have f4_ := f1_.symm; have f5_ := f3_.symm; clear f1_ f2_ f3_; subst f4_; subst f5_))
        refine hK.out _ _ ⟨bc0_ BK20.out, bc1_ BK20.out, bc0_ BK31.out, bc1_ BK31.out, bc2_ BK31.out, bc3_ BK31.out, bc4_ BK31.out⟩ (fun hHeld => ?_)
        clear hK K
        refine no_ 70 ?_
        refine two_ (i := 6) (j := 10) (Ni := some 73) (Nj := some 11) (lz_ 13 127) (lz_ 13 1087) rfl rfl rfl rfl (two_of HT_.out (by kernel_rfl)) (by decide) (by decide) (fun K hK => ?_) (fun K hK => ?_)
        ·skip
         refine gf_ Try.func17 (impl_OpenStore.calls kj6 _ _ y47 _ _ t26 t50 t53 t54 t55 t58 t59 _ (ch_ HO49) (cl_ HO49) (ch_ HO_32003) (cl_ HO_32003) A48.out) ?_
         rintro e w60 ⟨v51, v56, rfl, ho0, ho1, hb⟩
         refine ⟨_, rfl, ?_⟩
         replace HO_4 := rb_ HO_4 hb
         replace HO49 := rb_ HO49 hb
         have HO52 := am_ (Kd.R_lower (Kd.R_new' (Kd.R_new' (Kd.R_new' ho0 (lt_ HO_20000)) (lt_ HO_32000)) (lt_ HO_43000)) (sz_ HB))
         replace HO_20000 := re_ HO_20000 ho0 hb
         replace HO_32000 := re_ HO_32000 ho0 hb
         replace HO_43000 := re_ HO_43000 ho0 hb
         have HO57 := am_ (Kd.R_lower (Kd.R_new' (Kd.R_new' (Kd.R_new' ho1 (lt_ HO_20003)) (lt_ HO_32003)) (lt_ HO_43003)) (sz_ HB))
         replace HO_20003 := re_ HO_20003 ho1 hb
         replace HO_32003 := re_ HO_32003 ho1 hb
         replace HO_43003 := re_ HO_43003 ho1 hb
         replace BK19 := kl_ BK19 hb
         replace BK20 := kl_ BK20 hb
         replace BK31 := kl_ BK31 hb
         replace BK42 := kl_ BK42 hb
         replace HB := ss_ HB hb
         clear hb ho0 ho1
         refine hK.out _ _ ⟨bc0_ BK20.out, bc1_ BK20.out, bc0_ BK31.out, bc1_ BK31.out, bc2_ BK31.out, bc3_ BK31.out, bc4_ BK31.out⟩ (fun hHeld => ?_)
         clear hK K
         refine no_ 73 ?_
         refine pt_ 7 66 255 ?_
         refine pt_ 8 74 511 ?_
         refine pt_ 9 75 1023 ?_
         refine oz_ 10 11 13 2047 (fun K hK => ?_)
         refine bz_ 11 39 #[.slice none 0 0, .int .i64 0, .string (⟨#[]⟩ : ByteArray), .slice none 0 0, .int .i64 0] ?_
         intro gb60 hg w61 hbox hb
         replace HO_4 := rb_ HO_4 hb
         replace HO_20000 := rb_ HO_20000 hb
         replace HO_20003 := rb_ HO_20003 hb
         replace HO_32000 := rb_ HO_32000 hb
         replace HO_32003 := rb_ HO_32003 hb
         replace HO_43000 := rb_ HO_43000 hb
         replace HO_43003 := rb_ HO_43003 hb
         replace HO49 := rb_ HO49 hb
         replace HO52 := rb_ HO52 hb
         replace HO57 := rb_ HO57 hb
         have BK60 := am_ hbox
         have GW60 := gg_ hg HB
         have GE60 := GW60
         replace HB := ss_ HB hb
         have NB19_60 := nla_ hg BK19
         have NB60_19 := nga_ hg BK19
         replace BK19 := kl_ BK19 hb
         have NB20_60 := nla_ hg BK20
         have NB60_20 := nga_ hg BK20
         replace BK20 := kl_ BK20 hb
         have NB31_60 := nla_ hg BK31
         have NB60_31 := nga_ hg BK31
         replace BK31 := kl_ BK31 hb
         have NB42_60 := nla_ hg BK42
         have NB60_42 := nga_ hg BK42
         replace BK42 := kl_ BK42 hb
         clear hb hbox hg
         refine hK.out _ _ ⟨bc0_ BK20.out, bc1_ BK20.out, bc0_ BK31.out, bc1_ BK31.out, bc2_ BK31.out, bc3_ BK31.out, bc4_ BK31.out⟩ (fun hHeld => ?_)
         clear hK K
         refine no_ 11 ?_
         exact norm_ (by simp only [putAll, Act.put, List.setIfInBounds_toArray, List.set_cons_zero, List.set_cons_succ]) (hCont (v45, .slice Ao59 y47.length co59, v51, v56, gb60) _ ⟨hHeld, (kr_ HO49.out), (kr_ (Kd.R_mono HO52.out (fun _ hk => ⟨hk.1.1.2, ⟨hk.1.2, hk.2⟩⟩))), (kr_ (Kd.R_mono HO57.out (fun _ hk => ⟨hk.1.1.2, ⟨hk.1.2, hk.2⟩⟩))), (kr_ (Kd.R_mono HO_4.out (fun _ hk => ⟨hk.2, hk.1⟩))), (kr_ (Kd.R_mono HO_20000.out (fun _ hk => ⟨hk.2, ⟨hk.1.1, hk.1.2⟩⟩))), (kr_ (Kd.R_mono HO_20003.out (fun _ hk => ⟨hk.2, ⟨hk.1.1, hk.1.2⟩⟩))), (kr_ (Kd.R_mono HO_32000.out (fun _ hk => ⟨hk.2, ⟨hk.1.1, hk.1.2⟩⟩))), (kr_ (Kd.R_mono HO_32003.out (fun _ hk => ⟨hk.2, ⟨hk.1.1, hk.1.2⟩⟩))), (kr_ (Kd.R_mono HO_43000.out (fun _ hk => ⟨hk.2, ⟨hk.1.1, hk.1.2⟩⟩))), (kr_ (Kd.R_mono HO_43003.out (fun _ hk => ⟨hk.2, ⟨hk.1.1, hk.1.2⟩⟩))), (kb_ BK19.out), (kb_ BK20.out), (kb_ BK31.out), (kb_ BK42.out), (kb_ BK60.out), GW60.out, GE60.out, NB19_60.out, NB60_19.out, NB20_60.out, NB60_20.out, NB31_60.out, NB60_31.out, NB42_60.out, NB60_42.out, (bw_ HB)⟩)
        ·skip
         refine bz_ 11 39 #[.slice none 0 0, .int .i64 0, .string (⟨#[]⟩ : ByteArray), .slice none 0 0, .int .i64 0] ?_
         intro gb60 hg w59 hbox hb
         replace HO_4 := rb_ HO_4 hb
         replace HO_20000 := rb_ HO_20000 hb
         replace HO_20003 := rb_ HO_20003 hb
         replace HO_32000 := rb_ HO_32000 hb
         replace HO_32003 := rb_ HO_32003 hb
         replace HO_43000 := rb_ HO_43000 hb
         replace HO_43003 := rb_ HO_43003 hb
         replace HO49 := rb_ HO49 hb
         have BK60 := am_ hbox
         have GW60 := gg_ hg HB
         have GE60 := GW60
         replace HB := ss_ HB hb
         have NB19_60 := nla_ hg BK19
         have NB60_19 := nga_ hg BK19
         replace BK19 := kl_ BK19 hb
         have NB20_60 := nla_ hg BK20
         have NB60_20 := nga_ hg BK20
         replace BK20 := kl_ BK20 hb
         have NB31_60 := nla_ hg BK31
         have NB60_31 := nga_ hg BK31
         replace BK31 := kl_ BK31 hb
         have NB42_60 := nla_ hg BK42
         have NB60_42 := nga_ hg BK42
         replace BK42 := kl_ BK42 hb
         clear hb hbox hg
         obtain ⟨Ao60, co60, eo60⟩ := Kd.R_slice HO49.out
         (first | subst eo60 | (injection eo60 with f1_ f2_ f3_; have f4_ := f1_.symm; have f5_ := f3_.symm; clear f1_ f2_ f3_; subst f4_; subst f5_))
         refine hK.out _ _ ⟨bc0_ BK20.out, bc1_ BK20.out, bc0_ BK31.out, bc1_ BK31.out, bc2_ BK31.out, bc3_ BK31.out, bc4_ BK31.out⟩ (fun hHeld => ?_)
         clear hK K
         refine no_ 11 ?_
         refine oz_ 6 73 13 1151 (fun K hK => ?_)
         refine gf_ Try.func17 (impl_OpenStore.calls kj6 _ _ y47 _ _ t26 t50 t53 t54 t55 t58 t59 _ (ch_ HO49) (cl_ HO49) (ch_ HO_32003) (cl_ HO_32003) A48.out) ?_
         rintro e w61 ⟨v51, v56, rfl, ho0, ho1, hb⟩
         refine ⟨_, rfl, ?_⟩
         replace HO_4 := rb_ HO_4 hb
         replace HO49 := rb_ HO49 hb
         have HO52 := am_ (Kd.R_lower (Kd.R_new' (Kd.R_new' (Kd.R_new' ho0 (lt_ HO_20000)) (lt_ HO_32000)) (lt_ HO_43000)) (sz_ HB))
         replace HO_20000 := re_ HO_20000 ho0 hb
         replace HO_32000 := re_ HO_32000 ho0 hb
         replace HO_43000 := re_ HO_43000 ho0 hb
         have HO57 := am_ (Kd.R_lower (Kd.R_new' (Kd.R_new' (Kd.R_new' ho1 (lt_ HO_20003)) (lt_ HO_32003)) (lt_ HO_43003)) (sz_ HB))
         replace HO_20003 := re_ HO_20003 ho1 hb
         replace HO_32003 := re_ HO_32003 ho1 hb
         replace HO_43003 := re_ HO_43003 ho1 hb
         replace BK19 := kl_ BK19 hb
         replace BK20 := kl_ BK20 hb
         replace BK31 := kl_ BK31 hb
         replace BK42 := kl_ BK42 hb
         replace BK60 := kl_ BK60 hb
         replace HB := ss_ HB hb
         clear hb ho0 ho1
         refine hK.out _ _ ⟨bc0_ BK20.out, bc1_ BK20.out, bc0_ BK31.out, bc1_ BK31.out, bc2_ BK31.out, bc3_ BK31.out, bc4_ BK31.out⟩ (fun hHeld => ?_)
         clear hK K
         refine no_ 73 ?_
         refine pt_ 7 66 1279 ?_
         refine pt_ 8 74 1535 ?_
         refine pt_ 9 75 2047 ?_
         exact norm_ (by simp only [putAll, Act.put, List.setIfInBounds_toArray, List.set_cons_zero, List.set_cons_succ]) (hCont (v45, .slice Ao60 y47.length co60, v51, v56, gb60) _ ⟨hHeld, (kr_ HO49.out), (kr_ (Kd.R_mono HO52.out (fun _ hk => ⟨hk.1.1.2, ⟨hk.1.2, hk.2⟩⟩))), (kr_ (Kd.R_mono HO57.out (fun _ hk => ⟨hk.1.1.2, ⟨hk.1.2, hk.2⟩⟩))), (kr_ (Kd.R_mono HO_4.out (fun _ hk => ⟨hk.2, hk.1⟩))), (kr_ (Kd.R_mono HO_20000.out (fun _ hk => ⟨hk.2, ⟨hk.1.1, hk.1.2⟩⟩))), (kr_ (Kd.R_mono HO_20003.out (fun _ hk => ⟨hk.2, ⟨hk.1.1, hk.1.2⟩⟩))), (kr_ (Kd.R_mono HO_32000.out (fun _ hk => ⟨hk.2, ⟨hk.1.1, hk.1.2⟩⟩))), (kr_ (Kd.R_mono HO_32003.out (fun _ hk => ⟨hk.2, ⟨hk.1.1, hk.1.2⟩⟩))), (kr_ (Kd.R_mono HO_43000.out (fun _ hk => ⟨hk.2, ⟨hk.1.1, hk.1.2⟩⟩))), (kr_ (Kd.R_mono HO_43003.out (fun _ hk => ⟨hk.2, ⟨hk.1.1, hk.1.2⟩⟩))), (kb_ BK19.out), (kb_ BK20.out), (kb_ BK31.out), (kb_ BK42.out), (kb_ BK60.out), GW60.out, GE60.out, NB19_60.out, NB60_19.out, NB20_60.out, NB60_20.out, NB31_60.out, NB60_31.out, NB42_60.out, NB60_42.out, (bw_ HB)⟩)
       ·skip
        refine bz_ 11 39 #[.slice none 0 0, .int .i64 0, .string (⟨#[]⟩ : ByteArray), .slice none 0 0, .int .i64 0] ?_
        intro gb60 hg w58 hbox hb
        replace HO_4 := rb_ HO_4 hb
        replace HO_20000 := rb_ HO_20000 hb
        replace HO_20003 := rb_ HO_20003 hb
        replace HO_32000 := rb_ HO_32000 hb
        replace HO_32003 := rb_ HO_32003 hb
        replace HO_43000 := rb_ HO_43000 hb
        replace HO_43003 := rb_ HO_43003 hb
        replace HO46 := rb_ HO46 hb
        have BK60 := am_ hbox
        have GW60 := gg_ hg HB
        have GE60 := GW60
        replace HB := ss_ HB hb
        have NB19_60 := nla_ hg BK19
        have NB60_19 := nga_ hg BK19
        replace BK19 := kl_ BK19 hb
        have NB20_60 := nla_ hg BK20
        have NB60_20 := nga_ hg BK20
        replace BK20 := kl_ BK20 hb
        have NB31_60 := nla_ hg BK31
        have NB60_31 := nga_ hg BK31
        replace BK31 := kl_ BK31 hb
        have NB42_60 := nla_ hg BK42
        have NB60_42 := nga_ hg BK42
        replace BK42 := kl_ BK42 hb
        clear hb hbox hg
        refine hK.out _ _ ⟨bc0_ BK20.out, bc1_ BK20.out, bc0_ BK31.out, bc1_ BK31.out, bc2_ BK31.out, bc3_ BK31.out, bc4_ BK31.out⟩ (fun hHeld => ?_)
        clear hK K
        refine no_ 11 ?_
        refine oz_ 3 70 13 1087 (fun K hK => ?_)
        refine Kd.R_append_rows_step k25 (w0 := w) w.heap.size (by rfl) (.tmp 68) (.tmp 69) 40 25 (.agg #[(.int .i64 0), (.string ⟨#[]⟩)]) 24 rfl Try.underlying40 info25 rfl (by decide) (by omega) v45 y44 t11 _ _ _ (fun k_ => some k_ ≠ (.slice Ao16 t11.length co16 : Value).ownBlock ∧ k_ ≠ gb20) (fun _ => False) rfl rfl ?aO ?aR (fun _ _ h => h) (fun _ h => h.elim) ?aF ?aB ?aS ?aL ?_
        (case aR => repeat (first | exact (Kd.R_reads' HO_4.out).2.2 | (with_reducible refine Kd.C_alloc ?_ _) | (with_reducible refine Kd.C_drewN ?_ _) | (with_reducible refine Kd.C_drew ?_)))
        (case aB => exact (bw_ HB))
        (case aF => exact (fun k_ hk => ⟨Kd.fresh' (lt_ HO_4) k_ hk, Kd.freshB (kb_ BK20.out) k_ hk⟩))
        (case aO => exact (kr_ (Kd.R_mono HO46.out (fun _ hk => ⟨hk.1.2, hk.2⟩))))
        (case aS => exact (sz_ HB))
        (case aL => have := LMc47.out; omega)
        intro v48 w59 ho hb hg hat
        rw [← Ny47.out] at ho
        replace HO_4 := am_ (Kd.R_after (ok := (fun k_ => k_ ≠ gb20)) (kr_ HO_4.out) hg hat)
        replace HO_20000 := am_ (Kd.R_over' (kr_ HO_20000.out) (Kd.R_typed (kr_ HO46.out)) (by decide) hg)
        replace HO_20003 := am_ (Kd.R_over' (kr_ HO_20003.out) (Kd.R_typed (kr_ HO46.out)) (by decide) hg)
        replace HO_32000 := am_ (Kd.R_over' (kr_ HO_32000.out) (Kd.R_typed (kr_ HO46.out)) (by decide) hg)
        replace HO_32003 := am_ (Kd.R_over' (kr_ HO_32003.out) (Kd.R_typed (kr_ HO46.out)) (by decide) hg)
        replace HO_43000 := am_ (Kd.R_over' (kr_ HO_43000.out) (Kd.R_typed (kr_ HO46.out)) (by decide) hg)
        replace HO_43003 := am_ (Kd.R_over' (kr_ HO_43003.out) (Kd.R_typed (kr_ HO46.out)) (by decide) hg)
        replace BK19 := kg_ BK19 HO46 hg
        replace BK20 := am_ (blk_grown (kb_ BK20.out) hg (Kd.R_away HO46.out (fun _ hk => hk.2)))
        replace BK31 := kg_ BK31 HO46 hg
        replace BK42 := kg_ BK42 HO46 hg
        replace BK60 := kg_ BK60 HO46 hg
        replace HB := am_ hb
        have HO49 := am_ ho
        clear HO46
        clear ho hb hg hat
        obtain ⟨Ao60, co60, eo60⟩ := Kd.R_slice HO49.out
        (first | subst eo60 | (injection eo60 with f1_ f2_ f3_; have f4_ := f1_.symm; have f5_ := f3_.symm; clear f1_ f2_ f3_; subst f4_; subst f5_))
        refine hK.out _ _ ⟨bc0_ BK20.out, bc1_ BK20.out, bc0_ BK31.out, bc1_ BK31.out, bc2_ BK31.out, bc3_ BK31.out, bc4_ BK31.out⟩ (fun hHeld => ?_)
        clear hK K
        refine no_ 70 ?_
        refine oz_ 6 73 13 1151 (fun K hK => ?_)
        refine gf_ Try.func17 (impl_OpenStore.calls kj6 _ _ y47 _ _ t26 t50 t53 t54 t55 t58 t59 _ (ch_ HO49) (cl_ HO49) (ch_ HO_32003) (cl_ HO_32003) A48.out) ?_
        rintro e w61 ⟨v51, v56, rfl, ho0, ho1, hb⟩
        refine ⟨_, rfl, ?_⟩
        replace HO_4 := rb_ HO_4 hb
        replace HO49 := rb_ HO49 hb
        have HO52 := am_ (Kd.R_lower (Kd.R_new' (Kd.R_new' (Kd.R_new' ho0 (lt_ HO_20000)) (lt_ HO_32000)) (lt_ HO_43000)) (sz_ HB))
        replace HO_20000 := re_ HO_20000 ho0 hb
        replace HO_32000 := re_ HO_32000 ho0 hb
        replace HO_43000 := re_ HO_43000 ho0 hb
        have HO57 := am_ (Kd.R_lower (Kd.R_new' (Kd.R_new' (Kd.R_new' ho1 (lt_ HO_20003)) (lt_ HO_32003)) (lt_ HO_43003)) (sz_ HB))
        replace HO_20003 := re_ HO_20003 ho1 hb
        replace HO_32003 := re_ HO_32003 ho1 hb
        replace HO_43003 := re_ HO_43003 ho1 hb
        replace BK19 := kl_ BK19 hb
        replace BK20 := kl_ BK20 hb
        replace BK31 := kl_ BK31 hb
        replace BK42 := kl_ BK42 hb
        replace BK60 := kl_ BK60 hb
        replace HB := ss_ HB hb
        clear hb ho0 ho1
        refine hK.out _ _ ⟨bc0_ BK20.out, bc1_ BK20.out, bc0_ BK31.out, bc1_ BK31.out, bc2_ BK31.out, bc3_ BK31.out, bc4_ BK31.out⟩ (fun hHeld => ?_)
        clear hK K
        refine no_ 73 ?_
        refine pt_ 7 66 1279 ?_
        refine pt_ 8 74 1535 ?_
        refine pt_ 9 75 2047 ?_
        exact norm_ (by simp only [putAll, Act.put, List.setIfInBounds_toArray, List.set_cons_zero, List.set_cons_succ]) (hCont (v45, .slice Ao60 y47.length co60, v51, v56, gb60) _ ⟨hHeld, (kr_ HO49.out), (kr_ (Kd.R_mono HO52.out (fun _ hk => ⟨hk.1.1.2, ⟨hk.1.2, hk.2⟩⟩))), (kr_ (Kd.R_mono HO57.out (fun _ hk => ⟨hk.1.1.2, ⟨hk.1.2, hk.2⟩⟩))), (kr_ (Kd.R_mono HO_4.out (fun _ hk => ⟨hk.2, hk.1⟩))), (kr_ (Kd.R_mono HO_20000.out (fun _ hk => ⟨hk.2, ⟨hk.1.1, hk.1.2⟩⟩))), (kr_ (Kd.R_mono HO_20003.out (fun _ hk => ⟨hk.2, ⟨hk.1.1, hk.1.2⟩⟩))), (kr_ (Kd.R_mono HO_32000.out (fun _ hk => ⟨hk.2, ⟨hk.1.1, hk.1.2⟩⟩))), (kr_ (Kd.R_mono HO_32003.out (fun _ hk => ⟨hk.2, ⟨hk.1.1, hk.1.2⟩⟩))), (kr_ (Kd.R_mono HO_43000.out (fun _ hk => ⟨hk.2, ⟨hk.1.1, hk.1.2⟩⟩))), (kr_ (Kd.R_mono HO_43003.out (fun _ hk => ⟨hk.2, ⟨hk.1.1, hk.1.2⟩⟩))), (kb_ BK19.out), (kb_ BK20.out), (kb_ BK31.out), (kb_ BK42.out), (kb_ BK60.out), GW60.out, GE60.out, NB19_60.out, NB60_19.out, NB20_60.out, NB60_20.out, NB31_60.out, NB60_31.out, NB42_60.out, NB60_42.out, (bw_ HB)⟩)
      ·skip
       refine bz_ 11 39 #[.slice none 0 0, .int .i64 0, .string (⟨#[]⟩ : ByteArray), .slice none 0 0, .int .i64 0] ?_
       intro gb60 hg w56 hbox hb
       replace HO_4 := rb_ HO_4 hb
       replace HO_20000 := rb_ HO_20000 hb
       replace HO_20003 := rb_ HO_20003 hb
       replace HO_32000 := rb_ HO_32000 hb
       replace HO_32003 := rb_ HO_32003 hb
       replace HO_43000 := rb_ HO_43000 hb
       replace HO_43003 := rb_ HO_43003 hb
       have BK60 := am_ hbox
       have GW60 := gg_ hg HB
       have GE60 := GW60
       replace HB := ss_ HB hb
       have NB19_60 := nla_ hg BK19
       have NB60_19 := nga_ hg BK19
       replace BK19 := kl_ BK19 hb
       have NB20_60 := nla_ hg BK20
       have NB60_20 := nga_ hg BK20
       replace BK20 := kl_ BK20 hb
       have NB31_60 := nla_ hg BK31
       have NB60_31 := nga_ hg BK31
       replace BK31 := kl_ BK31 hb
       have NB42_60 := nla_ hg BK42
       have NB60_42 := nga_ hg BK42
       replace BK42 := kl_ BK42 hb
       clear hb hbox hg
       refine hK.out _ _ ⟨bc0_ BK20.out, bc1_ BK20.out, bc0_ BK31.out, bc1_ BK31.out, bc2_ BK31.out, bc3_ BK31.out, bc4_ BK31.out⟩ (fun hHeld => ?_)
       clear hK K
       refine no_ 11 ?_
       refine oz_ 1 68 13 1079 (fun K hK => ?_)
       refine Kd.R_lit_step k25 _ 25 ?hg (N := 68) ?hd (xs := ([(⟨t14, t15⟩ : S25)] : List (S25))) (inner := [.int .i64 t14, .string t15]) (ok := fun _ => True) (okp := fun _ => True) ?hr ?hp (fun _ hk => hk) trivial (Below.refl _ _) (Nat.le_refl _) (by simp) ?_; (case hd => rfl); (case hg => rfl); (case hr => first | (go_simp; done) | (go_simp; rfl)); (case hp => exact (Reps.c2 (show Kd.M k25 _ _ _ (⟨t14, t15⟩ : S25) [.int .i64 t14, .string t15] from (k25_mkM _ _ _ (⟨t14, t15⟩ : S25) )) (Reps.none _ _)))
       intro v45 w57 ho58 hb hg_ hnew_
       clear hg_ hnew_
       (first | rw [← Ny44.out] at ho58 | (simp only [Int.reduceToNat] at ho58; rw [← Ny44.out] at ho58))
       replace HO_20000 := rb_ HO_20000 hb
       replace HO_20003 := rb_ HO_20003 hb
       replace HO_32000 := rb_ HO_32000 hb
       replace HO_32003 := rb_ HO_32003 hb
       replace HO_43000 := rb_ HO_43000 hb
       replace HO_43003 := rb_ HO_43003 hb
       have HO46 := am_ (Kd.R_lower (Kd.R_newB (Kd.R_new' ho58 (lt_ HO_4)) (kb_ BK20.out)) (sz_ HB))
       replace HO_4 := re_ HO_4 ho58 hb
       replace BK19 := kl_ BK19 hb
       replace BK20 := kl_ BK20 hb
       replace BK31 := kl_ BK31 hb
       replace BK42 := kl_ BK42 hb
       replace BK60 := kl_ BK60 hb
       replace HB := ss_ HB hb
       clear hb ho58
       refine hK.out _ _ ⟨bc0_ BK20.out, bc1_ BK20.out, bc0_ BK31.out, bc1_ BK31.out, bc2_ BK31.out, bc3_ BK31.out, bc4_ BK31.out⟩ (fun hHeld => ?_)
       clear hK K
       refine no_ 68 ?_
       refine oz_ 3 70 13 1087 (fun K hK => ?_)
       refine Kd.R_append_rows_step k25 (w0 := w) w.heap.size (by rfl) (.tmp 68) (.tmp 69) 40 25 (.agg #[(.int .i64 0), (.string ⟨#[]⟩)]) 24 rfl Try.underlying40 info25 rfl (by decide) (by omega) v45 y44 t11 _ _ _ (fun k_ => some k_ ≠ (.slice Ao16 t11.length co16 : Value).ownBlock ∧ k_ ≠ gb20) (fun _ => False) rfl rfl ?aO ?aR (fun _ _ h => h) (fun _ h => h.elim) ?aF ?aB ?aS ?aL ?_
       (case aR => repeat (first | exact (Kd.R_reads' HO_4.out).2.2 | (with_reducible refine Kd.C_alloc ?_ _) | (with_reducible refine Kd.C_drewN ?_ _) | (with_reducible refine Kd.C_drew ?_)))
       (case aB => exact (bw_ HB))
       (case aF => exact (fun k_ hk => ⟨Kd.fresh' (lt_ HO_4) k_ hk, Kd.freshB (kb_ BK20.out) k_ hk⟩))
       (case aO => exact (kr_ (Kd.R_mono HO46.out (fun _ hk => ⟨hk.1.2, hk.2⟩))))
       (case aS => exact (sz_ HB))
       (case aL => have := LMc47.out; omega)
       intro v48 w59 ho hb hg hat
       rw [← Ny47.out] at ho
       replace HO_4 := am_ (Kd.R_after (ok := (fun k_ => k_ ≠ gb20)) (kr_ HO_4.out) hg hat)
       replace HO_20000 := am_ (Kd.R_over' (kr_ HO_20000.out) (Kd.R_typed (kr_ HO46.out)) (by decide) hg)
       replace HO_20003 := am_ (Kd.R_over' (kr_ HO_20003.out) (Kd.R_typed (kr_ HO46.out)) (by decide) hg)
       replace HO_32000 := am_ (Kd.R_over' (kr_ HO_32000.out) (Kd.R_typed (kr_ HO46.out)) (by decide) hg)
       replace HO_32003 := am_ (Kd.R_over' (kr_ HO_32003.out) (Kd.R_typed (kr_ HO46.out)) (by decide) hg)
       replace HO_43000 := am_ (Kd.R_over' (kr_ HO_43000.out) (Kd.R_typed (kr_ HO46.out)) (by decide) hg)
       replace HO_43003 := am_ (Kd.R_over' (kr_ HO_43003.out) (Kd.R_typed (kr_ HO46.out)) (by decide) hg)
       replace BK19 := kg_ BK19 HO46 hg
       replace BK20 := am_ (blk_grown (kb_ BK20.out) hg (Kd.R_away HO46.out (fun _ hk => hk.2)))
       replace BK31 := kg_ BK31 HO46 hg
       replace BK42 := kg_ BK42 HO46 hg
       replace BK60 := kg_ BK60 HO46 hg
       replace HB := am_ hb
       have HO49 := am_ ho
       clear HO46
       clear ho hb hg hat
       obtain ⟨Ao60, co60, eo60⟩ := Kd.R_slice HO49.out
       (first | subst eo60 | (injection eo60 with f1_ f2_ f3_; have f4_ := f1_.symm; have f5_ := f3_.symm; clear f1_ f2_ f3_; subst f4_; subst f5_))
       refine hK.out _ _ ⟨bc0_ BK20.out, bc1_ BK20.out, bc0_ BK31.out, bc1_ BK31.out, bc2_ BK31.out, bc3_ BK31.out, bc4_ BK31.out⟩ (fun hHeld => ?_)
       clear hK K
       refine no_ 70 ?_
       refine oz_ 6 73 13 1151 (fun K hK => ?_)
       refine gf_ Try.func17 (impl_OpenStore.calls kj6 _ _ y47 _ _ t26 t50 t53 t54 t55 t58 t59 _ (ch_ HO49) (cl_ HO49) (ch_ HO_32003) (cl_ HO_32003) A48.out) ?_
       rintro e w61 ⟨v51, v56, rfl, ho0, ho1, hb⟩
       refine ⟨_, rfl, ?_⟩
       replace HO_4 := rb_ HO_4 hb
       replace HO49 := rb_ HO49 hb
       have HO52 := am_ (Kd.R_lower (Kd.R_new' (Kd.R_new' (Kd.R_new' ho0 (lt_ HO_20000)) (lt_ HO_32000)) (lt_ HO_43000)) (sz_ HB))
       replace HO_20000 := re_ HO_20000 ho0 hb
       replace HO_32000 := re_ HO_32000 ho0 hb
       replace HO_43000 := re_ HO_43000 ho0 hb
       have HO57 := am_ (Kd.R_lower (Kd.R_new' (Kd.R_new' (Kd.R_new' ho1 (lt_ HO_20003)) (lt_ HO_32003)) (lt_ HO_43003)) (sz_ HB))
       replace HO_20003 := re_ HO_20003 ho1 hb
       replace HO_32003 := re_ HO_32003 ho1 hb
       replace HO_43003 := re_ HO_43003 ho1 hb
       replace BK19 := kl_ BK19 hb
       replace BK20 := kl_ BK20 hb
       replace BK31 := kl_ BK31 hb
       replace BK42 := kl_ BK42 hb
       replace BK60 := kl_ BK60 hb
       replace HB := ss_ HB hb
       clear hb ho0 ho1
       refine hK.out _ _ ⟨bc0_ BK20.out, bc1_ BK20.out, bc0_ BK31.out, bc1_ BK31.out, bc2_ BK31.out, bc3_ BK31.out, bc4_ BK31.out⟩ (fun hHeld => ?_)
       clear hK K
       refine no_ 73 ?_
       refine pt_ 7 66 1279 ?_
       refine pt_ 8 74 1535 ?_
       refine pt_ 9 75 2047 ?_
       exact norm_ (by simp only [putAll, Act.put, List.setIfInBounds_toArray, List.set_cons_zero, List.set_cons_succ]) (hCont (v45, .slice Ao60 y47.length co60, v51, v56, gb60) _ ⟨hHeld, (kr_ HO49.out), (kr_ (Kd.R_mono HO52.out (fun _ hk => ⟨hk.1.1.2, ⟨hk.1.2, hk.2⟩⟩))), (kr_ (Kd.R_mono HO57.out (fun _ hk => ⟨hk.1.1.2, ⟨hk.1.2, hk.2⟩⟩))), (kr_ (Kd.R_mono HO_4.out (fun _ hk => ⟨hk.2, hk.1⟩))), (kr_ (Kd.R_mono HO_20000.out (fun _ hk => ⟨hk.2, ⟨hk.1.1, hk.1.2⟩⟩))), (kr_ (Kd.R_mono HO_20003.out (fun _ hk => ⟨hk.2, ⟨hk.1.1, hk.1.2⟩⟩))), (kr_ (Kd.R_mono HO_32000.out (fun _ hk => ⟨hk.2, ⟨hk.1.1, hk.1.2⟩⟩))), (kr_ (Kd.R_mono HO_32003.out (fun _ hk => ⟨hk.2, ⟨hk.1.1, hk.1.2⟩⟩))), (kr_ (Kd.R_mono HO_43000.out (fun _ hk => ⟨hk.2, ⟨hk.1.1, hk.1.2⟩⟩))), (kr_ (Kd.R_mono HO_43003.out (fun _ hk => ⟨hk.2, ⟨hk.1.1, hk.1.2⟩⟩))), (kb_ BK19.out), (kb_ BK20.out), (kb_ BK31.out), (kb_ BK42.out), (kb_ BK60.out), GW60.out, GE60.out, NB19_60.out, NB60_19.out, NB20_60.out, NB60_20.out, NB31_60.out, NB60_31.out, NB42_60.out, NB60_42.out, (bw_ HB)⟩)
     rintro ⟨v45, v48, v51, v56, gb60⟩ w62 ⟨hS_, h0_, h1_, h2_, h3_, h4_, h5_, h6_, h7_, h8_, h9_, h10_, h11_, h12_, h13_, h14_, h15_, h16_, h17_, h18_, h19_, h20_, h21_, h22_, h23_, h24_, h25_⟩
     have n0_ : Aside0 (Kd.R k25 25 w62 w.heap.size (fun k_ => some k_ ≠ (.slice Ao16 t11.length co16 : Value).ownBlock ∧ k_ ≠ gb20) v48 y47) := ⟨h0_⟩
     have n1_ : Aside0 (Kd.R Kd.string 9 w62 w.heap.size (fun k_ => some k_ ≠ (.slice Ao11 t602.length co11 : Value).ownBlock ∧ some k_ ≠ (.slice Ao20 t21.length co20 : Value).ownBlock ∧ some k_ ≠ (.slice Ao29 t32.length co29 : Value).ownBlock) v51 t50) := ⟨h1_⟩
     have n2_ : Aside0 (Kd.R (Kd.int .u8) 5 w62 w.heap.size (fun k_ => some k_ ≠ (.slice Ao14 t7.length co14 : Value).ownBlock ∧ some k_ ≠ (.slice Ao24 t26.length co24 : Value).ownBlock ∧ some k_ ≠ (.slice Ao34 t37.length co34 : Value).ownBlock) v56 t55) := ⟨h2_⟩
     have n3_ : Aside0 (Kd.R k25 25 w62 w.heap.size (fun k_ => some k_ ≠ (v48 : Value).ownBlock ∧ k_ ≠ gb20) (.slice Ao16 t11.length co16) t11) := ⟨h3_⟩
     have n4_ : Aside0 (Kd.R Kd.string 9 w62 w.heap.size (fun k_ => some k_ ≠ (v51 : Value).ownBlock ∧ some k_ ≠ (.slice Ao20 t21.length co20 : Value).ownBlock ∧ some k_ ≠ (.slice Ao29 t32.length co29 : Value).ownBlock) (.slice Ao11 t602.length co11) t602) := ⟨h4_⟩
     have n5_ : Aside0 (Kd.R (Kd.int .u8) 5 w62 w.heap.size (fun k_ => some k_ ≠ (v56 : Value).ownBlock ∧ some k_ ≠ (.slice Ao24 t26.length co24 : Value).ownBlock ∧ some k_ ≠ (.slice Ao34 t37.length co34 : Value).ownBlock) (.slice Ao14 t7.length co14) t7) := ⟨h5_⟩
     have n6_ : Aside0 (Kd.R Kd.string 9 w62 w.heap.size (fun k_ => some k_ ≠ (v51 : Value).ownBlock ∧ some k_ ≠ (.slice Ao11 t602.length co11 : Value).ownBlock ∧ some k_ ≠ (.slice Ao29 t32.length co29 : Value).ownBlock) (.slice Ao20 t21.length co20) t21) := ⟨h6_⟩
     have n7_ : Aside0 (Kd.R (Kd.int .u8) 5 w62 w.heap.size (fun k_ => some k_ ≠ (v56 : Value).ownBlock ∧ some k_ ≠ (.slice Ao14 t7.length co14 : Value).ownBlock ∧ some k_ ≠ (.slice Ao34 t37.length co34 : Value).ownBlock) (.slice Ao24 t26.length co24) t26) := ⟨h7_⟩
     have n8_ : Aside0 (Kd.R Kd.string 9 w62 w.heap.size (fun k_ => some k_ ≠ (v51 : Value).ownBlock ∧ some k_ ≠ (.slice Ao11 t602.length co11 : Value).ownBlock ∧ some k_ ≠ (.slice Ao20 t21.length co20 : Value).ownBlock) (.slice Ao29 t32.length co29) t32) := ⟨h8_⟩
     have n9_ : Aside0 (Kd.R (Kd.int .u8) 5 w62 w.heap.size (fun k_ => some k_ ≠ (v56 : Value).ownBlock ∧ some k_ ≠ (.slice Ao14 t7.length co14 : Value).ownBlock ∧ some k_ ≠ (.slice Ao24 t26.length co24 : Value).ownBlock) (.slice Ao34 t37.length co34) t37) := ⟨h9_⟩
     have n10_ : Aside0 (w62.heap[gb19]? = some (.cells #[.slice Ao11 t602.length co11, .int .i64 t5, .string t6, .slice Ao14 t7.length co14, .int .i64 t10] 39 (0, 0))) := ⟨h10_⟩
     have n11_ : Aside0 (w62.heap[gb20]? = some (.cells #[.int .i64 t14, .string t15] 25 (0, 0))) := ⟨h11_⟩
     have n12_ : Aside0 (w62.heap[gb31]? = some (.cells #[.slice Ao20 t21.length co20, .int .i64 t24, .string t25, .slice Ao24 t26.length co24, .int .i64 t29] 39 (0, 0))) := ⟨h12_⟩
     have n13_ : Aside0 (w62.heap[gb42]? = some (.cells #[.slice Ao29 t32.length co29, .int .i64 t35, .string t36, .slice Ao34 t37.length co34, .int .i64 t40] 39 (0, 0))) := ⟨h13_⟩
     have n14_ : Aside0 (w62.heap[gb60]? = some (.cells #[.slice none 0 0, .int .i64 0, .string (⟨#[]⟩ : ByteArray), .slice none 0 0, .int .i64 0] 39 (0, 0))) := ⟨h14_⟩
     have n15_ : Aside0 (w.heap.size ≤ gb60) := ⟨h15_⟩
     have n16_ : Aside0 (w.heap.size ≤ gb60) := ⟨h16_⟩
     have n17_ : Aside0 (gb19 ≠ gb60) := ⟨h17_⟩
     have n18_ : Aside0 (gb60 ≠ gb19) := ⟨h18_⟩
     have n19_ : Aside0 (gb20 ≠ gb60) := ⟨h19_⟩
     have n20_ : Aside0 (gb60 ≠ gb20) := ⟨h20_⟩
     have n21_ : Aside0 (gb31 ≠ gb60) := ⟨h21_⟩
     have n22_ : Aside0 (gb60 ≠ gb31) := ⟨h22_⟩
     have n23_ : Aside0 (gb42 ≠ gb60) := ⟨h23_⟩
     have n24_ : Aside0 (gb60 ≠ gb42) := ⟨h24_⟩
     have n25_ : Aside0 (Below w.heap.size w w62) := ⟨h25_⟩
     clear HO_4
     clear HO_20000
     clear HO_20003
     clear HO_32000
     clear HO_32003
     clear HO_43000
     clear HO_43003
     clear BK19
     clear BK20
     clear BK31
     clear BK42
     clear HB
     clear h0_ h1_ h2_ h3_ h4_ h5_ h6_ h7_ h8_ h9_ h10_ h11_ h12_ h13_ h14_ h15_ h16_ h17_ h18_ h19_ h20_ h21_ h22_ h23_ h24_ h25_
     have HO49 := n0_
     have HO52 := n1_
     have HO57 := n2_
     have HO_4 := n3_
     have HO_20000 := n4_
     have HO_20003 := n5_
     have HO_32000 := n6_
     have HO_32003 := n7_
     have HO_43000 := n8_
     have HO_43003 := n9_
     have BK19 := n10_
     have BK20 := n11_
     have BK31 := n12_
     have BK42 := n13_
     have BK60 := n14_
     have GW60 := n15_
     have GE60 := n16_
     have NB19_60 := n17_
     have NB60_19 := n18_
     have NB20_60 := n19_
     have NB60_20 := n20_
     have NB31_60 := n21_
     have NB60_31 := n22_
     have NB42_60 := n23_
     have NB60_42 := n24_
     have HB := n25_
     clear n0_ n1_ n2_ n3_ n4_ n5_ n6_ n7_ n8_ n9_ n10_ n11_ n12_ n13_ n14_ n15_ n16_ n17_ n18_ n19_ n20_ n21_ n22_ n23_ n24_ n25_
     have hHeld : w62.cell? ⟨gb20, 0, none⟩ = some (.int .i64 t14) ∧ w62.cell? ⟨gb20, 1, none⟩ = some (.string t15) ∧ w62.cell? ⟨gb31, 0, none⟩ = some (.slice Ao20 t21.length co20) ∧ w62.cell? ⟨gb31, 1, none⟩ = some (.int .i64 t24) ∧ w62.cell? ⟨gb31, 2, none⟩ = some (.string t25) ∧ w62.cell? ⟨gb31, 3, none⟩ = some (.slice Ao24 t26.length co24) ∧ w62.cell? ⟨gb31, 4, none⟩ = some (.int .i64 t29) := hS_
     obtain ⟨Ao63, co63, eo63⟩ := Kd.R_slice HO52.out
     (first | subst eo63 | (injection eo63 with f1_ f2_ f3_; have f4_ := f1_.symm; have f5_ := f3_.symm; clear f1_ f2_ f3_; subst f4_; subst f5_))
     obtain ⟨Ao67, co67, eo67⟩ := Kd.R_slice HO57.out
     (first | subst eo67 | (injection eo67 with f1_ f2_ f3_; have f4_ := f1_.symm; have f5_ := f3_.symm; clear f1_ f2_ f3_; subst f4_; subst f5_))
     refine nj_ ?_
     refine one_ (i := 11) (N := none) (lz_ 13 4095) rfl rfl (one_of HT_.out (by kernel_rfl)) (by decide) (fun K hK => ?_)
     have hs64 := bc0_ BK60.out
     have hfs64 := blk_frozen BK60.out 0
     have hns64_0 := NB19_60.out
     have hns64_1 := NB20_60.out
     have hns64_2 := NB31_60.out
     have hns64_3 := NB42_60.out
     have hms64_0 := NB60_19.out
     have hms64_1 := NB60_20.out
     have hms64_2 := NB60_31.out
     have hms64_3 := NB60_42.out
     have hs65 := bc1_ BK60.out
     have hfs65 := blk_frozen BK60.out 1
     have hns65_0 := NB19_60.out
     have hns65_1 := NB20_60.out
     have hns65_2 := NB31_60.out
     have hns65_3 := NB42_60.out
     have hms65_0 := NB60_19.out
     have hms65_1 := NB60_20.out
     have hms65_2 := NB60_31.out
     have hms65_3 := NB60_42.out
     have hs66 := bc2_ BK60.out
     have hfs66 := blk_frozen BK60.out 2
     have hns66_0 := NB19_60.out
     have hns66_1 := NB20_60.out
     have hns66_2 := NB31_60.out
     have hns66_3 := NB42_60.out
     have hms66_0 := NB60_19.out
     have hms66_1 := NB60_20.out
     have hms66_2 := NB60_31.out
     have hms66_3 := NB60_42.out
     have hs68 := bc3_ BK60.out
     have hfs68 := blk_frozen BK60.out 3
     have hns68_0 := NB19_60.out
     have hns68_1 := NB20_60.out
     have hns68_2 := NB31_60.out
     have hns68_3 := NB42_60.out
     have hms68_0 := NB60_19.out
     have hms68_1 := NB60_20.out
     have hms68_2 := NB60_31.out
     have hms68_3 := NB60_42.out
     have hs69 := bc4_ BK60.out
     have hfs69 := blk_frozen BK60.out 4
     have hns69_0 := NB19_60.out
     have hns69_1 := NB20_60.out
     have hns69_2 := NB31_60.out
     have hns69_3 := NB42_60.out
     have hms69_0 := NB60_19.out
     have hms69_1 := NB60_20.out
     have hms69_2 := NB60_31.out
     have hms69_3 := NB60_42.out
     refine skip_ (w1 := ?_) (by rfl) rfl ?_ ?_
     rotate_left
     ·go_simp
      rfl
     refine hK.out _ _ ⟨(cf_ NB20_60 hHeld.1), (cf_ NB20_60 hHeld.2.1), (cf_ NB31_60 hHeld.2.2.1), (cf_ NB31_60 hHeld.2.2.2.1), (cf_ NB31_60 hHeld.2.2.2.2.1), (cf_ NB31_60 hHeld.2.2.2.2.2.1), (cf_ NB31_60 hHeld.2.2.2.2.2.2)⟩ (fun hHeld => ?_)
     clear hK K
     refine pt_ 12 12 8191 ?_
     refine dn_ ?_
     have hnb70 := NB31_19.out
     have hnc70 := NB19_31.out
     have hnb71 := NB31_20.out
     have hnc71 := NB20_31.out
     have hnb72 := NB31_42.out
     have hnc72 := NB42_31.out
     have hnb73 := NB31_60.out
     have hnc73 := NB60_31.out
     have hz74 := cz5_ BK31
     replace H := it_ H; obtain ⟨c53, H⟩ | ⟨c53, H⟩ := H
     ·have c53b0 : decide (0 < t59) = true := decide_eq_true c53
      clear c53
      replace H := bi_ H; obtain ⟨t62, A54, H⟩ := H
      obtain rfl := Option.some.inj H
      try go_wp2_with (first | ((with_reducible refine gq_ 18 77 ?_); refine gc_ 77 Try.func18 (impl_StoreOk.calls kj6 _ _ t21 t24 t25 _ _ t26 t29 true _ (chf_ HO_32000 BK60) (cl_ HO_32000) (chf_ HO_32003 BK60) (cl_ HO_32003) A49.out) ?_; rintro e w75 ⟨rfl, hb⟩; refine ⟨_, rfl, ?_⟩; replace HO_4 := rbf_ HO_4 BK60 hb; replace HO_20000 := rbf_ HO_20000 BK60 hb; replace HO_20003 := rbf_ HO_20003 BK60 hb; replace HO_32000 := rbf_ HO_32000 BK60 hb; replace HO_32003 := rbf_ HO_32003 BK60 hb; replace HO_43000 := rbf_ HO_43000 BK60 hb; replace HO_43003 := rbf_ HO_43003 BK60 hb; replace HO49 := rbf_ HO49 BK60 hb; replace HO52 := rbf_ HO52 BK60 hb; replace HO57 := rbf_ HO57 BK60 hb; replace BK19 := kp_ BK19 hb; replace BK20 := kp_ BK20 hb; replace BK31 := kp_ BK31 hb; replace BK42 := kp_ BK42 hb; replace BK60 := kp_ BK60 hb; replace HB := ss_ HB hb; clear hb; have hz76 := cz5_ BK31; have hnb77 := NB20_19.out; have hnc77 := NB19_20.out; have hnb78 := NB20_42.out; have hnc78 := NB42_20.out; have hnb79 := NB20_60.out; have hnc79 := NB60_20.out; have hz80 := cz2_ BK20; have hnb81 := NB19_42.out; have hnc81 := NB42_19.out; have hnb82 := NB19_60.out; have hnc82 := NB60_19.out; have hz83 := cz5_ BK19; have hnb84 := NB60_42.out; have hnc84 := NB42_60.out; have hz85 := cz5_ BK60) | (go_at_call 19; (with_reducible refine (laws_begins.calls kj6 _ _ t50 _ _ t21 t62 _ ?side1 ?side2 ?side3 ?side4 A54.out).mono ?_); (case side1 => exact ch_ HO52); (case side2 => exact (cl_ HO52)); (case side3 => exact ch_ HO_32000); (case side4 => exact (cl_ HO_32000)); rintro e w' ⟨rfl, ⟨nd, rfl⟩⟩))
      go_ret
      exact ⟨e2_, bw_ HB⟩
     ·have c53b0 : decide (0 < t59) = false := decide_eq_false c53
      clear c53
      replace H := ip_ H; obtain ⟨c86, H⟩ := H
      have c86b0 : decide (0 < (t7.length : Int)) = true := decide_eq_true c86
      have c86b1 : decide (0 < t7.length) = true := decide_eq_true (by omega)
      clear c86
      replace H := bi_ H; obtain ⟨t63, A87, H⟩ := H
      obtain rfl := Option.some.inj H
      try go_wp2_with (first | ((with_reducible refine gq_ 18 77 ?_); refine gc_ 77 Try.func18 (impl_StoreOk.calls kj6 _ _ t21 t24 t25 _ _ t26 t29 true _ (chf_ HO_32000 BK60) (cl_ HO_32000) (chf_ HO_32003 BK60) (cl_ HO_32003) A49.out) ?_; rintro e w108 ⟨rfl, hb⟩; refine ⟨_, rfl, ?_⟩; replace HO_4 := rbf_ HO_4 BK60 hb; replace HO_20000 := rbf_ HO_20000 BK60 hb; replace HO_20003 := rbf_ HO_20003 BK60 hb; replace HO_32000 := rbf_ HO_32000 BK60 hb; replace HO_32003 := rbf_ HO_32003 BK60 hb; replace HO_43000 := rbf_ HO_43000 BK60 hb; replace HO_43003 := rbf_ HO_43003 BK60 hb; replace HO49 := rbf_ HO49 BK60 hb; replace HO52 := rbf_ HO52 BK60 hb; replace HO57 := rbf_ HO57 BK60 hb; replace BK19 := kp_ BK19 hb; replace BK20 := kp_ BK20 hb; replace BK31 := kp_ BK31 hb; replace BK42 := kp_ BK42 hb; replace BK60 := kp_ BK60 hb; replace HB := ss_ HB hb; clear hb; have hz109 := cz5_ BK31; have hnb110 := NB20_19.out; have hnc110 := NB19_20.out; have hnb111 := NB20_42.out; have hnc111 := NB42_20.out; have hnb112 := NB20_60.out; have hnc112 := NB60_20.out; have hz113 := cz2_ BK20; have hnb114 := NB19_42.out; have hnc114 := NB42_19.out; have hnb115 := NB19_60.out; have hnc115 := NB60_19.out; have hz116 := cz5_ BK19; have hnb117 := NB60_42.out; have hnc117 := NB42_60.out; have hz118 := cz5_ BK60) | (go_at_call 19; (with_reducible refine (laws_begins.calls kj6 _ _ t50 _ _ t21 t63 _ ?side1 ?side2 ?side3 ?side4 A87.out).mono ?_); (case side1 => exact ch_ HO52); (case side2 => exact (cl_ HO52)); (case side3 => exact ch_ HO_32000); (case side4 => exact (cl_ HO_32000)); rintro e w' ⟨rfl, ⟨nd, rfl⟩⟩))
      go_ret
      exact ⟨e2_, bw_ HB⟩
end
end Go.Proofs.Ytnlndmoecljicaa.Q
end
section
namespace Go.Proofs.Ytnlndmoecljicaa.Q
open Go.RowKit Go.Proofs.Ytnlndmoecljicaa.XO Go.Proofs.YtnlndmoecljicaaW.PrintWords Go.ChangeShapes Go.WideShapes Go.ChangeAt
def laws_FnStored.Pure : Prop := ∀ (x0 : List Int), (x0.length ≤ 9223372036854775807 ∧ ∀ y0 ∈ x0, (Lit.int .u8 y0).wf = true) → ∃ k, laws_FnStored.f k x0 = some true
namespace RFnStored
theorem own : ownKnob Try.prog.godebug = none := by kernel_rfl
theorem laidOut : laidOutB Try.prog = true := by kernel_rfl
set_option maxRecDepth 100000 in
theorem lifted (PU : laws_FnStored.Pure) (os : Os) (started : os.Started) (H : Type) (enc : TypeId × Value → H) :
  ReturnsInHanded {} Try.checked os 4 .any (Rows.fnStoredSpec.pre6 enc Try.prog Try.f4 Rows.fnStoredRow.domain false) (Rows.fnStoredSpec.post enc Try.prog Try.f4 false true false false) := by
 refine returnsInHanded_of_change_sized (C := Try.checked) own started (by kernel_rfl) Try.func4
  (ChangeSpec.witness6 (enc := enc) (C := Try.checked) false ⟨#[], #[.slice none 0 0], []⟩ 8 (by kernel_rfl) (by kernel_rfl) (by kernel_rfl) (by kernel_rfl)) ?_
 intro W base args ds gs before hval0 hW hcnd hsz0 _
 have hval : ∀ (j : Nat) t v, Try.f4.params[j]? = some t → args[j]? = some v → Value.okWide Try.prog W .any base t v := hval0
 have hW' := hW
 obtain ⟨p, q, hA0, hV, rfl, hfz, hnd⟩ := hW
 have hA : DataW.TrodAll enc Try.prog W 0 (fun _ => true) true Try.f4.params.toList args.toList ds p := hA0
 rw [Try.params4] at hA hval
 obtain ⟨v0, vs0, d0, ds0, p0, q0, hargs, rfl, rfl, h0, r0⟩ := trodAll_cons hA
 obtain ⟨rfl, rfl, rfl⟩ := trodAll_nil r0
 obtain rfl : args = #[v0] := by cases args; simp_all
 obtain ⟨rfl, rfl⟩ := trodVars_none hV
 have kk0 := h0
 have lt0 : ∀ x ∈ p0, x.block < W.heap.size := by obtain ⟨m, hm⟩ := kk0; exact DataW.trod_lt m _ _ _ hm
 obtain ⟨A0, len0, c0, rfl⟩ := okWide_slice Try.underlying22 (hval 0 22 v0 rfl rfl)
 obtain ⟨fu0, hf0⟩ := h0
 obtain ⟨x0, ⟨A0', c0', he0, hc0, hr0⟩, g0⟩ := (opens_slice Try.underlying22 (by kernel_rfl) (opens_int Try.underlying5)) hf0
 obtain ⟨rfl, rfl, rfl⟩ : A0 = A0' ∧ len0 = x0.length ∧ c0 = c0' := by simpa [Value.cells] using he0
 clear hA0 hval0 hsz0
 obtain ⟨k, hp⟩ := PU x0 g0
 refine (laws_FnStored.calls k _ _ x0 true W hr0 hc0 hp).mono fun e W' ⟨he, bel0⟩ => ?_
 have bel : Below W.heap.size W W' := bel0
 subst he
 exact ⟨_, rfl, _, _, _, [], _, [], hW', trodAll_mk1 (shut_bool Try.underlying4 _), (trodAll_cons_mk (Below.trod laidOut (by kernel_rfl) (of_decide_eq_true (by kernel_rfl)) kk0 bel lt0) trodAll_mk0), rfl, bel.frame _, fun h => by cases h⟩
theorem over (PU : laws_FnStored.Pure) : Rows.fnStoredRow.holds Try.pinned (OpenSpec.ofChange Rows.fnStoredSpec) :=
 OpenClaim.holds_of_wide 4 Try.f4 rfl rfl rfl rfl rfl rfl rfl ⟨rfl, rfl, rfl, rfl, rfl⟩ rfl rfl rfl rfl rfl (by kernel_rfl) Try.func4 (by kernel_rfl)
  (of_decide_eq_true (by kernel_rfl)) (by unfold Func.isWrapper; first | (rw [if_pos (by decide +kernel)]; kernel_rfl) | (rw [if_neg (by decide +kernel)]; exact ⟨rfl, rfl⟩))
  (fun os started H enc _ => lifted PU os started H enc)
end RFnStored
theorem FnStored_row (PU : laws_FnStored.Pure) : Rows.FnStoredSaid := RFnStored.over PU
end Go.Proofs.Ytnlndmoecljicaa.Q
end
section
namespace Go.Proofs.Ytnlndmoecljicaa.Q
open Go.Proofs.Ytnlndmoecljicaa.B Go.Proofs.YtnlndmoecljicaaW.PrintMore Go.Proofs.YtnlndmoecljicaaW.PrintWords Go.RowKit
set_option maxHeartbeats 8000000
set_option maxRecDepth 100000
theorem bytesOf_range (s : ByteArray) : ∀ x ∈ bytesOf s, 0 ≤ x ∧ x ≤ 255 := by
 intro x hx
 simp only [bytesOf, List.mem_map] at hx
 obtain ⟨b, _, rfl⟩ := hx
 have := b.toNat_lt
 omega
def leafH (a : ByteArray) : ByteArray := sha (0 :: bytesOf a)
def nodeH (a b : ByteArray) : ByteArray := sha (1 :: (bytesOf a ++ bytesOf b))
theorem leafH_size (a : ByteArray) : (leafH a).size = 32 := sha_size _
theorem nodeH_size (a b : ByteArray) : (nodeH a b).size = 32 := sha_size _
theorem cons_range {c : Int} {l : List Int} (h0 : 0 ≤ c ∧ c ≤ 255) (h : ∀ x ∈ l, 0 ≤ x ∧ x ≤ 255) : ∀ x ∈ c :: l, 0 ≤ x ∧ x ≤ 255 := by
 intro x hx
 rcases List.mem_cons.1 hx with rfl | hx
 ·exact h0
 ·exact h x hx
theorem impl_leaf (a : ByteArray) (h : a.size ≤ 1099511627775) : impl_LeafHash.f a = some (leafH a) := by
 unfold impl_LeafHash.f
 simp only [Option.bind_some, List.length_cons, List.length_nil]
 rw [if_pos (by omega)]
 have e : ([0] : List Int) ++ bytesOf a = 0 :: bytesOf a := rfl
 rw [e, impl_Digest_is _ (by rw [List.length_cons, bytesOf_length]; omega)]
 rfl
theorem impl_node (a b : ByteArray) (h : a.size + b.size ≤ 1099511627775) : impl_NodeHash.f a b = some (nodeH a b) := by
 unfold impl_NodeHash.f
 simp only [Option.bind_some, List.length_cons, List.length_nil]
 rw [if_pos (by omega), if_pos (by simp [bytesOf_length]; omega)]
 have e : [1] ++ bytesOf a ++ bytesOf b = 1 :: (bytesOf a ++ bytesOf b) := rfl
 rw [e, impl_Digest_is _ (by rw [List.length_cons, List.length_append, bytesOf_length, bytesOf_length]; omega)]
 rfl
theorem spec_leaf (a : ByteArray) (h : a.size ≤ 1099511627775) : Ev (fun k => spec_LeafHash.f k a) (leafH a) := by
 refine Ev.congr (fun k => ?_) (Ev.bind (spec_Digest_ev (0 :: bytesOf a) (by rw [List.length_cons, bytesOf_length]; omega) (cons_range (by omega) (bytesOf_range a))) (Ev.now _))
 unfold spec_LeafHash.f
 simp only [Option.bind_some, List.length_cons, List.length_nil]
 rw [if_pos (by omega)]
 rfl
theorem spec_node (a b : ByteArray) (h : a.size + b.size ≤ 1099511627775) : Ev (fun k => spec_NodeHash.f k a b) (nodeH a b) := by
 refine Ev.congr (fun k => ?_) (Ev.bind (spec_Digest_ev (1 :: (bytesOf a ++ bytesOf b)) (by rw [List.length_cons, List.length_append, bytesOf_length, bytesOf_length]; omega) (cons_range (by omega) (fun x hx => ?_))) (Ev.now _))
 ·unfold spec_NodeHash.f
  simp only [Option.bind_some, List.length_cons, List.length_nil]
  rw [if_pos (by omega), if_pos (by simp [bytesOf_length]; omega)]
  rfl
 ·rcases List.mem_append.1 hx with hx | hx
  ·exact bytesOf_range _ x hx
  ·exact bytesOf_range _ x hx
def half (n : Nat) : Nat := 2 ^ (n - 1).log2
theorem half_pos (n : Nat) : 1 ≤ half n := Nat.one_le_two_pow
theorem half_lt {n : Nat} (h : 2 ≤ n) : half n < n := by
 have := Nat.log2_self_le (n := n - 1) (by omega)
 unfold half
 omega
theorem half_l0 (n : Nat) (h2 : 2 ≤ n) (hn : n ≤ 4611686018427387904) : ∀ (d j : Nat), d + j = (n - 1).log2 → Ev (fun k => spec_l6Half.l0 k (n : Int) ((2 ^ j : Nat) : Int)) ((half n : Nat) : Int) := by
 have hself := Nat.log2_self_le (n := n - 1) (by omega)
 have hlt := Nat.lt_log2_self (n := n - 1)
 intro d
 induction d with
 | zero =>
  intro j hj
  obtain rfl : j = (n - 1).log2 := by omega
  refine Ev.step (f := fun _ => some ((half n : Nat) : Int)) (fun k => ?_) (Ev.now _)
  rw [Nat.pow_succ] at hlt
  simp only [spec_l6Half.l0]
  rw [w64 (by omega) (by omega), if_neg (by omega)]
  rfl
 | succ d ih =>
  intro j hj
  have hp : 2 ^ (j + 1) ≤ 2 ^ (n - 1).log2 := Nat.pow_le_pow_right (by decide) (by omega)
  have hs : 2 ^ (j + 1) = 2 ^ j * 2 := Nat.pow_succ _ _
  refine Ev.step (fun k => ?_) (ih (j + 1) (by omega))
  simp only [spec_l6Half.l0]
  rw [w64 (by omega) (by omega), if_pos (by omega)]
  congr 1
  omega
theorem spec_half (n : Nat) (h2 : 2 ≤ n) (hn : n ≤ 4611686018427387904) : Ev (fun k => spec_l6Half.f k (n : Int)) ((half n : Nat) : Int) := half_l0 n h2 hn (n - 1).log2 0 rfl
theorem half_same (k : Nat) (n x : Int) : impl_half.l0 k n x = spec_l6Half.l0 k n x := by
 induction k generalizing x with
 | zero => simp only [impl_half.l0, spec_l6Half.l0]
 | succ k ih =>
  simp only [impl_half.l0, spec_l6Half.l0]
  rw [ih, Int.mul_comm]
theorem impl_half_ev (n : Nat) (h2 : 2 ≤ n) (hn : n ≤ 4611686018427387904) : Ev (fun k => impl_half.f k (n : Int)) ((half n : Nat) : Int) := by
 refine Ev.congr (fun k => ?_) (spec_half n h2 hn)
 unfold impl_half.f spec_l6Half.f
 rw [half_same]
def rootBy (lf : ByteArray → ByteArray) (l : List ByteArray) : ByteArray :=
 if h : 2 ≤ l.length then nodeH (rootBy lf (l.take (half l.length))) (rootBy lf (l.drop (half l.length)))
 else match l with
  | [] => sha []
  | a :: _ => lf a
termination_by l.length
decreasing_by
 ·have := half_lt h
  simp
  omega
 ·have := half_pos l.length
  simp
  omega
theorem rootBy_nil (lf : ByteArray → ByteArray) : rootBy lf [] = sha [] := by
 rw [rootBy]
 simp
theorem rootBy_one (lf : ByteArray → ByteArray) (a : ByteArray) : rootBy lf [a] = lf a := by
 rw [rootBy]
 simp
theorem rootBy_more (lf : ByteArray → ByteArray) {l : List ByteArray} (h : 2 ≤ l.length) : rootBy lf l = nodeH (rootBy lf (l.take (half l.length))) (rootBy lf (l.drop (half l.length))) := by
 rw [rootBy, dif_pos h]
theorem list_one {l : List ByteArray} (h : l.length = 1) : ∃ a, l = [a] := by
 match l, h with
 | [a], _ => exact ⟨a, rfl⟩
theorem rootBy_size (lf : ByteArray → ByteArray) (b : Nat) (hb : 32 ≤ b) (l : List ByteArray) (hl : ∀ x ∈ l, (lf x).size ≤ b) : (rootBy lf l).size ≤ b := by
 by_cases h : 2 ≤ l.length
 ·rw [rootBy_more lf h, nodeH_size]
  exact hb
 ·match l, h with
  | [], _ => rw [rootBy_nil, sha_size]; exact hb
  | [a], _ => rw [rootBy_one]; exact hl a (by simp)
  | _ :: _ :: _, h => simp at h
theorem cut_parts (l : List ByteArray) (h : 2 ≤ l.length) : 1 ≤ (l.take (half l.length)).length ∧ (l.take (half l.length)).length < l.length ∧ 1 ≤ (l.drop (half l.length)).length ∧ (l.drop (half l.length)).length < l.length := by
 have h1 := half_pos l.length
 have h2 := half_lt h
 simp
 omega
theorem or_swap (a b : Int) : Go.bits .or .i64 a b = Go.bits .or .i64 b a := by
 have e : ∀ x y : Int, Go.bits .or .i64 x y = IntKind.i64.wrap ((BitVec.ofInt 64 x ||| BitVec.ofInt 64 y).toNat : Int) := fun x y => rfl
 rw [e, e, BitVec.or_comm]
def InB (l : List Int) : Prop := ∀ x ∈ l, 0 ≤ x ∧ x ≤ 255
theorem inB_nil : InB [] := fun x hx => by simp at hx
theorem inB_app {a b : List Int} (ha : InB a) (hb : InB b) : InB (a ++ b) := fun x hx => by
 rcases List.mem_append.1 hx with hx | hx
 ·exact ha x hx
 ·exact hb x hx
theorem inB_text (s : ByteArray) : InB (bytesOf s) := fun x hx => bytesOf_range s x hx
end Go.Proofs.Ytnlndmoecljicaa.Q
end
