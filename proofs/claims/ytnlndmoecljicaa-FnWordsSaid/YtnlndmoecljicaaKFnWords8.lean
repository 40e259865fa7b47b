-- Joined and shortened by a program of this session (wip/tools/shakecopy.py): the words of the print, texts of pp.sh and of mine.
import Derived.Test.YtnlndmoecljicaaKFnWords7
import Derived.Test.YtnlndmoecljicaaRows
import Derived.WalkKit
import Derived.ProofKit
import Derived.OpenShut
import Derived.ShutString
import Derived.ChangeOld
import Derived.Below
import Derived.SizedLaws
import Derived.Carry
section
-- Written by a program of this session (wip/tools/pp.sh) over the print of the kit.
namespace Go.Proofs.Ytnlndmoecljicaa.Q
open Go.RowKit Go.Proofs.YtnlndmoecljicaaW.PrintWords Go.Proofs.YtnlndmoecljicaaW.PrintLast Go.Proofs.YtnlndmoecljicaaW.PrintMore
attribute [local go_sem] max2_int min2_int max_two min_two max_three min_three max_four min_four   -- for this text's walks alone
set_option linter.unusedVariables false
set_option linter.unusedSimpArgs false
attribute [local go_sem high] eqA25
def laws_FnWords.j0 : Nat → List Int → Bool → Int → Int → Int → Int → ByteArray → Int → List ByteArray → Option (Bool)
 | 0, _, _, _, _, _, _, _, _, _ => none
 | k + 1, x4, x43, x612000, x612001, x612002, x612003, x612004, x612005, x612006 => if x43 = true then (none) else ((spec_MsgOk.f k x612000 x612001 x612002 x612003 x612004 x612005 x612006).bind fun t643 => (if t643 = true then ((impl_GetMsg.f k x4).bind fun bt644 => (if bt644.2.2.2.2.2.2.2 = true then (if bt644.1 = x612000 then (if bt644.2.1 = x612001 then (if bt644.2.2.1 = x612002 then (if (bt644.2.2.2.1 == x612003 && (bt644.2.2.2.2.1.toList == x612004.toList)) = true then (if bt644.2.2.2.2.2.1 = x612005 then ((laws_sameTexts.f k bt644.2.2.2.2.2.2.1 x612006).bind fun t655 => (some t655)) else (none)) else (none)) else (none)) else (none)) else (none)) else (none))) else (if (x4.length : Int) = 0 then ((impl_MsgOk.f k x612000 x612001 x612002 x612003 x612004 x612005 x612006).bind fun t656 => (some (!t656))) else (none))))
def laws_FnWords.f (k : Nat) (l0 : List Int) : Option (Bool) := (laws_big.f l0).bind fun t601 => (if t601 = true then (some true) else ((spec_DrawPutMsg.f k l0).bind fun bt602 => ((impl_PutMsg.f k bt602.1 bt602.2.1 bt602.2.2.1 bt602.2.2.2.1 bt602.2.2.2.2.1 bt602.2.2.2.2.2.1 bt602.2.2.2.2.2.2).bind fun t612 => ((spec_DrawGetMsg.f k l0).bind fun t615 => ((impl_GetMsg.f k t615).bind fun bt618 => ((spec_GetMsg.f k t615).bind fun bt629 => (if (bt618.2.2.2.2.2.2.2 != bt629.2.2.2.2.2.2.2) = true then (laws_FnWords.j0 k t612 true bt602.1 bt602.2.1 bt602.2.2.1 bt602.2.2.2.1 bt602.2.2.2.2.1 bt602.2.2.2.2.2.1 bt602.2.2.2.2.2.2) else (if bt618.2.2.2.2.2.2.2 = true then ((impl_PutMsg.f k bt618.1 bt618.2.1 bt618.2.2.1 bt618.2.2.2.1 bt618.2.2.2.2.1 bt618.2.2.2.2.2.1 bt618.2.2.2.2.2.2.1).bind fun t640 => (laws_FnWords.j0 k t612 ((strOfNums t640).toList != (strOfNums t615).toList) bt602.1 bt602.2.1 bt602.2.2.1 bt602.2.2.2.1 bt602.2.2.2.2.1 bt602.2.2.2.2.2.1 bt602.2.2.2.2.2.2)) else (laws_FnWords.j0 k t612 false bt602.1 bt602.2.1 bt602.2.2.1 bt602.2.2.2.1 bt602.2.2.2.2.1 bt602.2.2.2.2.2.1 bt602.2.2.2.2.2.2)))))))))
def laws_FnWords.T8 : Bool × List (List Nat × List Nat) := (true, [([], []), ([], []), ([0, 1], [0, 1]), ([2], [2]), ([3], [3]), ([4, 3, 3], [3, 4]), ([5], [5]), ([6, 5, 5], [5, 6]), ([7, 5], [5, 7]), ([5], [5]), ([9, 5], [5, 9]), ([8, 10, 5], [5, 8, 10]), ([5, 11, 3], [3, 5, 11]), ([3, 12], [3, 12])])
def laws_FnWords.B8 : List Nat := [0, 0, 3, 7, 15, 31, 63, 127, 255, 63, 575, 2047, 4095, 8191]
theorem laws_FnWords.tab8 : rtab .any (opsOf Try.f3 8) = laws_FnWords.T8 := by kernel_rfl
theorem laws_FnWords.bits8 : waitsOk laws_FnWords.T8.2 laws_FnWords.B8 = true := by kernel_rfl
set_option maxHeartbeats 8000000 in
set_option maxRecDepth 100000 in
theorem laws_FnWords.calls (k : Nat) (A0 : Option Addr) (c0 : Nat) (l0 : List Int) (r : Bool) (w : World) (hr0 : Kd.C (Kd.int .u8) w A0 l0.length l0) (hc0 : l0.length ≤ c0) (h : laws_FnWords.f k l0 = some r) :
  Calls Try.prog 3 #[.slice A0 l0.length c0] w fun e w' => e = .returned (.bool r) ∧ Below w.heap.size w w' := by
 have hu28 := Try.underlying28
 have hu25 := Try.underlying25
 have HR0 := Aside0.mk hr0
 have HC0 := Aside0.mk hc0
 clear hr0 hc0
 have HB := Aside0.mk (Below.refl w.heap.size w)
 have H : ((laws_big.f l0).bind fun t601 => (if t601 = true then (some true) else ((spec_DrawPutMsg.f k l0).bind fun bt602 => ((impl_PutMsg.f k bt602.1 bt602.2.1 bt602.2.2.1 bt602.2.2.2.1 bt602.2.2.2.2.1 bt602.2.2.2.2.2.1 bt602.2.2.2.2.2.2).bind fun t612 => ((spec_DrawGetMsg.f k l0).bind fun t615 => ((impl_GetMsg.f k t615).bind fun bt618 => ((spec_GetMsg.f k t615).bind fun bt629 => (if (bt618.2.2.2.2.2.2.2 != bt629.2.2.2.2.2.2.2) = true then (laws_FnWords.j0 k t612 true bt602.1 bt602.2.1 bt602.2.2.1 bt602.2.2.2.1 bt602.2.2.2.2.1 bt602.2.2.2.2.2.1 bt602.2.2.2.2.2.2) else (if bt618.2.2.2.2.2.2.2 = true then ((impl_PutMsg.f k bt618.1 bt618.2.1 bt618.2.2.1 bt618.2.2.2.1 bt618.2.2.2.2.1 bt618.2.2.2.2.2.1 bt618.2.2.2.2.2.2.1).bind fun t640 => (laws_FnWords.j0 k t612 ((strOfNums t640).toList != (strOfNums t615).toList) bt602.1 bt602.2.1 bt602.2.2.1 bt602.2.2.2.1 bt602.2.2.2.2.1 bt602.2.2.2.2.2.1 bt602.2.2.2.2.2.2)) else (laws_FnWords.j0 k t612 false bt602.1 bt602.2.1 bt602.2.2.1 bt602.2.2.2.1 bt602.2.2.2.2.1 bt602.2.2.2.2.2.1 bt602.2.2.2.2.2.2)))))))))) = some r := h
 clear h
 replace H := bi_ H; obtain ⟨t601, A2, H⟩ := H
 replace H := itb_ H; obtain ⟨rfl, H⟩ | ⟨rfl, H⟩ := H
 ·obtain rfl := Option.some.inj H
  go_enter Try.func3, Try.ntmps3
  go_wp2_with (first | ((with_reducible refine gq_ 5 13 ?_); refine gc_ 13 Try.func5 (laws_big.calls _ _ l0 true _ (cr_ HR0.out) HC0.out A2.out) ?_; rintro e w' ⟨rfl, ⟨nd, rfl⟩⟩; refine ⟨_, rfl, ?_⟩))
  go_ret
  exact ⟨e2_, bw_ HB⟩
 ·replace H := bi_ H; obtain ⟨⟨t602, t603, t604, t605, t606, t607, t608⟩, A4, H⟩ := H
  dsimp only at H
  replace H := bi_ H; obtain ⟨t612, A5, H⟩ := H
  replace H := bi_ H; obtain ⟨t615, A6, H⟩ := H
  replace H := bi_ H; obtain ⟨⟨t618, t619, t620, t621, t622, t623, t624, t627⟩, A7, H⟩ := H
  dsimp only at H
  replace H := bi_ H; obtain ⟨⟨t629, t630, t631, t632, t633, t634, t635, t638⟩, A8, H⟩ := H
  dsimp only at H
  have HC9 := Aside0.mk H
  clear H
  go_enter Try.func3, Try.ntmps3
  go_upto_region 8 with (first | ((with_reducible refine gq_ 5 13 ?_); refine gc_ 13 Try.func5 (laws_big.calls _ _ l0 false _ (cr_ HR0.out) HC0.out A2.out) ?_; rintro e w' ⟨rfl, ⟨nd, rfl⟩⟩; refine ⟨_, rfl, ?_⟩) | ((with_reducible refine gq_ 6 15 ?_); refine gc_ 15 Try.func6 (spec_DrawPutMsg.calls k _ _ l0 t602 t603 t604 t605 t606 t607 t608 _ (cr_ HR0.out) HC0.out A4.out) ?_; rintro e w10 ⟨v609, rfl, ho0, hb⟩; refine ⟨_, rfl, ?_⟩; have HO610 := Aside0.mk (Kd.R_lower ho0 (sz_ HB)); replace HB := ss_ HB hb; clear hb ho0) | ((with_reducible refine gd_ 3 ?_); refine bx_ 3 28 #[.int .i64 0, .int .i64 0, .int .i64 0, .int .i64 0, .string (⟨#[]⟩ : ByteArray), .int .i64 0, .slice none 0 0] ?_; intro gb611 hg w11 hbox hb; replace HO610 := rb_ HO610 hb; have BK611 := Aside0.mk hbox; have GW611 := gg_ hg HB; have GE611 := GW611; replace HB := ss_ HB hb; clear hb hbox hg; have hcz12_0 := bc0_ BK611.out; have hcz12_1 := bc1_ BK611.out; have hcz12_2 := bc2_ BK611.out; have hcz12_3 := bc3_ BK611.out; have hcz12_4 := bc4_ BK611.out; have hcz12_5 := bc5_ BK611.out; have hcz12_6 := bc6_ BK611.out; have hfz12_0 := blk_frozen BK611.out 0; have hfz12_1 := blk_frozen BK611.out 1; have hfz12_2 := blk_frozen BK611.out 2; have hfz12_3 := blk_frozen BK611.out 3; have hfz12_4 := blk_frozen BK611.out 4; have hfz12_5 := blk_frozen BK611.out 5; have hfz12_6 := blk_frozen BK611.out 6; obtain ⟨Ao13, co13, eo13⟩ := Kd.R_slice HO610.out; subst eo13) | ((with_reducible refine gq_ 7 17 ?_); refine gc_ 17 Try.func7 (impl_PutMsg.calls k t602 t603 t604 t605 t606 t607 _ _ t608 t612 _ (chf_ HO610 BK611) (cl_ HO610) A5.out) ?_; rintro e w14 ⟨v613, rfl, ho0, hb⟩; refine ⟨_, rfl, ?_⟩; replace HO610 := rbf_ HO610 BK611 hb; have HO614 := Aside0.mk (Kd.R_lower ho0 (sz_ HB)); replace BK611 := kp_ BK611 hb; replace HB := ss_ HB hb; clear hb ho0) | ((with_reducible refine gq_ 8 19 ?_); refine gc_ 19 Try.func8 (spec_DrawGetMsg.calls k _ _ l0 t615 _ (cb_ HR0 HB) HC0.out A6.out) ?_; rintro e w15 ⟨v616, rfl, ho0, hb⟩; refine ⟨_, rfl, ?_⟩; replace HO610 := rb_ HO610 hb; have HO617 := Aside0.mk (Kd.R_lower (Kd.R_new' ho0 (lt_ HO614)) (sz_ HB)); replace HO614 := re_ HO614 ho0 hb; replace BK611 := kl_ BK611 hb; replace HB := ss_ HB hb; clear hb ho0; obtain ⟨Ao16, co16, eo16⟩ := Kd.R_slice HO617.out; subst eo16) | ((with_reducible refine gq_ 9 22 ?_); refine gc_ 22 Try.func9 (impl_GetMsg.calls k _ _ t615 t618 t619 t620 t621 t622 t623 t624 t627 _ (ch_ HO617) (cl_ HO617) A7.out) ?_; rintro e w17 ⟨v625, rfl, ho0, hb⟩; refine ⟨_, rfl, ?_⟩; replace HO614 := rb_ HO614 hb; replace HO617 := rb_ HO617 hb; have HO626 := Aside0.mk (Kd.R_lower (Kd.R_new' ho0 (lt_ HO610)) (sz_ HB)); replace HO610 := re_ HO610 ho0 hb; replace BK611 := kl_ BK611 hb; replace HB := ss_ HB hb; clear hb ho0) | ((with_reducible refine gd_ 6 ?_); refine bx_ 6 28 #[.int .i64 0, .int .i64 0, .int .i64 0, .int .i64 0, .string (⟨#[]⟩ : ByteArray), .int .i64 0, .slice none 0 0] ?_; intro gb628 hg w18 hbox hb; replace HO610 := rb_ HO610 hb; replace HO614 := rb_ HO614 hb; replace HO617 := rb_ HO617 hb; replace HO626 := rb_ HO626 hb; have BK628 := Aside0.mk hbox; have GW628 := gg_ hg HB; have GE628 := GW628; replace HB := ss_ HB hb; have NB611_628 := nla_ hg BK611; have NB628_611 := nga_ hg BK611; replace BK611 := kl_ BK611 hb; clear hb hbox hg; have hnb19 := NB628_611.out; have hnc19 := NB611_628.out; have hcz20_0 := bc0_ BK628.out; have hcz20_1 := bc1_ BK628.out; have hcz20_2 := bc2_ BK628.out; have hcz20_3 := bc3_ BK628.out; have hcz20_4 := bc4_ BK628.out; have hcz20_5 := bc5_ BK628.out; have hcz20_6 := bc6_ BK628.out; have hfz20_0 := blk_frozen BK628.out 0; have hfz20_1 := blk_frozen BK628.out 1; have hfz20_2 := blk_frozen BK628.out 2; have hfz20_3 := blk_frozen BK628.out 3; have hfz20_4 := blk_frozen BK628.out 4; have hfz20_5 := blk_frozen BK628.out 5; have hfz20_6 := blk_frozen BK628.out 6; obtain ⟨Ao21, co21, eo21⟩ := Kd.R_slice HO626.out; subst eo21) | ((with_reducible refine gq_ 10 27 ?_); refine gc_ 27 Try.func10 (spec_GetMsg.calls k _ _ t615 t629 t630 t631 t632 t633 t634 t635 t638 _ (chf_ HO617 BK628) (cl_ HO617) A8.out) ?_; rintro e w22 ⟨v636, rfl, ho0, hb⟩; refine ⟨_, rfl, ?_⟩; replace HO614 := rbf_ HO614 BK628 hb; replace HO617 := rbf_ HO617 BK628 hb; have HO637 := Aside0.mk (Kd.R_lower (Kd.R_new' (Kd.R_new' ho0 (lf_ HO610 BK628)) (lf_ HO626 BK628)) (sz_ HB)); replace HO610 := ref_ HO610 BK628 ho0 hb; replace HO626 := ref_ HO626 BK628 ho0 hb; replace BK611 := kp_ BK611 hb; replace BK628 := kp_ BK628 hb; replace HB := ss_ HB hb; clear hb ho0) | ((with_reducible refine gd_ 8 ?_); refine bx_ 8 28 #[.int .i64 0, .int .i64 0, .int .i64 0, .int .i64 0, .string (⟨#[]⟩ : ByteArray), .int .i64 0, .slice none 0 0] ?_; intro gb639 hg w23 hbox hb; replace HO610 := rb_ HO610 hb; replace HO614 := rb_ HO614 hb; replace HO617 := rb_ HO617 hb; replace HO626 := rb_ HO626 hb; replace HO637 := rb_ HO637 hb; have BK639 := Aside0.mk hbox; have GW639 := gg_ hg HB; have GE639 := GW639; replace HB := ss_ HB hb; have NB611_639 := nla_ hg BK611; have NB639_611 := nga_ hg BK611; replace BK611 := kl_ BK611 hb; have NB628_639 := nla_ hg BK628; have NB639_628 := nga_ hg BK628; replace BK628 := kl_ BK628 hb; clear hb hbox hg; have hnb24 := NB639_611.out; have hnc24 := NB611_639.out; have hnb25 := NB639_628.out; have hnc25 := NB628_639.out; have hcz26_0 := bc0_ BK639.out; have hcz26_1 := bc1_ BK639.out; have hcz26_2 := bc2_ BK639.out; have hcz26_3 := bc3_ BK639.out; have hcz26_4 := bc4_ BK639.out; have hcz26_5 := bc5_ BK639.out; have hcz26_6 := bc6_ BK639.out; have hfz26_0 := blk_frozen BK639.out 0; have hfz26_1 := blk_frozen BK639.out 1; have hfz26_2 := blk_frozen BK639.out 2; have hfz26_3 := blk_frozen BK639.out 3; have hfz26_4 := blk_frozen BK639.out 4; have hfz26_5 := blk_frozen BK639.out 5; have hfz26_6 := blk_frozen BK639.out 6; obtain ⟨Ao27, co27, eo27⟩ := Kd.R_slice HO637.out; subst eo27))
  (try simp only [Act.put, List.setIfInBounds_toArray, List.set_cons_zero, List.set_cons_succ])
  go_cut [43] (fun v43 wc => ∃ (kq : Nat) (x43_8 : Bool), v43 = .bool x43_8 ∧ Aside0 (laws_FnWords.j0 kq t612 x43_8 t602 t603 t604 t605 t606 t607 t608 = some r) ∧ Aside0 (kq ≤ k) ∧ Aside0 (Kd.R (Kd.int .u8) 5 wc w.heap.size (fun _ => True) v613 t612) ∧ Aside0 (Kd.R Kd.string 9 wc w.heap.size (fun k_ => some k_ ≠ ((.slice Ao21 t624.length co21) : Value).ownBlock ∧ some k_ ≠ ((.slice Ao27 t635.length co27) : Value).ownBlock) (.slice Ao13 t608.length co13) t608) ∧ Aside0 (Kd.R Kd.string 9 wc w.heap.size (fun k_ => some k_ ≠ ((.slice Ao13 t608.length co13) : Value).ownBlock ∧ some k_ ≠ ((.slice Ao27 t635.length co27) : Value).ownBlock) (.slice Ao21 t624.length co21) t624) ∧ Aside0 (Kd.R Kd.string 9 wc w.heap.size (fun k_ => some k_ ≠ ((.slice Ao13 t608.length co13) : Value).ownBlock ∧ some k_ ≠ ((.slice Ao21 t624.length co21) : Value).ownBlock) (.slice Ao27 t635.length co27) t635) ∧ Aside0 (wc.heap[gb611]? = some (.cells #[.int .i64 t602, .int .i64 t603, .int .i64 t604, .int .i64 t605, .string t606, .int .i64 t607, (.slice Ao13 t608.length co13)] 28 (0, 0))) ∧ Aside0 (wc.heap[gb628]? = some (.cells #[.int .i64 t618, .int .i64 t619, .int .i64 t620, .int .i64 t621, .string t622, .int .i64 t623, (.slice Ao21 t624.length co21)] 28 (0, 0))) ∧ Aside0 (wc.heap[gb639]? = some (.cells #[.int .i64 t629, .int .i64 t630, .int .i64 t631, .int .i64 t632, .string t633, .int .i64 t634, (.slice Ao27 t635.length co27)] 28 (0, 0))) ∧ Aside0 (Below w.heap.size w wc))
  case first =>
   have H := HC9.out
   clear HC9
   replace H := it_ H; obtain ⟨c28, H⟩ | ⟨c28, H⟩ := H
   ·have c28b0 : (t627 != t638) = true := c28
    (try (have c28b1 : decide (t627 = t638) = false := by simpa using c28))
    (try (have c28b2 : (t627 == t638) = false := by simpa using c28))
    (try (have c28b3 : ¬ (t627 = t638) := by simpa using c28))
    clear c28
    (first | rw [c28b0] | (simp only [i64_w, i32_w]; rw [c28b0]) | rw [c28b1] | skip)
    have H' := Aside0.mk H
    clear H
    try go_wp2
    have n0_ : Aside0 (Kd.R Kd.string 9 (((((((w23.setCell ⟨gb639, 0, none⟩ (.int .i64 t629)).setCell ⟨gb639, 1, none⟩ (.int .i64 t630)).setCell ⟨gb639, 2, none⟩ (.int .i64 t631)).setCell ⟨gb639, 3, none⟩ (.int .i64 t632)).setCell ⟨gb639, 4, none⟩ (.string t633)).setCell ⟨gb639, 5, none⟩ (.int .i64 t634)).setCell ⟨gb639, 6, none⟩ (.slice Ao27 t635.length co27)) w.heap.size (fun k_ => some k_ ≠ (.slice Ao21 t624.length co21 : Value).ownBlock ∧ some k_ ≠ (.slice Ao27 t635.length co27 : Value).ownBlock) (.slice Ao13 t608.length co13) t608) := ⟨by (with_reducible repeat (first | apply Kd.R_alloc | apply Kd.R_drewN | apply Kd.R_drew)); exact Kd.R_mono (Kd.R_far (p := ⟨gb639, 6, none⟩) (Kd.R_far (p := ⟨gb639, 5, none⟩) (Kd.R_far (p := ⟨gb639, 4, none⟩) (Kd.R_far (p := ⟨gb639, 3, none⟩) (Kd.R_far (p := ⟨gb639, 2, none⟩) (Kd.R_far (p := ⟨gb639, 1, none⟩) (Kd.R_far (p := ⟨gb639, 0, none⟩) (Kd.R_types HO610.out BK639.out (by decide)) (fun _ hk => hk.2) (.int .i64 t629)) (fun _ hk => hk.2) (.int .i64 t630)) (fun _ hk => hk.2) (.int .i64 t631)) (fun _ hk => hk.2) (.int .i64 t632)) (fun _ hk => hk.2) (.string t633)) (fun _ hk => hk.2) (.int .i64 t634)) (fun _ hk => hk.2) (.slice Ao27 t635.length co27)) (fun _ hk => ⟨hk.1.1.2, hk.1.2⟩)⟩
    have n1_ : Aside0 (Kd.R (Kd.int .u8) 5 (((((((w23.setCell ⟨gb639, 0, none⟩ (.int .i64 t629)).setCell ⟨gb639, 1, none⟩ (.int .i64 t630)).setCell ⟨gb639, 2, none⟩ (.int .i64 t631)).setCell ⟨gb639, 3, none⟩ (.int .i64 t632)).setCell ⟨gb639, 4, none⟩ (.string t633)).setCell ⟨gb639, 5, none⟩ (.int .i64 t634)).setCell ⟨gb639, 6, none⟩ (.slice Ao27 t635.length co27)) w.heap.size (fun k_ => some k_ ≠ (.slice Ao16 t615.length co16 : Value).ownBlock) v613 t612) := ⟨by (with_reducible repeat (first | apply Kd.R_alloc | apply Kd.R_drewN | apply Kd.R_drew)); exact Kd.R_mono (Kd.R_far (p := ⟨gb639, 6, none⟩) (Kd.R_far (p := ⟨gb639, 5, none⟩) (Kd.R_far (p := ⟨gb639, 4, none⟩) (Kd.R_far (p := ⟨gb639, 3, none⟩) (Kd.R_far (p := ⟨gb639, 2, none⟩) (Kd.R_far (p := ⟨gb639, 1, none⟩) (Kd.R_far (p := ⟨gb639, 0, none⟩) (Kd.R_types HO614.out BK639.out (by decide)) (fun _ hk => hk.2) (.int .i64 t629)) (fun _ hk => hk.2) (.int .i64 t630)) (fun _ hk => hk.2) (.int .i64 t631)) (fun _ hk => hk.2) (.int .i64 t632)) (fun _ hk => hk.2) (.string t633)) (fun _ hk => hk.2) (.int .i64 t634)) (fun _ hk => hk.2) (.slice Ao27 t635.length co27)) (fun _ hk => hk.1.2)⟩
    have n2_ : Aside0 (Kd.R (Kd.int .u8) 5 (((((((w23.setCell ⟨gb639, 0, none⟩ (.int .i64 t629)).setCell ⟨gb639, 1, none⟩ (.int .i64 t630)).setCell ⟨gb639, 2, none⟩ (.int .i64 t631)).setCell ⟨gb639, 3, none⟩ (.int .i64 t632)).setCell ⟨gb639, 4, none⟩ (.string t633)).setCell ⟨gb639, 5, none⟩ (.int .i64 t634)).setCell ⟨gb639, 6, none⟩ (.slice Ao27 t635.length co27)) w.heap.size (fun k_ => some k_ ≠ (v613 : Value).ownBlock) (.slice Ao16 t615.length co16) t615) := ⟨by (with_reducible repeat (first | apply Kd.R_alloc | apply Kd.R_drewN | apply Kd.R_drew)); exact Kd.R_mono (Kd.R_far (p := ⟨gb639, 6, none⟩) (Kd.R_far (p := ⟨gb639, 5, none⟩) (Kd.R_far (p := ⟨gb639, 4, none⟩) (Kd.R_far (p := ⟨gb639, 3, none⟩) (Kd.R_far (p := ⟨gb639, 2, none⟩) (Kd.R_far (p := ⟨gb639, 1, none⟩) (Kd.R_far (p := ⟨gb639, 0, none⟩) (Kd.R_types HO617.out BK639.out (by decide)) (fun _ hk => hk.2) (.int .i64 t629)) (fun _ hk => hk.2) (.int .i64 t630)) (fun _ hk => hk.2) (.int .i64 t631)) (fun _ hk => hk.2) (.int .i64 t632)) (fun _ hk => hk.2) (.string t633)) (fun _ hk => hk.2) (.int .i64 t634)) (fun _ hk => hk.2) (.slice Ao27 t635.length co27)) (fun _ hk => hk.1.2)⟩
    have n3_ : Aside0 (Kd.R Kd.string 9 (((((((w23.setCell ⟨gb639, 0, none⟩ (.int .i64 t629)).setCell ⟨gb639, 1, none⟩ (.int .i64 t630)).setCell ⟨gb639, 2, none⟩ (.int .i64 t631)).setCell ⟨gb639, 3, none⟩ (.int .i64 t632)).setCell ⟨gb639, 4, none⟩ (.string t633)).setCell ⟨gb639, 5, none⟩ (.int .i64 t634)).setCell ⟨gb639, 6, none⟩ (.slice Ao27 t635.length co27)) w.heap.size (fun k_ => some k_ ≠ (.slice Ao13 t608.length co13 : Value).ownBlock ∧ some k_ ≠ (.slice Ao27 t635.length co27 : Value).ownBlock) (.slice Ao21 t624.length co21) t624) := ⟨by (with_reducible repeat (first | apply Kd.R_alloc | apply Kd.R_drewN | apply Kd.R_drew)); exact Kd.R_mono (Kd.R_far (p := ⟨gb639, 6, none⟩) (Kd.R_far (p := ⟨gb639, 5, none⟩) (Kd.R_far (p := ⟨gb639, 4, none⟩) (Kd.R_far (p := ⟨gb639, 3, none⟩) (Kd.R_far (p := ⟨gb639, 2, none⟩) (Kd.R_far (p := ⟨gb639, 1, none⟩) (Kd.R_far (p := ⟨gb639, 0, none⟩) (Kd.R_types HO626.out BK639.out (by decide)) (fun _ hk => hk.2) (.int .i64 t629)) (fun _ hk => hk.2) (.int .i64 t630)) (fun _ hk => hk.2) (.int .i64 t631)) (fun _ hk => hk.2) (.int .i64 t632)) (fun _ hk => hk.2) (.string t633)) (fun _ hk => hk.2) (.int .i64 t634)) (fun _ hk => hk.2) (.slice Ao27 t635.length co27)) (fun _ hk => ⟨hk.1.1.2, hk.1.2⟩)⟩
    have n4_ : Aside0 (Kd.R Kd.string 9 (((((((w23.setCell ⟨gb639, 0, none⟩ (.int .i64 t629)).setCell ⟨gb639, 1, none⟩ (.int .i64 t630)).setCell ⟨gb639, 2, none⟩ (.int .i64 t631)).setCell ⟨gb639, 3, none⟩ (.int .i64 t632)).setCell ⟨gb639, 4, none⟩ (.string t633)).setCell ⟨gb639, 5, none⟩ (.int .i64 t634)).setCell ⟨gb639, 6, none⟩ (.slice Ao27 t635.length co27)) w.heap.size (fun k_ => some k_ ≠ (.slice Ao13 t608.length co13 : Value).ownBlock ∧ some k_ ≠ (.slice Ao21 t624.length co21 : Value).ownBlock) (.slice Ao27 t635.length co27) t635) := ⟨by (with_reducible repeat (first | apply Kd.R_alloc | apply Kd.R_drewN | apply Kd.R_drew)); exact Kd.R_mono (Kd.R_far (p := ⟨gb639, 6, none⟩) (Kd.R_far (p := ⟨gb639, 5, none⟩) (Kd.R_far (p := ⟨gb639, 4, none⟩) (Kd.R_far (p := ⟨gb639, 3, none⟩) (Kd.R_far (p := ⟨gb639, 2, none⟩) (Kd.R_far (p := ⟨gb639, 1, none⟩) (Kd.R_far (p := ⟨gb639, 0, none⟩) (Kd.R_types HO637.out BK639.out (by decide)) (fun _ hk => hk.2) (.int .i64 t629)) (fun _ hk => hk.2) (.int .i64 t630)) (fun _ hk => hk.2) (.int .i64 t631)) (fun _ hk => hk.2) (.int .i64 t632)) (fun _ hk => hk.2) (.string t633)) (fun _ hk => hk.2) (.int .i64 t634)) (fun _ hk => hk.2) (.slice Ao27 t635.length co27)) (fun _ hk => ⟨hk.1.1.2, hk.1.2⟩)⟩
    have n5_ : Aside0 ((((((((w23.setCell ⟨gb639, 0, none⟩ (.int .i64 t629)).setCell ⟨gb639, 1, none⟩ (.int .i64 t630)).setCell ⟨gb639, 2, none⟩ (.int .i64 t631)).setCell ⟨gb639, 3, none⟩ (.int .i64 t632)).setCell ⟨gb639, 4, none⟩ (.string t633)).setCell ⟨gb639, 5, none⟩ (.int .i64 t634)).setCell ⟨gb639, 6, none⟩ (.slice Ao27 t635.length co27)).heap[gb611]? = some (.cells #[.int .i64 t602, .int .i64 t603, .int .i64 t604, .int .i64 t605, .string t606, .int .i64 t607, .slice Ao13 t608.length co13] 28 (0, 0))) := ⟨kq_ BK611⟩
    have n6_ : Aside0 ((((((((w23.setCell ⟨gb639, 0, none⟩ (.int .i64 t629)).setCell ⟨gb639, 1, none⟩ (.int .i64 t630)).setCell ⟨gb639, 2, none⟩ (.int .i64 t631)).setCell ⟨gb639, 3, none⟩ (.int .i64 t632)).setCell ⟨gb639, 4, none⟩ (.string t633)).setCell ⟨gb639, 5, none⟩ (.int .i64 t634)).setCell ⟨gb639, 6, none⟩ (.slice Ao27 t635.length co27)).heap[gb628]? = some (.cells #[.int .i64 t618, .int .i64 t619, .int .i64 t620, .int .i64 t621, .string t622, .int .i64 t623, .slice Ao21 t624.length co21] 28 (0, 0))) := ⟨kq_ BK628⟩
    have n7_ : Aside0 ((((((((w23.setCell ⟨gb639, 0, none⟩ (.int .i64 t629)).setCell ⟨gb639, 1, none⟩ (.int .i64 t630)).setCell ⟨gb639, 2, none⟩ (.int .i64 t631)).setCell ⟨gb639, 3, none⟩ (.int .i64 t632)).setCell ⟨gb639, 4, none⟩ (.string t633)).setCell ⟨gb639, 5, none⟩ (.int .i64 t634)).setCell ⟨gb639, 6, none⟩ (.slice Ao27 t635.length co27)).heap[gb639]? = some (.cells #[.int .i64 t629, .int .i64 t630, .int .i64 t631, .int .i64 t632, .string t633, .int .i64 t634, .slice Ao27 t635.length co27] 28 (0, 0))) := ⟨kq_ BK639⟩
    have n8_ : Aside0 (Below w.heap.size w (((((((w23.setCell ⟨gb639, 0, none⟩ (.int .i64 t629)).setCell ⟨gb639, 1, none⟩ (.int .i64 t630)).setCell ⟨gb639, 2, none⟩ (.int .i64 t631)).setCell ⟨gb639, 3, none⟩ (.int .i64 t632)).setCell ⟨gb639, 4, none⟩ (.string t633)).setCell ⟨gb639, 5, none⟩ (.int .i64 t634)).setCell ⟨gb639, 6, none⟩ (.slice Ao27 t635.length co27))) := ⟨bw_ HB⟩
    generalize (((((((w23.setCell ⟨gb639, 0, none⟩ (.int .i64 t629)).setCell ⟨gb639, 1, none⟩ (.int .i64 t630)).setCell ⟨gb639, 2, none⟩ (.int .i64 t631)).setCell ⟨gb639, 3, none⟩ (.int .i64 t632)).setCell ⟨gb639, 4, none⟩ (.string t633)).setCell ⟨gb639, 5, none⟩ (.int .i64 t634)).setCell ⟨gb639, 6, none⟩ (.slice Ao27 t635.length co27)) = w29 at n0_ n1_ n2_ n3_ n4_ n5_ n6_ n7_ n8_ ⊢
    have HO610 := n0_
    have HO614 := n1_
    have HO617 := n2_
    have HO626 := n3_
    have HO637 := n4_
    have BK611 := n5_
    have BK628 := n6_
    have BK639 := n7_
    have HB := n8_
    clear n0_ n1_ n2_ n3_ n4_ n5_ n6_ n7_ n8_
    replace HO610 := Aside0.mk (Kd.R_drew HO610.out)
    replace HO614 := Aside0.mk (Kd.R_drew HO614.out)
    replace HO617 := Aside0.mk (Kd.R_drew HO617.out)
    replace HO626 := Aside0.mk (Kd.R_drew HO626.out)
    replace HO637 := Aside0.mk (Kd.R_drew HO637.out)
    replace BK611 := Aside0.mk (blk_drew BK611.out)
    replace BK628 := Aside0.mk (blk_drew BK628.out)
    replace BK639 := Aside0.mk (blk_drew BK639.out)
    replace HB := Aside0.mk (below_drew1 HB.out)
    refine start_ (n := 14) (S := fun w' => True) (ds := []) (lz_ 14 0) (by kernel_rfl) rfl rfl trivial (fun hHeld => ?_); refine with_tabW laws_FnWords.tab8 laws_FnWords.bits8 (fun HT_ HW_ => ?_)
    generalize w29.drew = w30 at HO610 HO614 HO617 HO626 HO637 BK611 BK628 BK639 HB hHeld ⊢
    refine pt_ 0 30 1 ?_
    refine pt_ 1 31 3 ?_
    refine pt_ 2 32 7 ?_
    refine pt_ 3 33 15 ?_
    refine ut_ 4 34 31 ?_
    refine ut_ 5 35 63 ?_
    refine ut_ 6 36 127 ?_
    refine ut_ 7 37 255 ?_
    refine ut_ 8 38 511 ?_
    refine ut_ 9 39 1023 ?_
    refine ut_ 10 40 2047 ?_
    refine ut_ 11 41 4095 ?_
    refine ut_ 12 42 8191 ?_
    refine pt_ 13 43 16383 ?_
    refine done_ (done_of HT_.out (by kernel_rfl)) ?_
    try go_wp2
    go_meet
    case rel => exact ⟨_, (true), e1_, H', ⟨le_⟩, ⟨by (with_reducible repeat (first | apply Kd.R_alloc | apply Kd.R_drewN | apply Kd.R_drew)); exact Kd.R_mono HO614.out (fun _ hk => trivial)⟩, ⟨kr_ HO610.out⟩, ⟨kr_ HO626.out⟩, ⟨kr_ HO637.out⟩, ⟨kb_ BK611.out⟩, ⟨kb_ BK628.out⟩, ⟨kb_ BK639.out⟩, ⟨bw_ HB⟩⟩
   ·have c28b0 : (t627 != t638) = false := by simpa using c28
    (try (have c28b1 : decide (t627 = t638) = true := by simpa using c28))
    (try (have c28b2 : (t627 == t638) = true := by simpa using c28))
    clear c28
    (first | rw [c28b0] | (simp only [i64_w, i32_w]; rw [c28b0]) | rw [c28b1] | skip)
    replace H := itb_ H; obtain ⟨rfl, H⟩ | ⟨rfl, H⟩ := H
    ·replace H := bi_ H; obtain ⟨t640, A32, H⟩ := H
     have H' := Aside0.mk H
     clear H
     try go_wp2
     have n0_ : Aside0 (Kd.R Kd.string 9 (((((((w23.setCell ⟨gb639, 0, none⟩ (.int .i64 t629)).setCell ⟨gb639, 1, none⟩ (.int .i64 t630)).setCell ⟨gb639, 2, none⟩ (.int .i64 t631)).setCell ⟨gb639, 3, none⟩ (.int .i64 t632)).setCell ⟨gb639, 4, none⟩ (.string t633)).setCell ⟨gb639, 5, none⟩ (.int .i64 t634)).setCell ⟨gb639, 6, none⟩ (.slice Ao27 t635.length co27)) w.heap.size (fun k_ => some k_ ≠ (.slice Ao21 t624.length co21 : Value).ownBlock ∧ some k_ ≠ (.slice Ao27 t635.length co27 : Value).ownBlock) (.slice Ao13 t608.length co13) t608) := ⟨by (with_reducible repeat (first | apply Kd.R_alloc | apply Kd.R_drewN | apply Kd.R_drew)); exact Kd.R_mono (Kd.R_far (p := ⟨gb639, 6, none⟩) (Kd.R_far (p := ⟨gb639, 5, none⟩) (Kd.R_far (p := ⟨gb639, 4, none⟩) (Kd.R_far (p := ⟨gb639, 3, none⟩) (Kd.R_far (p := ⟨gb639, 2, none⟩) (Kd.R_far (p := ⟨gb639, 1, none⟩) (Kd.R_far (p := ⟨gb639, 0, none⟩) (Kd.R_types HO610.out BK639.out (by decide)) (fun _ hk => hk.2) (.int .i64 t629)) (fun _ hk => hk.2) (.int .i64 t630)) (fun _ hk => hk.2) (.int .i64 t631)) (fun _ hk => hk.2) (.int .i64 t632)) (fun _ hk => hk.2) (.string t633)) (fun _ hk => hk.2) (.int .i64 t634)) (fun _ hk => hk.2) (.slice Ao27 t635.length co27)) (fun _ hk => ⟨hk.1.1.2, hk.1.2⟩)⟩
     have n1_ : Aside0 (Kd.R (Kd.int .u8) 5 (((((((w23.setCell ⟨gb639, 0, none⟩ (.int .i64 t629)).setCell ⟨gb639, 1, none⟩ (.int .i64 t630)).setCell ⟨gb639, 2, none⟩ (.int .i64 t631)).setCell ⟨gb639, 3, none⟩ (.int .i64 t632)).setCell ⟨gb639, 4, none⟩ (.string t633)).setCell ⟨gb639, 5, none⟩ (.int .i64 t634)).setCell ⟨gb639, 6, none⟩ (.slice Ao27 t635.length co27)) w.heap.size (fun k_ => some k_ ≠ (.slice Ao16 t615.length co16 : Value).ownBlock) v613 t612) := ⟨by (with_reducible repeat (first | apply Kd.R_alloc | apply Kd.R_drewN | apply Kd.R_drew)); exact Kd.R_mono (Kd.R_far (p := ⟨gb639, 6, none⟩) (Kd.R_far (p := ⟨gb639, 5, none⟩) (Kd.R_far (p := ⟨gb639, 4, none⟩) (Kd.R_far (p := ⟨gb639, 3, none⟩) (Kd.R_far (p := ⟨gb639, 2, none⟩) (Kd.R_far (p := ⟨gb639, 1, none⟩) (Kd.R_far (p := ⟨gb639, 0, none⟩) (Kd.R_types HO614.out BK639.out (by decide)) (fun _ hk => hk.2) (.int .i64 t629)) (fun _ hk => hk.2) (.int .i64 t630)) (fun _ hk => hk.2) (.int .i64 t631)) (fun _ hk => hk.2) (.int .i64 t632)) (fun _ hk => hk.2) (.string t633)) (fun _ hk => hk.2) (.int .i64 t634)) (fun _ hk => hk.2) (.slice Ao27 t635.length co27)) (fun _ hk => hk.1.2)⟩
     have n2_ : Aside0 (Kd.R (Kd.int .u8) 5 (((((((w23.setCell ⟨gb639, 0, none⟩ (.int .i64 t629)).setCell ⟨gb639, 1, none⟩ (.int .i64 t630)).setCell ⟨gb639, 2, none⟩ (.int .i64 t631)).setCell ⟨gb639, 3, none⟩ (.int .i64 t632)).setCell ⟨gb639, 4, none⟩ (.string t633)).setCell ⟨gb639, 5, none⟩ (.int .i64 t634)).setCell ⟨gb639, 6, none⟩ (.slice Ao27 t635.length co27)) w.heap.size (fun k_ => some k_ ≠ (v613 : Value).ownBlock) (.slice Ao16 t615.length co16) t615) := ⟨by (with_reducible repeat (first | apply Kd.R_alloc | apply Kd.R_drewN | apply Kd.R_drew)); exact Kd.R_mono (Kd.R_far (p := ⟨gb639, 6, none⟩) (Kd.R_far (p := ⟨gb639, 5, none⟩) (Kd.R_far (p := ⟨gb639, 4, none⟩) (Kd.R_far (p := ⟨gb639, 3, none⟩) (Kd.R_far (p := ⟨gb639, 2, none⟩) (Kd.R_far (p := ⟨gb639, 1, none⟩) (Kd.R_far (p := ⟨gb639, 0, none⟩) (Kd.R_types HO617.out BK639.out (by decide)) (fun _ hk => hk.2) (.int .i64 t629)) (fun _ hk => hk.2) (.int .i64 t630)) (fun _ hk => hk.2) (.int .i64 t631)) (fun _ hk => hk.2) (.int .i64 t632)) (fun _ hk => hk.2) (.string t633)) (fun _ hk => hk.2) (.int .i64 t634)) (fun _ hk => hk.2) (.slice Ao27 t635.length co27)) (fun _ hk => hk.1.2)⟩
     have n3_ : Aside0 (Kd.R Kd.string 9 (((((((w23.setCell ⟨gb639, 0, none⟩ (.int .i64 t629)).setCell ⟨gb639, 1, none⟩ (.int .i64 t630)).setCell ⟨gb639, 2, none⟩ (.int .i64 t631)).setCell ⟨gb639, 3, none⟩ (.int .i64 t632)).setCell ⟨gb639, 4, none⟩ (.string t633)).setCell ⟨gb639, 5, none⟩ (.int .i64 t634)).setCell ⟨gb639, 6, none⟩ (.slice Ao27 t635.length co27)) w.heap.size (fun k_ => some k_ ≠ (.slice Ao13 t608.length co13 : Value).ownBlock ∧ some k_ ≠ (.slice Ao27 t635.length co27 : Value).ownBlock) (.slice Ao21 t624.length co21) t624) := ⟨by (with_reducible repeat (first | apply Kd.R_alloc | apply Kd.R_drewN | apply Kd.R_drew)); exact Kd.R_mono (Kd.R_far (p := ⟨gb639, 6, none⟩) (Kd.R_far (p := ⟨gb639, 5, none⟩) (Kd.R_far (p := ⟨gb639, 4, none⟩) (Kd.R_far (p := ⟨gb639, 3, none⟩) (Kd.R_far (p := ⟨gb639, 2, none⟩) (Kd.R_far (p := ⟨gb639, 1, none⟩) (Kd.R_far (p := ⟨gb639, 0, none⟩) (Kd.R_types HO626.out BK639.out (by decide)) (fun _ hk => hk.2) (.int .i64 t629)) (fun _ hk => hk.2) (.int .i64 t630)) (fun _ hk => hk.2) (.int .i64 t631)) (fun _ hk => hk.2) (.int .i64 t632)) (fun _ hk => hk.2) (.string t633)) (fun _ hk => hk.2) (.int .i64 t634)) (fun _ hk => hk.2) (.slice Ao27 t635.length co27)) (fun _ hk => ⟨hk.1.1.2, hk.1.2⟩)⟩
     have n4_ : Aside0 (Kd.R Kd.string 9 (((((((w23.setCell ⟨gb639, 0, none⟩ (.int .i64 t629)).setCell ⟨gb639, 1, none⟩ (.int .i64 t630)).setCell ⟨gb639, 2, none⟩ (.int .i64 t631)).setCell ⟨gb639, 3, none⟩ (.int .i64 t632)).setCell ⟨gb639, 4, none⟩ (.string t633)).setCell ⟨gb639, 5, none⟩ (.int .i64 t634)).setCell ⟨gb639, 6, none⟩ (.slice Ao27 t635.length co27)) w.heap.size (fun k_ => some k_ ≠ (.slice Ao13 t608.length co13 : Value).ownBlock ∧ some k_ ≠ (.slice Ao21 t624.length co21 : Value).ownBlock) (.slice Ao27 t635.length co27) t635) := ⟨by (with_reducible repeat (first | apply Kd.R_alloc | apply Kd.R_drewN | apply Kd.R_drew)); exact Kd.R_mono (Kd.R_far (p := ⟨gb639, 6, none⟩) (Kd.R_far (p := ⟨gb639, 5, none⟩) (Kd.R_far (p := ⟨gb639, 4, none⟩) (Kd.R_far (p := ⟨gb639, 3, none⟩) (Kd.R_far (p := ⟨gb639, 2, none⟩) (Kd.R_far (p := ⟨gb639, 1, none⟩) (Kd.R_far (p := ⟨gb639, 0, none⟩) (Kd.R_types HO637.out BK639.out (by decide)) (fun _ hk => hk.2) (.int .i64 t629)) (fun _ hk => hk.2) (.int .i64 t630)) (fun _ hk => hk.2) (.int .i64 t631)) (fun _ hk => hk.2) (.int .i64 t632)) (fun _ hk => hk.2) (.string t633)) (fun _ hk => hk.2) (.int .i64 t634)) (fun _ hk => hk.2) (.slice Ao27 t635.length co27)) (fun _ hk => ⟨hk.1.1.2, hk.1.2⟩)⟩
     have n5_ : Aside0 ((((((((w23.setCell ⟨gb639, 0, none⟩ (.int .i64 t629)).setCell ⟨gb639, 1, none⟩ (.int .i64 t630)).setCell ⟨gb639, 2, none⟩ (.int .i64 t631)).setCell ⟨gb639, 3, none⟩ (.int .i64 t632)).setCell ⟨gb639, 4, none⟩ (.string t633)).setCell ⟨gb639, 5, none⟩ (.int .i64 t634)).setCell ⟨gb639, 6, none⟩ (.slice Ao27 t635.length co27)).heap[gb611]? = some (.cells #[.int .i64 t602, .int .i64 t603, .int .i64 t604, .int .i64 t605, .string t606, .int .i64 t607, .slice Ao13 t608.length co13] 28 (0, 0))) := ⟨kq_ BK611⟩
     have n6_ : Aside0 ((((((((w23.setCell ⟨gb639, 0, none⟩ (.int .i64 t629)).setCell ⟨gb639, 1, none⟩ (.int .i64 t630)).setCell ⟨gb639, 2, none⟩ (.int .i64 t631)).setCell ⟨gb639, 3, none⟩ (.int .i64 t632)).setCell ⟨gb639, 4, none⟩ (.string t633)).setCell ⟨gb639, 5, none⟩ (.int .i64 t634)).setCell ⟨gb639, 6, none⟩ (.slice Ao27 t635.length co27)).heap[gb628]? = some (.cells #[.int .i64 t618, .int .i64 t619, .int .i64 t620, .int .i64 t621, .string t622, .int .i64 t623, .slice Ao21 t624.length co21] 28 (0, 0))) := ⟨kq_ BK628⟩
     have n7_ : Aside0 ((((((((w23.setCell ⟨gb639, 0, none⟩ (.int .i64 t629)).setCell ⟨gb639, 1, none⟩ (.int .i64 t630)).setCell ⟨gb639, 2, none⟩ (.int .i64 t631)).setCell ⟨gb639, 3, none⟩ (.int .i64 t632)).setCell ⟨gb639, 4, none⟩ (.string t633)).setCell ⟨gb639, 5, none⟩ (.int .i64 t634)).setCell ⟨gb639, 6, none⟩ (.slice Ao27 t635.length co27)).heap[gb639]? = some (.cells #[.int .i64 t629, .int .i64 t630, .int .i64 t631, .int .i64 t632, .string t633, .int .i64 t634, .slice Ao27 t635.length co27] 28 (0, 0))) := ⟨kq_ BK639⟩
     have n8_ : Aside0 (Below w.heap.size w (((((((w23.setCell ⟨gb639, 0, none⟩ (.int .i64 t629)).setCell ⟨gb639, 1, none⟩ (.int .i64 t630)).setCell ⟨gb639, 2, none⟩ (.int .i64 t631)).setCell ⟨gb639, 3, none⟩ (.int .i64 t632)).setCell ⟨gb639, 4, none⟩ (.string t633)).setCell ⟨gb639, 5, none⟩ (.int .i64 t634)).setCell ⟨gb639, 6, none⟩ (.slice Ao27 t635.length co27))) := ⟨bw_ HB⟩
     generalize (((((((w23.setCell ⟨gb639, 0, none⟩ (.int .i64 t629)).setCell ⟨gb639, 1, none⟩ (.int .i64 t630)).setCell ⟨gb639, 2, none⟩ (.int .i64 t631)).setCell ⟨gb639, 3, none⟩ (.int .i64 t632)).setCell ⟨gb639, 4, none⟩ (.string t633)).setCell ⟨gb639, 5, none⟩ (.int .i64 t634)).setCell ⟨gb639, 6, none⟩ (.slice Ao27 t635.length co27)) = w33 at n0_ n1_ n2_ n3_ n4_ n5_ n6_ n7_ n8_ ⊢
     have HO610 := n0_
     have HO614 := n1_
     have HO617 := n2_
     have HO626 := n3_
     have HO637 := n4_
     have BK611 := n5_
     have BK628 := n6_
     have BK639 := n7_
     have HB := n8_
     clear n0_ n1_ n2_ n3_ n4_ n5_ n6_ n7_ n8_
     replace HO610 := Aside0.mk (Kd.R_drew HO610.out)
     replace HO614 := Aside0.mk (Kd.R_drew HO614.out)
     replace HO617 := Aside0.mk (Kd.R_drew HO617.out)
     replace HO626 := Aside0.mk (Kd.R_drew HO626.out)
     replace HO637 := Aside0.mk (Kd.R_drew HO637.out)
     replace BK611 := Aside0.mk (blk_drew BK611.out)
     replace BK628 := Aside0.mk (blk_drew BK628.out)
     replace BK639 := Aside0.mk (blk_drew BK639.out)
     replace HB := Aside0.mk (below_drew1 HB.out)
     refine start_ (n := 14) (S := fun w' => w'.cell? ⟨gb628, 0, none⟩ = some (.int .i64 t618) ∧ w'.cell? ⟨gb628, 1, none⟩ = some (.int .i64 t619) ∧ w'.cell? ⟨gb628, 2, none⟩ = some (.int .i64 t620) ∧ w'.cell? ⟨gb628, 3, none⟩ = some (.int .i64 t621) ∧ w'.cell? ⟨gb628, 4, none⟩ = some (.string t622) ∧ w'.cell? ⟨gb628, 5, none⟩ = some (.int .i64 t623) ∧ w'.cell? ⟨gb628, 6, none⟩ = some (.slice Ao21 t624.length co21) ∧ (convert 22 9 (Value.slice Ao16 t615.length co16)).run Try.prog w' = .ok (.string (strOfNums t615)) w') (ds := []) (lz_ 14 0) (by kernel_rfl) rfl rfl ⟨bc0_ BK628.out, bc1_ BK628.out, bc2_ BK628.out, bc3_ BK628.out, bc4_ BK628.out, bc5_ BK628.out, bc6_ BK628.out, own_string (P := Try.prog) Try.underlying22 Try.underlying5 Try.underlying9 (Kd.own_of_R HO617.out)⟩ (fun hHeld => ?_); refine with_tabW laws_FnWords.tab8 laws_FnWords.bits8 (fun HT_ HW_ => ?_)
     generalize w33.drew = w34 at HO610 HO614 HO617 HO626 HO637 BK611 BK628 BK639 HB hHeld ⊢
     refine pt_ 0 30 1 ?_
     refine pt_ 1 31 3 ?_
     refine pt_ 2 32 7 ?_
     refine pt_ 3 33 15 ?_
     refine pt_ 4 34 31 ?_
     refine pt_ 5 35 63 ?_
     refine pt_ 9 39 575 ?_
     refine tt_ 10 40 1599 ?_
     refine tt_ 6 36 1663 ?_
     refine one_ (i := 7) (N := some 37) (lz_ 14 1791) rfl rfl (one_of HT_.out (by kernel_rfl)) (by decide) (fun K hK => ?_)
     refine gf_ Try.func7 (impl_PutMsg.calls k t618 t619 t620 t621 t622 t623 _ _ t624 t640 _ (ch_ HO626) (cl_ HO626) A32.out) ?_
     rintro e w35 ⟨v641, rfl, ho0, hb⟩
     refine ⟨_, rfl, ?_⟩
     replace HO610 := rb_ HO610 hb
     replace HO626 := rb_ HO626 hb
     replace HO637 := rb_ HO637 hb
     have HO642 := Aside0.mk (Kd.R_lower (Kd.R_new' (Kd.R_new' ho0 (lt_ HO614)) (lt_ HO617)) (sz_ HB))
     replace HO614 := re_ HO614 ho0 hb
     replace HO617 := re_ HO617 ho0 hb
     replace BK611 := kl_ BK611 hb
     replace BK628 := kl_ BK628 hb
     replace BK639 := kl_ BK639 hb
     replace HB := ss_ HB hb
     clear hb ho0
     refine hK.out _ _ ⟨bc0_ BK628.out, bc1_ BK628.out, bc2_ BK628.out, bc3_ BK628.out, bc4_ BK628.out, bc5_ BK628.out, bc6_ BK628.out, own_string (P := Try.prog) Try.underlying22 Try.underlying5 Try.underlying9 (Kd.own_of_R HO617.out)⟩ (fun hHeld => ?_)
     clear hK K
     refine no_ 37 ?_
     refine one_ (i := 8) (N := some 38) (lz_ 14 2047) rfl rfl (one_of HT_.out (by kernel_rfl)) (by decide) (fun K hK => ?_)
     have hcv36 := own_string (P := Try.prog) Try.underlying22 Try.underlying5 Try.underlying9 (Kd.own_of_R HO642.out)
     refine value_ (w1 := ?_) (v := ?_) (by rfl) rfl ?_ ?_
     rotate_left 2
     ·go_simp
      constructor
      ·rfl
      ·rfl
     clear hcv36
     refine hK.out _ _ ⟨bc0_ BK628.out, bc1_ BK628.out, bc2_ BK628.out, bc3_ BK628.out, bc4_ BK628.out, bc5_ BK628.out, bc6_ BK628.out, own_string (P := Try.prog) Try.underlying22 Try.underlying5 Try.underlying9 (Kd.own_of_R HO617.out)⟩ (fun hHeld => ?_)
     clear hK K
     refine no_ 38 ?_
     refine pt_ 11 41 4095 ?_
     refine pt_ 12 42 8191 ?_
     refine pt_ 13 43 16383 ?_
     refine done_ (done_of HT_.out (by kernel_rfl)) ?_
     try go_wp2
     go_meet
     case rel => exact ⟨_, (((strOfNums t640).toList != (strOfNums t615).toList)), e1_, H', ⟨le_⟩, ⟨by (with_reducible repeat (first | apply Kd.R_alloc | apply Kd.R_drewN | apply Kd.R_drew)); exact Kd.R_mono HO614.out (fun _ hk => trivial)⟩, ⟨kr_ HO610.out⟩, ⟨kr_ HO626.out⟩, ⟨kr_ HO637.out⟩, ⟨kb_ BK611.out⟩, ⟨kb_ BK628.out⟩, ⟨kb_ BK639.out⟩, ⟨bw_ HB⟩⟩
    ·have H' := Aside0.mk H
     clear H
     try go_wp2
     have n0_ : Aside0 (Kd.R Kd.string 9 (((((((w23.setCell ⟨gb639, 0, none⟩ (.int .i64 t629)).setCell ⟨gb639, 1, none⟩ (.int .i64 t630)).setCell ⟨gb639, 2, none⟩ (.int .i64 t631)).setCell ⟨gb639, 3, none⟩ (.int .i64 t632)).setCell ⟨gb639, 4, none⟩ (.string t633)).setCell ⟨gb639, 5, none⟩ (.int .i64 t634)).setCell ⟨gb639, 6, none⟩ (.slice Ao27 t635.length co27)) w.heap.size (fun k_ => some k_ ≠ (.slice Ao21 t624.length co21 : Value).ownBlock ∧ some k_ ≠ (.slice Ao27 t635.length co27 : Value).ownBlock) (.slice Ao13 t608.length co13) t608) := ⟨by (with_reducible repeat (first | apply Kd.R_alloc | apply Kd.R_drewN | apply Kd.R_drew)); exact Kd.R_mono (Kd.R_far (p := ⟨gb639, 6, none⟩) (Kd.R_far (p := ⟨gb639, 5, none⟩) (Kd.R_far (p := ⟨gb639, 4, none⟩) (Kd.R_far (p := ⟨gb639, 3, none⟩) (Kd.R_far (p := ⟨gb639, 2, none⟩) (Kd.R_far (p := ⟨gb639, 1, none⟩) (Kd.R_far (p := ⟨gb639, 0, none⟩) (Kd.R_types HO610.out BK639.out (by decide)) (fun _ hk => hk.2) (.int .i64 t629)) (fun _ hk => hk.2) (.int .i64 t630)) (fun _ hk => hk.2) (.int .i64 t631)) (fun _ hk => hk.2) (.int .i64 t632)) (fun _ hk => hk.2) (.string t633)) (fun _ hk => hk.2) (.int .i64 t634)) (fun _ hk => hk.2) (.slice Ao27 t635.length co27)) (fun _ hk => ⟨hk.1.1.2, hk.1.2⟩)⟩
     have n1_ : Aside0 (Kd.R (Kd.int .u8) 5 (((((((w23.setCell ⟨gb639, 0, none⟩ (.int .i64 t629)).setCell ⟨gb639, 1, none⟩ (.int .i64 t630)).setCell ⟨gb639, 2, none⟩ (.int .i64 t631)).setCell ⟨gb639, 3, none⟩ (.int .i64 t632)).setCell ⟨gb639, 4, none⟩ (.string t633)).setCell ⟨gb639, 5, none⟩ (.int .i64 t634)).setCell ⟨gb639, 6, none⟩ (.slice Ao27 t635.length co27)) w.heap.size (fun k_ => some k_ ≠ (.slice Ao16 t615.length co16 : Value).ownBlock) v613 t612) := ⟨by (with_reducible repeat (first | apply Kd.R_alloc | apply Kd.R_drewN | apply Kd.R_drew)); exact Kd.R_mono (Kd.R_far (p := ⟨gb639, 6, none⟩) (Kd.R_far (p := ⟨gb639, 5, none⟩) (Kd.R_far (p := ⟨gb639, 4, none⟩) (Kd.R_far (p := ⟨gb639, 3, none⟩) (Kd.R_far (p := ⟨gb639, 2, none⟩) (Kd.R_far (p := ⟨gb639, 1, none⟩) (Kd.R_far (p := ⟨gb639, 0, none⟩) (Kd.R_types HO614.out BK639.out (by decide)) (fun _ hk => hk.2) (.int .i64 t629)) (fun _ hk => hk.2) (.int .i64 t630)) (fun _ hk => hk.2) (.int .i64 t631)) (fun _ hk => hk.2) (.int .i64 t632)) (fun _ hk => hk.2) (.string t633)) (fun _ hk => hk.2) (.int .i64 t634)) (fun _ hk => hk.2) (.slice Ao27 t635.length co27)) (fun _ hk => hk.1.2)⟩
     have n2_ : Aside0 (Kd.R (Kd.int .u8) 5 (((((((w23.setCell ⟨gb639, 0, none⟩ (.int .i64 t629)).setCell ⟨gb639, 1, none⟩ (.int .i64 t630)).setCell ⟨gb639, 2, none⟩ (.int .i64 t631)).setCell ⟨gb639, 3, none⟩ (.int .i64 t632)).setCell ⟨gb639, 4, none⟩ (.string t633)).setCell ⟨gb639, 5, none⟩ (.int .i64 t634)).setCell ⟨gb639, 6, none⟩ (.slice Ao27 t635.length co27)) w.heap.size (fun k_ => some k_ ≠ (v613 : Value).ownBlock) (.slice Ao16 t615.length co16) t615) := ⟨by (with_reducible repeat (first | apply Kd.R_alloc | apply Kd.R_drewN | apply Kd.R_drew)); exact Kd.R_mono (Kd.R_far (p := ⟨gb639, 6, none⟩) (Kd.R_far (p := ⟨gb639, 5, none⟩) (Kd.R_far (p := ⟨gb639, 4, none⟩) (Kd.R_far (p := ⟨gb639, 3, none⟩) (Kd.R_far (p := ⟨gb639, 2, none⟩) (Kd.R_far (p := ⟨gb639, 1, none⟩) (Kd.R_far (p := ⟨gb639, 0, none⟩) (Kd.R_types HO617.out BK639.out (by decide)) (fun _ hk => hk.2) (.int .i64 t629)) (fun _ hk => hk.2) (.int .i64 t630)) (fun _ hk => hk.2) (.int .i64 t631)) (fun _ hk => hk.2) (.int .i64 t632)) (fun _ hk => hk.2) (.string t633)) (fun _ hk => hk.2) (.int .i64 t634)) (fun _ hk => hk.2) (.slice Ao27 t635.length co27)) (fun _ hk => hk.1.2)⟩
     have n3_ : Aside0 (Kd.R Kd.string 9 (((((((w23.setCell ⟨gb639, 0, none⟩ (.int .i64 t629)).setCell ⟨gb639, 1, none⟩ (.int .i64 t630)).setCell ⟨gb639, 2, none⟩ (.int .i64 t631)).setCell ⟨gb639, 3, none⟩ (.int .i64 t632)).setCell ⟨gb639, 4, none⟩ (.string t633)).setCell ⟨gb639, 5, none⟩ (.int .i64 t634)).setCell ⟨gb639, 6, none⟩ (.slice Ao27 t635.length co27)) w.heap.size (fun k_ => some k_ ≠ (.slice Ao13 t608.length co13 : Value).ownBlock ∧ some k_ ≠ (.slice Ao27 t635.length co27 : Value).ownBlock) (.slice Ao21 t624.length co21) t624) := ⟨by (with_reducible repeat (first | apply Kd.R_alloc | apply Kd.R_drewN | apply Kd.R_drew)); exact Kd.R_mono (Kd.R_far (p := ⟨gb639, 6, none⟩) (Kd.R_far (p := ⟨gb639, 5, none⟩) (Kd.R_far (p := ⟨gb639, 4, none⟩) (Kd.R_far (p := ⟨gb639, 3, none⟩) (Kd.R_far (p := ⟨gb639, 2, none⟩) (Kd.R_far (p := ⟨gb639, 1, none⟩) (Kd.R_far (p := ⟨gb639, 0, none⟩) (Kd.R_types HO626.out BK639.out (by decide)) (fun _ hk => hk.2) (.int .i64 t629)) (fun _ hk => hk.2) (.int .i64 t630)) (fun _ hk => hk.2) (.int .i64 t631)) (fun _ hk => hk.2) (.int .i64 t632)) (fun _ hk => hk.2) (.string t633)) (fun _ hk => hk.2) (.int .i64 t634)) (fun _ hk => hk.2) (.slice Ao27 t635.length co27)) (fun _ hk => ⟨hk.1.1.2, hk.1.2⟩)⟩
     have n4_ : Aside0 (Kd.R Kd.string 9 (((((((w23.setCell ⟨gb639, 0, none⟩ (.int .i64 t629)).setCell ⟨gb639, 1, none⟩ (.int .i64 t630)).setCell ⟨gb639, 2, none⟩ (.int .i64 t631)).setCell ⟨gb639, 3, none⟩ (.int .i64 t632)).setCell ⟨gb639, 4, none⟩ (.string t633)).setCell ⟨gb639, 5, none⟩ (.int .i64 t634)).setCell ⟨gb639, 6, none⟩ (.slice Ao27 t635.length co27)) w.heap.size (fun k_ => some k_ ≠ (.slice Ao13 t608.length co13 : Value).ownBlock ∧ some k_ ≠ (.slice Ao21 t624.length co21 : Value).ownBlock) (.slice Ao27 t635.length co27) t635) := ⟨by (with_reducible repeat (first | apply Kd.R_alloc | apply Kd.R_drewN | apply Kd.R_drew)); exact Kd.R_mono (Kd.R_far (p := ⟨gb639, 6, none⟩) (Kd.R_far (p := ⟨gb639, 5, none⟩) (Kd.R_far (p := ⟨gb639, 4, none⟩) (Kd.R_far (p := ⟨gb639, 3, none⟩) (Kd.R_far (p := ⟨gb639, 2, none⟩) (Kd.R_far (p := ⟨gb639, 1, none⟩) (Kd.R_far (p := ⟨gb639, 0, none⟩) (Kd.R_types HO637.out BK639.out (by decide)) (fun _ hk => hk.2) (.int .i64 t629)) (fun _ hk => hk.2) (.int .i64 t630)) (fun _ hk => hk.2) (.int .i64 t631)) (fun _ hk => hk.2) (.int .i64 t632)) (fun _ hk => hk.2) (.string t633)) (fun _ hk => hk.2) (.int .i64 t634)) (fun _ hk => hk.2) (.slice Ao27 t635.length co27)) (fun _ hk => ⟨hk.1.1.2, hk.1.2⟩)⟩
     have n5_ : Aside0 ((((((((w23.setCell ⟨gb639, 0, none⟩ (.int .i64 t629)).setCell ⟨gb639, 1, none⟩ (.int .i64 t630)).setCell ⟨gb639, 2, none⟩ (.int .i64 t631)).setCell ⟨gb639, 3, none⟩ (.int .i64 t632)).setCell ⟨gb639, 4, none⟩ (.string t633)).setCell ⟨gb639, 5, none⟩ (.int .i64 t634)).setCell ⟨gb639, 6, none⟩ (.slice Ao27 t635.length co27)).heap[gb611]? = some (.cells #[.int .i64 t602, .int .i64 t603, .int .i64 t604, .int .i64 t605, .string t606, .int .i64 t607, .slice Ao13 t608.length co13] 28 (0, 0))) := ⟨kq_ BK611⟩
     have n6_ : Aside0 ((((((((w23.setCell ⟨gb639, 0, none⟩ (.int .i64 t629)).setCell ⟨gb639, 1, none⟩ (.int .i64 t630)).setCell ⟨gb639, 2, none⟩ (.int .i64 t631)).setCell ⟨gb639, 3, none⟩ (.int .i64 t632)).setCell ⟨gb639, 4, none⟩ (.string t633)).setCell ⟨gb639, 5, none⟩ (.int .i64 t634)).setCell ⟨gb639, 6, none⟩ (.slice Ao27 t635.length co27)).heap[gb628]? = some (.cells #[.int .i64 t618, .int .i64 t619, .int .i64 t620, .int .i64 t621, .string t622, .int .i64 t623, .slice Ao21 t624.length co21] 28 (0, 0))) := ⟨kq_ BK628⟩
     have n7_ : Aside0 ((((((((w23.setCell ⟨gb639, 0, none⟩ (.int .i64 t629)).setCell ⟨gb639, 1, none⟩ (.int .i64 t630)).setCell ⟨gb639, 2, none⟩ (.int .i64 t631)).setCell ⟨gb639, 3, none⟩ (.int .i64 t632)).setCell ⟨gb639, 4, none⟩ (.string t633)).setCell ⟨gb639, 5, none⟩ (.int .i64 t634)).setCell ⟨gb639, 6, none⟩ (.slice Ao27 t635.length co27)).heap[gb639]? = some (.cells #[.int .i64 t629, .int .i64 t630, .int .i64 t631, .int .i64 t632, .string t633, .int .i64 t634, .slice Ao27 t635.length co27] 28 (0, 0))) := ⟨kq_ BK639⟩
     have n8_ : Aside0 (Below w.heap.size w (((((((w23.setCell ⟨gb639, 0, none⟩ (.int .i64 t629)).setCell ⟨gb639, 1, none⟩ (.int .i64 t630)).setCell ⟨gb639, 2, none⟩ (.int .i64 t631)).setCell ⟨gb639, 3, none⟩ (.int .i64 t632)).setCell ⟨gb639, 4, none⟩ (.string t633)).setCell ⟨gb639, 5, none⟩ (.int .i64 t634)).setCell ⟨gb639, 6, none⟩ (.slice Ao27 t635.length co27))) := ⟨bw_ HB⟩
     generalize (((((((w23.setCell ⟨gb639, 0, none⟩ (.int .i64 t629)).setCell ⟨gb639, 1, none⟩ (.int .i64 t630)).setCell ⟨gb639, 2, none⟩ (.int .i64 t631)).setCell ⟨gb639, 3, none⟩ (.int .i64 t632)).setCell ⟨gb639, 4, none⟩ (.string t633)).setCell ⟨gb639, 5, none⟩ (.int .i64 t634)).setCell ⟨gb639, 6, none⟩ (.slice Ao27 t635.length co27)) = w39 at n0_ n1_ n2_ n3_ n4_ n5_ n6_ n7_ n8_ ⊢
     have HO610 := n0_
     have HO614 := n1_
     have HO617 := n2_
     have HO626 := n3_
     have HO637 := n4_
     have BK611 := n5_
     have BK628 := n6_
     have BK639 := n7_
     have HB := n8_
     clear n0_ n1_ n2_ n3_ n4_ n5_ n6_ n7_ n8_
     replace HO610 := Aside0.mk (Kd.R_drew HO610.out)
     replace HO614 := Aside0.mk (Kd.R_drew HO614.out)
     replace HO617 := Aside0.mk (Kd.R_drew HO617.out)
     replace HO626 := Aside0.mk (Kd.R_drew HO626.out)
     replace HO637 := Aside0.mk (Kd.R_drew HO637.out)
     replace BK611 := Aside0.mk (blk_drew BK611.out)
     replace BK628 := Aside0.mk (blk_drew BK628.out)
     replace BK639 := Aside0.mk (blk_drew BK639.out)
     replace HB := Aside0.mk (below_drew1 HB.out)
     refine start_ (n := 14) (S := fun w' => True) (ds := []) (lz_ 14 0) (by kernel_rfl) rfl rfl trivial (fun hHeld => ?_); refine with_tabW laws_FnWords.tab8 laws_FnWords.bits8 (fun HT_ HW_ => ?_)
     generalize w39.drew = w40 at HO610 HO614 HO617 HO626 HO637 BK611 BK628 BK639 HB hHeld ⊢
     refine pt_ 0 30 1 ?_
     refine pt_ 1 31 3 ?_
     refine pt_ 2 32 7 ?_
     refine pt_ 3 33 15 ?_
     refine pt_ 4 34 31 ?_
     refine pt_ 5 35 63 ?_
     refine ut_ 6 36 127 ?_
     refine ut_ 7 37 255 ?_
     refine ut_ 8 38 511 ?_
     refine ut_ 9 39 1023 ?_
     refine ut_ 10 40 2047 ?_
     refine ut_ 11 41 4095 ?_
     refine pt_ 12 42 8191 ?_
     refine pt_ 13 43 16383 ?_
     refine done_ (done_of HT_.out (by kernel_rfl)) ?_
     try go_wp2
     go_meet
     case rel => exact ⟨_, (false), e1_, H', ⟨le_⟩, ⟨by (with_reducible repeat (first | apply Kd.R_alloc | apply Kd.R_drewN | apply Kd.R_drew)); exact Kd.R_mono HO614.out (fun _ hk => trivial)⟩, ⟨kr_ HO610.out⟩, ⟨kr_ HO626.out⟩, ⟨kr_ HO637.out⟩, ⟨kb_ BK611.out⟩, ⟨kb_ BK628.out⟩, ⟨kb_ BK639.out⟩, ⟨bw_ HB⟩⟩
  case rest =>
   clear HC9
   obtain ⟨kq, x43_8, rfl, HA, HJ8, HO_4, HO_612006, HO_629006, HO_640006, BK611, BK628, BK639, HB⟩ := hcut
   cases kq with
   | zero => exact absurd HA.out (by simp [laws_FnWords.j0])
   | succ kj8 =>
    have H := HA.out
    clear HA
    simp only [laws_FnWords.j0] at H
    replace H := inb_ H; obtain ⟨rfl, H⟩ := H
    replace H := bi_ H; obtain ⟨t643, A42, H⟩ := H
    replace H := itb_ H; obtain ⟨rfl, H⟩ | ⟨rfl, H⟩ := H
    ·replace H := bi_ H; obtain ⟨⟨t644, t645, t646, t647, t648, t649, t650, t653⟩, A44, H⟩ := H
     dsimp only at H
     replace H := ipb_ H; obtain ⟨rfl, H⟩ := H
     replace H := ip_ H; obtain ⟨c46, H⟩ := H
     have c46b0 : (t644 == t602) = true := beq_iff_eq.mpr c46
     have c46b1 : (t644 != t602) = false := bne_eq_false_iff_eq.mpr c46
     clear c46
     replace H := ip_ H; obtain ⟨c47, H⟩ := H
     have c47b0 : (t645 == t603) = true := beq_iff_eq.mpr c47
     have c47b1 : (t645 != t603) = false := bne_eq_false_iff_eq.mpr c47
     clear c47
     replace H := ip_ H; obtain ⟨c48, H⟩ := H
     have c48b0 : (t646 == t604) = true := beq_iff_eq.mpr c48
     have c48b1 : (t646 != t604) = false := bne_eq_false_iff_eq.mpr c48
     clear c48
     replace H := ip_ H; obtain ⟨c49, H⟩ := H
     have c49b0 : (t647 == t605 && (t648.toList == t606.toList)) = true := c49
     (try (have c49b1 : decide (t647 = t605 && (t648.toList == t606.toList)) = true := by simpa using c49))
     (try (have c49b2 : (t647 == t605 && (t648.toList == t606.toList)) = true := by simpa using c49))
     clear c49
     replace H := ip_ H; obtain ⟨c50, H⟩ := H
     have c50b0 : (t649 == t607) = true := beq_iff_eq.mpr c50
     have c50b1 : (t649 != t607) = false := bne_eq_false_iff_eq.mpr c50
     clear c50
     replace H := bi_ H; obtain ⟨t655, A51, H⟩ := H
     obtain rfl := Option.some.inj H
     have hnb52 := NB611_628.out
     have hnc52 := NB628_611.out
     have hnb53 := NB611_639.out
     have hnc53 := NB639_611.out
     have hcz54_0 := bc0_ BK611.out
     have hcz54_1 := bc1_ BK611.out
     have hcz54_2 := bc2_ BK611.out
     have hcz54_3 := bc3_ BK611.out
     have hcz54_4 := bc4_ BK611.out
     have hcz54_5 := bc5_ BK611.out
     have hcz54_6 := bc6_ BK611.out
     have hfz54_0 := blk_frozen BK611.out 0
     have hfz54_1 := blk_frozen BK611.out 1
     have hfz54_2 := blk_frozen BK611.out 2
     have hfz54_3 := blk_frozen BK611.out 3
     have hfz54_4 := blk_frozen BK611.out 4
     have hfz54_5 := blk_frozen BK611.out 5
     have hfz54_6 := blk_frozen BK611.out 6
     go_wp2_with (first | ((with_reducible refine gq_ 11 45 ?_); refine gc_ 45 Try.func11 (spec_MsgOk.calls kj8 t602 t603 t604 t605 t606 t607 _ _ t608 true _ (ch_ HO_612006) (cl_ HO_612006) A42.out) ?_; rintro e w55 ⟨rfl, hb⟩; refine ⟨_, rfl, ?_⟩; replace HO_4 := rb_ HO_4 hb; replace HO_612006 := rb_ HO_612006 hb; replace HO_629006 := rb_ HO_629006 hb; replace HO_640006 := rb_ HO_640006 hb; replace BK611 := kl_ BK611 hb; replace BK628 := kl_ BK628 hb; replace BK639 := kl_ BK639 hb; replace HB := ss_ HB hb; clear hb; obtain ⟨Ao56, co56, eo56⟩ := Kd.R_slice HO_4.out; subst eo56) | ((with_reducible refine gq_ 9 57 ?_); refine gc_ 57 Try.func9 (impl_GetMsg.calls kj8 _ _ t612 t644 t645 t646 t647 t648 t649 t650 true _ (ch_ HO_4) (cl_ HO_4) A44.out) ?_; rintro e w57 ⟨v651, rfl, ho0, hb⟩; refine ⟨_, rfl, ?_⟩; replace HO_4 := rb_ HO_4 hb; have HO652 := Aside0.mk (Kd.R_lower (Kd.R_new' (Kd.R_new' (Kd.R_new' ho0 (lt_ HO_612006)) (lt_ HO_629006)) (lt_ HO_640006)) (sz_ HB)); replace HO_612006 := re_ HO_612006 ho0 hb; replace HO_629006 := re_ HO_629006 ho0 hb; replace HO_640006 := re_ HO_640006 ho0 hb; replace BK611 := kl_ BK611 hb; replace BK628 := kl_ BK628 hb; replace BK639 := kl_ BK639 hb; replace HB := ss_ HB hb; clear hb ho0) | ((with_reducible refine gd_ 10 ?_); refine bx_ 10 28 #[.int .i64 0, .int .i64 0, .int .i64 0, .int .i64 0, .string (⟨#[]⟩ : ByteArray), .int .i64 0, .slice none 0 0] ?_; intro gb654 hg w58 hbox hb; replace HO_4 := rb_ HO_4 hb; replace HO_612006 := rb_ HO_612006 hb; replace HO_629006 := rb_ HO_629006 hb; replace HO_640006 := rb_ HO_640006 hb; replace HO652 := rb_ HO652 hb; have BK654 := Aside0.mk hbox; have GW654 := gg_ hg HB; have GE654 := GW654; replace HB := ss_ HB hb; have NB611_654 := nla_ hg BK611; have NB654_611 := nga_ hg BK611; replace BK611 := kl_ BK611 hb; have NB628_654 := nla_ hg BK628; have NB654_628 := nga_ hg BK628; replace BK628 := kl_ BK628 hb; have NB639_654 := nla_ hg BK639; have NB654_639 := nga_ hg BK639; replace BK639 := kl_ BK639 hb; clear hb hbox hg; have hnb59 := NB654_611.out; have hnc59 := NB611_654.out; have hnb60 := NB654_628.out; have hnc60 := NB628_654.out; have hnb61 := NB654_639.out; have hnc61 := NB639_654.out; have hcz62_0 := bc0_ BK654.out; have hcz62_1 := bc1_ BK654.out; have hcz62_2 := bc2_ BK654.out; have hcz62_3 := bc3_ BK654.out; have hcz62_4 := bc4_ BK654.out; have hcz62_5 := bc5_ BK654.out; have hcz62_6 := bc6_ BK654.out; have hfz62_0 := blk_frozen BK654.out 0; have hfz62_1 := blk_frozen BK654.out 1; have hfz62_2 := blk_frozen BK654.out 2; have hfz62_3 := blk_frozen BK654.out 3; have hfz62_4 := blk_frozen BK654.out 4; have hfz62_5 := blk_frozen BK654.out 5; have hfz62_6 := blk_frozen BK654.out 6; obtain ⟨Ao63, co63, eo63⟩ := Kd.R_slice HO652.out; subst eo63; have hcz64_0 := bc0_ BK611.out; have hcz64_1 := bc1_ BK611.out; have hcz64_2 := bc2_ BK611.out; have hcz64_3 := bc3_ BK611.out; have hcz64_4 := bc4_ BK611.out; have hcz64_5 := bc5_ BK611.out; have hcz64_6 := bc6_ BK611.out; have hfz64_0 := blk_frozen BK611.out 0; have hfz64_1 := blk_frozen BK611.out 1; have hfz64_2 := blk_frozen BK611.out 2; have hfz64_3 := blk_frozen BK611.out 3; have hfz64_4 := blk_frozen BK611.out 4; have hfz64_5 := blk_frozen BK611.out 5; have hfz64_6 := blk_frozen BK611.out 6) | (go_at_call 13; (with_reducible refine (laws_sameTexts.calls kj8 _ _ t650 _ _ t608 t655 _ ?side1 ?side2 ?side3 ?side4 A51.out).mono ?_); (case side1 => exact chf_ HO652 BK654); (case side2 => exact (cl_ HO652)); (case side3 => exact chf_ HO_612006 BK654); (case side4 => exact (cl_ HO_612006)); rintro e w' ⟨rfl, ⟨nd, rfl⟩⟩))
     go_ret
     exact ⟨e2_, bw_ HB⟩
    ·replace H := ip_ H; obtain ⟨c65, H⟩ := H
     have c65b0 : ((t612.length : Int) == 0) = true := beq_iff_eq.mpr c65
     have c65b1 : ((t612.length : Int) != 0) = false := bne_eq_false_iff_eq.mpr c65
     clear c65
     replace H := bi_ H; obtain ⟨t656, A66, H⟩ := H
     obtain rfl := Option.some.inj H
     have hnb67 := NB611_628.out
     have hnc67 := NB628_611.out
     have hnb68 := NB611_639.out
     have hnc68 := NB639_611.out
     have hcz69_0 := bc0_ BK611.out
     have hcz69_1 := bc1_ BK611.out
     have hcz69_2 := bc2_ BK611.out
     have hcz69_3 := bc3_ BK611.out
     have hcz69_4 := bc4_ BK611.out
     have hcz69_5 := bc5_ BK611.out
     have hcz69_6 := bc6_ BK611.out
     have hfz69_0 := blk_frozen BK611.out 0
     have hfz69_1 := blk_frozen BK611.out 1
     have hfz69_2 := blk_frozen BK611.out 2
     have hfz69_3 := blk_frozen BK611.out 3
     have hfz69_4 := blk_frozen BK611.out 4
     have hfz69_5 := blk_frozen BK611.out 5
     have hfz69_6 := blk_frozen BK611.out 6
     go_wp2_with (first | ((with_reducible refine gq_ 11 45 ?_); refine gc_ 45 Try.func11 (spec_MsgOk.calls kj8 t602 t603 t604 t605 t606 t607 _ _ t608 false _ (ch_ HO_612006) (cl_ HO_612006) A42.out) ?_; rintro e w70 ⟨rfl, hb⟩; refine ⟨_, rfl, ?_⟩; replace HO_4 := rb_ HO_4 hb; replace HO_612006 := rb_ HO_612006 hb; replace HO_629006 := rb_ HO_629006 hb; replace HO_640006 := rb_ HO_640006 hb; replace BK611 := kl_ BK611 hb; replace BK628 := kl_ BK628 hb; replace BK639 := kl_ BK639 hb; replace HB := ss_ HB hb; clear hb; obtain ⟨Ao71, co71, eo71⟩ := Kd.R_slice HO_4.out; subst eo71; have hcz72_0 := bc0_ BK611.out; have hcz72_1 := bc1_ BK611.out; have hcz72_2 := bc2_ BK611.out; have hcz72_3 := bc3_ BK611.out; have hcz72_4 := bc4_ BK611.out; have hcz72_5 := bc5_ BK611.out; have hcz72_6 := bc6_ BK611.out; have hfz72_0 := blk_frozen BK611.out 0; have hfz72_1 := blk_frozen BK611.out 1; have hfz72_2 := blk_frozen BK611.out 2; have hfz72_3 := blk_frozen BK611.out 3; have hfz72_4 := blk_frozen BK611.out 4; have hfz72_5 := blk_frozen BK611.out 5; have hfz72_6 := blk_frozen BK611.out 6) | (go_at_call 12; (with_reducible refine (impl_MsgOk.calls kj8 t602 t603 t604 t605 t606 t607 _ _ t608 t656 _ ?side1 ?side2 A66.out).mono ?_); (case side1 => exact ch_ HO_612006); (case side2 => exact (cl_ HO_612006)); rintro e w73 ⟨rfl, hb⟩; replace HO_4 := rb_ HO_4 hb; replace HO_612006 := rb_ HO_612006 hb; replace HO_629006 := rb_ HO_629006 hb; replace HO_640006 := rb_ HO_640006 hb; replace BK611 := kl_ BK611 hb; replace BK628 := kl_ BK628 hb; replace BK639 := kl_ BK639 hb; replace HB := ss_ HB hb; clear hb))
     go_ret
     exact ⟨e2_, bw_ HB⟩
end Go.Proofs.Ytnlndmoecljicaa.Q
end

section
/- The row of the law FnWords out of its pure statement and the printed walk. -/
namespace Go.Proofs.Ytnlndmoecljicaa.Q
open Go.RowKit Go.Proofs.Ytnlndmoecljicaa.XO Go.Proofs.YtnlndmoecljicaaW.PrintWords Go.ChangeShapes Go.WideShapes Go.ChangeAt
set_option linter.unusedVariables false
set_option linter.unusedSimpArgs false
def laws_FnWords.Pure : Prop := ∀ (x0 : List Int), (x0.length ≤ 9223372036854775807 ∧ ∀ y0 ∈ x0, (Lit.int .u8 y0).wf = true) → ∃ k, laws_FnWords.f k x0 = some true
namespace RFnWords
theorem own : ownKnob Try.prog.godebug = none := by kernel_rfl
theorem laidOut : laidOutB Try.prog = true := by kernel_rfl
set_option maxRecDepth 100000 in
theorem lifted (PU : laws_FnWords.Pure) (os : Os) (started : os.Started) (H : Type) (enc : TypeId × Value → H) :
    ReturnsInHanded {} Try.checked os 3 .any (Rows.fnWordsSpec.pre6 enc Try.prog Try.f3 Rows.fnWordsRow.domain false) (Rows.fnWordsSpec.post enc Try.prog Try.f3 false true false false) := by
  refine returnsInHanded_of_change_sized (C := Try.checked) own started (by kernel_rfl) Try.func3
    (ChangeSpec.witness6 (enc := enc) (C := Try.checked) false ⟨#[], #[.slice none 0 0], []⟩ 8 (by kernel_rfl) (by kernel_rfl) (by kernel_rfl) (by kernel_rfl)) ?_
  intro W base args ds gs before hval0 hW hcnd hsz0 _
  have hval : ∀ (j : Nat) t v, Try.f3.params[j]? = some t → args[j]? = some v → Value.okWide Try.prog W .any base t v := hval0
  have hW' := hW
  obtain ⟨p, q, hA0, hV, rfl, hfz, hnd⟩ := hW
  have hA : DataW.TrodAll enc Try.prog W 0 (fun _ => true) true Try.f3.params.toList args.toList ds p := hA0
  rw [Try.params3] at hA hval
  obtain ⟨v0, vs0, d0, ds0, p0, q0, hargs, rfl, rfl, h0, r0⟩ := trodAll_cons hA
  obtain ⟨rfl, rfl, rfl⟩ := trodAll_nil r0
  obtain rfl : args = #[v0] := by cases args; simp_all
  obtain ⟨rfl, rfl⟩ := trodVars_none hV
  have kk0 := h0
  have lt0 : ∀ x ∈ p0, x.block < W.heap.size := by obtain ⟨m, hm⟩ := kk0; exact DataW.trod_lt m _ _ _ hm
  obtain ⟨A0, len0, c0, rfl⟩ := okWide_slice Try.underlying22 (hval 0 22 v0 rfl rfl)
  obtain ⟨fu0, hf0⟩ := h0
  obtain ⟨x0, ⟨A0', c0', he0, hc0, hr0⟩, g0⟩ := (opens_slice Try.underlying22 (by kernel_rfl) (opens_int Try.underlying5)) hf0
  obtain ⟨rfl, rfl, rfl⟩ : A0 = A0' ∧ len0 = x0.length ∧ c0 = c0' := by simpa [Value.cells] using he0
  clear hA0 hval0 hsz0
  obtain ⟨k, hp⟩ := PU x0 g0
  refine (laws_FnWords.calls k _ _ x0 true W hr0 hc0 hp).mono fun e W' ⟨he, bel0⟩ => ?_
  have bel : Below W.heap.size W W' := bel0
  subst he
  exact ⟨_, rfl, _, _, _, [], _, [], hW', trodAll_mk1 (shut_bool Try.underlying4 _), (trodAll_cons_mk (Below.trod laidOut (by kernel_rfl) (of_decide_eq_true (by kernel_rfl)) kk0 bel lt0) trodAll_mk0), rfl, bel.frame _, fun h => by cases h⟩
theorem over (PU : laws_FnWords.Pure) : Rows.fnWordsRow.holds Try.pinned (OpenSpec.ofChange Rows.fnWordsSpec) :=
  OpenClaim.holds_of_wide 3 Try.f3 rfl rfl rfl rfl rfl rfl rfl ⟨rfl, rfl, rfl, rfl, rfl⟩ rfl rfl rfl rfl rfl (by kernel_rfl) Try.func3 (by kernel_rfl)
    (of_decide_eq_true (by kernel_rfl)) (by unfold Func.isWrapper; first | (rw [if_pos (by decide +kernel)]; kernel_rfl) | (rw [if_neg (by decide +kernel)]; exact ⟨rfl, rfl⟩))
    (fun os started H enc _ => lifted PU os started H enc)
end RFnWords
theorem FnWords_row (PU : laws_FnWords.Pure) : Rows.FnWordsSaid := RFnWords.over PU
end Go.Proofs.Ytnlndmoecljicaa.Q
end

section
/- A drawn word that is right comes back of its bytes; what is read has these bytes; no condition. -/
namespace Go.Proofs.Ytnlndmoecljicaa.Q
open Go.RowKit Go.Proofs.Ytnlndmoecljicaa.B Go.Proofs.YtnlndmoecljicaaW.PrintWords
set_option linter.unusedVariables false
set_option linter.unusedSimpArgs false
theorem msgB_inj {k f t d n k' f' t' d' n' : Nat} {s s' : ByteArray} {l l' : List ByteArray} (h : msgB k f t d s n l = msgB k' f' t' d' s' n' l') : k = k' ∧ f = f' ∧ t = t' ∧ d = d' ∧ s = s' ∧ n = n' ∧ l = l' := by
  unfold msgB at h
  obtain ⟨h1, h⟩ := num_inj _ _ _ _ h
  obtain ⟨h2, h⟩ := num_inj _ _ _ _ h
  obtain ⟨h3, h⟩ := num_inj _ _ _ _ h
  obtain ⟨h4, h⟩ := num_inj _ _ _ _ h
  obtain ⟨h5, h⟩ := textB_inj h
  obtain ⟨h6, h⟩ := num_inj _ _ _ _ h
  have h8 : textsB l ++ [] = textsB l' ++ [] := by rw [List.append_nil, List.append_nil]; exact h
  obtain ⟨h7, _⟩ := textsB_inj h8
  exact ⟨h1, h2, h3, h4, h5, h6, h7⟩
/-- What is behind the bytes that were read. -/
theorem words_end (b : List Int) (k f t d : Int) (s : ByteArray) (n : Int) (l : List ByteArray) (hl : SmallT l) (hb : msgOk k f t d s n l = true → ∃ k' f' t' d' n' : Nat, k = (k' : Int) ∧ f = (f' : Int) ∧ t = (t' : Int) ∧ d = (d' : Int) ∧ n = (n' : Int) ∧ b = msgB k' f' t' d' s n' l) (hb2 : ¬ msgOk k f t d s n l = true → b = []) : Ev (fun q => laws_FnWords.j0 q b false k f t d s n l) true := by
  refine Ev.step (fun q => by simp only [laws_FnWords.j0]; rfl) ?_
  refine Ev.neg (by simp) (Ev.bind (spec_MsgOk_ev k f t d s n l) ?_)
  by_cases hk : msgOk k f t d s n l = true
  · obtain ⟨k, f, t, d, n, rfl, rfl, rfl, rfl, rfl, rfl⟩ := hb hk
    obtain ⟨m1, m2⟩ := msgB_small k f t d s n l hk hl
    have hx : ∀ x ∈ l, x.size ≤ 1000000000 := fun x hx => by have := hl.2 x hx; omega
    obtain ⟨a1, a2, a3, a4, a5, a6, a7, ok, e1, e2, hl2, p1, p2⟩ := getMsg_both (msgB k f t d s n l) (msgB_inB _ _ _ _ _ _ _) (by omega)
    cases ok with
    | false => exact (p2 rfl k f t d s n l rfl hk hx).elim
    | true =>
      obtain ⟨k', f', t', d', n', rfl, rfl, rfl, rfl, rfl, _, he, _, _⟩ := p1 rfl
      obtain ⟨rfl, rfl, rfl, rfl, rfl, rfl, rfl⟩ := msgB_inj he
      have hs := laws_same_ev l l (by omega)
      rw [decide_eq_true rfl] at hs
      exact Ev.pos hk (Ev.bind e2 (Ev.pos rfl (Ev.pos rfl (Ev.pos rfl (Ev.pos rfl (Ev.pos (by simp) (Ev.pos rfl (Ev.bind hs (Ev.now _)))))))))
  · rw [hb2 hk]
    refine Ev.neg hk (Ev.pos rfl (Ev.bind (impl_MsgOk_ev k f t d s n l) ?_))
    rw [Bool.not_eq_true] at hk
    rw [hk]
    exact Ev.now _
theorem putMsg_told (k f t d : Int) (s : ByteArray) (n : Int) (l : List ByteArray) (hl : total l ≤ 1000000000) (hx : ∀ x ∈ l, x.size ≤ 1000000000) : ∃ b, Ev (fun q => impl_PutMsg.f q k f t d s n l) b ∧ (msgOk k f t d s n l = true → ∃ k' f' t' d' n' : Nat, k = (k' : Int) ∧ f = (f' : Int) ∧ t = (t' : Int) ∧ d = (d' : Int) ∧ n = (n' : Int) ∧ b = msgB k' f' t' d' s n' l) ∧ (¬ msgOk k f t d s n l = true → b = []) := by
  by_cases hk : msgOk k f t d s n l = true
  · obtain ⟨c1, c2, c3, c4, c5, c6, c7⟩ := msgOk_parts hk
    obtain ⟨k, rfl⟩ := Int.eq_ofNat_of_zero_le c1.1
    obtain ⟨f, rfl⟩ := Int.eq_ofNat_of_zero_le c2.1
    obtain ⟨t, rfl⟩ := Int.eq_ofNat_of_zero_le c3.1
    obtain ⟨d, rfl⟩ := Int.eq_ofNat_of_zero_le c4.1
    obtain ⟨n, rfl⟩ := Int.eq_ofNat_of_zero_le c6.1
    exact ⟨_, implPut_val k f t d s n l hk hl hx, fun _ => ⟨k, f, t, d, n, rfl, rfl, rfl, rfl, rfl, rfl⟩, fun h => (h hk).elim⟩
  · refine ⟨[], ?_, fun h => (hk h).elim, fun _ => rfl⟩
    unfold impl_PutMsg.f
    exact Ev.bind (impl_MsgOk_ev _ _ _ _ _ _ _) (Ev.neg hk (Ev.now _))
theorem pure_FnWords : laws_FnWords.Pure := by
  intro c g0
  refine Ev.rounds (g := fun k => laws_FnWords.f k c) ?_
  unfold laws_FnWords.f laws_big.f
  by_cases hbig : (c.length : Int) > 1048576
  · exact Ev.pos (decide_eq_true hbig) (Ev.now _)
  · refine Ev.neg (by rw [decide_eq_true_eq]; exact hbig) ?_
    obtain ⟨⟨k, f, t, d, s, n, l⟩, hD, hS⟩ := drawPutMsg_ev c (by omega)
    simp only at hS
    obtain ⟨b, hB, q1, q2⟩ := putMsg_told k f t d s n l (by have := small_total hS; omega) (fun x hx => by have := hS.2 x hx; omega)
    obtain ⟨r, hR, r1, r2⟩ := drawGetMsg_ev c (by omega)
    obtain ⟨a1, a2, a3, a4, a5, a6, a7, ok, e1, e2, hl2, p1, p2⟩ := getMsg_both r r1 r2
    have hE := words_end b k f t d s n l hS q1 q2
    refine Ev.bind hD (Ev.bind hB (Ev.bind hR (Ev.bind e2 (Ev.bind e1 (Ev.neg (by simp) ?_)))))
    cases ok with
    | false => exact Ev.neg (by simp) hE
    | true =>
      obtain ⟨k', f', t', d', n', rfl, rfl, rfl, rfl, rfl, hk, he, ht, hx⟩ := p1 rfl
      refine Ev.pos rfl (Ev.bind (implPut_val k' f' t' d' a5 n' a7 hk ht hx) ?_)
      rw [← he]
      simp only [bne_self_eq_false]
      exact hE
end Go.Proofs.Ytnlndmoecljicaa.Q
namespace Go.Proofs.Ytnlndmoecljicaa
theorem fnWords_holds : Rows.FnWordsSaid := Q.FnWords_row Q.pure_FnWords
end Go.Proofs.Ytnlndmoecljicaa
end
