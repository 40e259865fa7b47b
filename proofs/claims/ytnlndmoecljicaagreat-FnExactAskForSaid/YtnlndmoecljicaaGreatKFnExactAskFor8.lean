-- Joined and shortened by a program of this session (wip/tools/shakecopy.py): the words of the print, texts of pp.sh and of mine.
import Derived.Test.YtnlndmoecljicaaGreatKFnExactAskFor7
import Derived.Test.YtnlndmoecljicaaGreatRows
import Derived.WalkKit
import Derived.ProofKit
import Derived.OpenShut
import Derived.ShutString
import Derived.ChangeOld
import Derived.Below
import Derived.SizedLaws
import Derived.Carry
section
namespace Go.Proofs.YtnlndmoecljicaaGreat.Q
open Go.RowKit Go.Proofs.YtnlndmoecljicaaGreatW.PrintWords Go.Proofs.YtnlndmoecljicaaGreatW.PrintLast Go.Proofs.YtnlndmoecljicaaGreatW.PrintMore
attribute [local go_sem] max2_int min2_int max_two min_two max_three min_three max_four min_four   -- for this text's walks alone
set_option linter.unusedVariables false
set_option linter.unusedSimpArgs false
def laws_FnExactAskFor.j0 : Nat → List (S24) → Int → List (S65) → List (S65) → Bool → Int → List ByteArray → Int → ByteArray → List Int → Int → Int → ByteArray → Option (Bool)
 | 0, _, _, _, _, _, _, _, _, _, _, _, _, _ => none
 | k + 1, x1, x2, x8, x11, x67, x602000, x602001, x602002, x602003, x602004, x602005, x602006, x602007 => if x67 = true then (none) else ((laws_markMsgS.f k x11 1).bind fun bt665 => ((laws_heldMsgS.f k bt665.2 1).bind fun t667 => (if t667 < 0 then (none) else (if t667 = bt665.1 then ((laws_toMirror.f k x602000 x602001 x602002 x602003 x602004 x602005 x602006 x602007).bind fun bt668 => ((laws_toHeadS.f k x1).bind fun t680 => ((impl_AskFor.f k bt668.1 bt668.2.1 bt668.2.2.1 bt668.2.2.2.1 bt668.2.2.2.2.1 bt668.2.2.2.2.2.1 bt668.2.2.2.2.2.2.1 bt668.2.2.2.2.2.2.2 t680 x2).bind fun t683 => ((laws_eqMsgS.f k t683 x8).bind fun t686 => (if t686 = true then ((laws_heldMsgS.f k bt665.2 1).bind fun t687 => (if t687 < 0 then (none) else (if t687 = bt665.1 then (some true) else (none)))) else (none)))))) else (none)))))
def laws_FnExactAskFor.f (k : Nat) (a0_0 : Int) (l0_1 : List ByteArray) (a0_2 : Int) (a0_3 : ByteArray) (l0_4 : List Int) (a0_5 : Int) (a0_6 : Int) (a0_7 : ByteArray) (l1 : List (S24)) (a2 : Int) : Option (Bool) := (laws_szMirror.f k a0_0 l0_1 a0_2 a0_3 l0_4 a0_5 a0_6 a0_7 1048576).bind fun t602 => (if t602 < 0 then (some true) else ((laws_szHeadS.f k l1 t602).bind fun t603 => (if t603 < 0 then (some true) else ((laws_toMirror.f k a0_0 l0_1 a0_2 a0_3 l0_4 a0_5 a0_6 a0_7).bind fun bt604 => ((laws_toHeadS.f k l1).bind fun t616 => ((spec_AskFor.f k bt604.1 bt604.2.1 bt604.2.2.1 bt604.2.2.2.1 bt604.2.2.2.2.1 bt604.2.2.2.2.2.1 bt604.2.2.2.2.2.2.1 bt604.2.2.2.2.2.2.2 t616 a2).bind fun t619 => ((laws_toMirror.f k a0_0 l0_1 a0_2 a0_3 l0_4 a0_5 a0_6 a0_7).bind fun bt622 => ((laws_toHeadS.f k l1).bind fun t635 => ((impl_AskFor.f k bt622.1 bt622.2.1 bt622.2.2.1 bt622.2.2.2.1 bt622.2.2.2.2.1 bt622.2.2.2.2.2.1 bt622.2.2.2.2.2.2.1 bt622.2.2.2.2.2.2.2 t635 a2).bind fun t638 => ((laws_eqMsgS.f k t638 t619).bind fun t641 => (if t641 = true then ((laws_toMirror.f k a0_0 l0_1 a0_2 a0_3 l0_4 a0_5 a0_6 a0_7).bind fun bt642 => ((laws_eqMirror.f k bt622.1 bt622.2.1 bt622.2.2.1 bt622.2.2.2.1 bt622.2.2.2.2.1 bt622.2.2.2.2.2.1 bt622.2.2.2.2.2.2.1 bt622.2.2.2.2.2.2.2 bt642.1 bt642.2.1 bt642.2.2.1 bt642.2.2.2.1 bt642.2.2.2.2.1 bt642.2.2.2.2.2.1 bt642.2.2.2.2.2.2.1 bt642.2.2.2.2.2.2.2).bind fun t654 => (if t654 = true then ((laws_toHeadS.f k l1).bind fun t655 => ((laws_eqHeadS.f k t635 t655).bind fun t658 => (if t658 = true then ((laws_markMirror.f k bt622.1 bt622.2.1 bt622.2.2.1 bt622.2.2.2.1 bt622.2.2.2.2.1 bt622.2.2.2.2.2.1 bt622.2.2.2.2.2.2.1 bt622.2.2.2.2.2.2.2 1).bind fun bt659 => ((laws_markHeadS.f k t635 bt659.1).bind fun bt662 => (if bt662.1 < 0 then (laws_FnExactAskFor.j0 k l1 a2 t619 t638 true a0_0 l0_1 a0_2 a0_3 l0_4 a0_5 a0_6 a0_7) else ((laws_eqMsgS.f k t638 t619).bind fun t664 => (laws_FnExactAskFor.j0 k l1 a2 t619 t638 (!t664) a0_0 l0_1 a0_2 a0_3 l0_4 a0_5 a0_6 a0_7))))) else (none)))) else (none)))) else (none))))))))))))
set_option maxHeartbeats 8000000 in
set_option maxRecDepth 100000 in
theorem laws_FnExactAskFor.calls (k : Nat) (a0_0 : Int) (A0_1 : Option Addr) (c0_1 : Nat) (l0_1 : List ByteArray) (a0_2 : Int) (a0_3 : ByteArray) (A0_4 : Option Addr) (c0_4 : Nat) (l0_4 : List Int) (a0_5 : Int) (a0_6 : Int) (a0_7 : ByteArray) (A1 : Option Addr) (c1 : Nat) (l1 : List (S24)) (a2 : Int) (r : Bool) (w : World) (hr0_1 : Kd.C Kd.string w A0_1 l0_1.length l0_1) (hc0_1 : l0_1.length ≤ c0_1) (hr0_4 : Kd.C (Kd.int .u8) w A0_4 l0_4.length l0_4) (hc0_4 : l0_4.length ≤ c0_4) (hr1 : Kd.C k24 w A1 l1.length l1) (hc1 : l1.length ≤ c1) (h : laws_FnExactAskFor.f k a0_0 l0_1 a0_2 a0_3 l0_4 a0_5 a0_6 a0_7 l1 a2 = some r) :
  Calls Tryz.prog 3 #[.agg #[.int .i64 a0_0, .slice A0_1 l0_1.length c0_1, .int .i64 a0_2, .string a0_3, .slice A0_4 l0_4.length c0_4, .int .i64 a0_5, .int .i64 a0_6, .string a0_7], .slice A1 l1.length c1, .int .i64 a2] w fun e w' => e = .returned (.bool r) ∧ Below w.heap.size w w' := by
 have hu31 := Tryz.underlying31
 have hu43 := Tryz.underlying43
 have HR0_1 := Aside0.mk hr0_1
 have HC0_1 := Aside0.mk hc0_1
 clear hr0_1 hc0_1
 have HR0_4 := Aside0.mk hr0_4
 have HC0_4 := Aside0.mk hc0_4
 clear hr0_4 hc0_4
 have HR1 := Aside0.mk hr1
 have HC1 := Aside0.mk hc1
 clear hr1 hc1
 have HB := Aside0.mk (Below.refl w.heap.size w)
 have H : ((laws_szMirror.f k a0_0 l0_1 a0_2 a0_3 l0_4 a0_5 a0_6 a0_7 1048576).bind fun t602 => (if t602 < 0 then (some true) else ((laws_szHeadS.f k l1 t602).bind fun t603 => (if t603 < 0 then (some true) else ((laws_toMirror.f k a0_0 l0_1 a0_2 a0_3 l0_4 a0_5 a0_6 a0_7).bind fun bt604 => ((laws_toHeadS.f k l1).bind fun t616 => ((spec_AskFor.f k bt604.1 bt604.2.1 bt604.2.2.1 bt604.2.2.2.1 bt604.2.2.2.2.1 bt604.2.2.2.2.2.1 bt604.2.2.2.2.2.2.1 bt604.2.2.2.2.2.2.2 t616 a2).bind fun t619 => ((laws_toMirror.f k a0_0 l0_1 a0_2 a0_3 l0_4 a0_5 a0_6 a0_7).bind fun bt622 => ((laws_toHeadS.f k l1).bind fun t635 => ((impl_AskFor.f k bt622.1 bt622.2.1 bt622.2.2.1 bt622.2.2.2.1 bt622.2.2.2.2.1 bt622.2.2.2.2.2.1 bt622.2.2.2.2.2.2.1 bt622.2.2.2.2.2.2.2 t635 a2).bind fun t638 => ((laws_eqMsgS.f k t638 t619).bind fun t641 => (if t641 = true then ((laws_toMirror.f k a0_0 l0_1 a0_2 a0_3 l0_4 a0_5 a0_6 a0_7).bind fun bt642 => ((laws_eqMirror.f k bt622.1 bt622.2.1 bt622.2.2.1 bt622.2.2.2.1 bt622.2.2.2.2.1 bt622.2.2.2.2.2.1 bt622.2.2.2.2.2.2.1 bt622.2.2.2.2.2.2.2 bt642.1 bt642.2.1 bt642.2.2.1 bt642.2.2.2.1 bt642.2.2.2.2.1 bt642.2.2.2.2.2.1 bt642.2.2.2.2.2.2.1 bt642.2.2.2.2.2.2.2).bind fun t654 => (if t654 = true then ((laws_toHeadS.f k l1).bind fun t655 => ((laws_eqHeadS.f k t635 t655).bind fun t658 => (if t658 = true then ((laws_markMirror.f k bt622.1 bt622.2.1 bt622.2.2.1 bt622.2.2.2.1 bt622.2.2.2.2.1 bt622.2.2.2.2.2.1 bt622.2.2.2.2.2.2.1 bt622.2.2.2.2.2.2.2 1).bind fun bt659 => ((laws_markHeadS.f k t635 bt659.1).bind fun bt662 => (if bt662.1 < 0 then (laws_FnExactAskFor.j0 k l1 a2 t619 t638 true a0_0 l0_1 a0_2 a0_3 l0_4 a0_5 a0_6 a0_7) else ((laws_eqMsgS.f k t638 t619).bind fun t664 => (laws_FnExactAskFor.j0 k l1 a2 t619 t638 (!t664) a0_0 l0_1 a0_2 a0_3 l0_4 a0_5 a0_6 a0_7))))) else (none)))) else (none)))) else (none))))))))))))) = some r := h
 clear h
 replace H := bi_ H; obtain ⟨t602, A4, H⟩ := H
 replace H := itd_ H; obtain ⟨c5b0, H⟩ | ⟨c5b0, H⟩ := H
 ·obtain rfl := Option.some.inj H
  go_enter Tryz.func3, Tryz.ntmps3
  go_wp2_with (first | ((with_reducible refine gd_ 3 ?_); refine bx_ 3 31 #[.int .i64 a0_0, .slice A0_1 l0_1.length c0_1, .int .i64 a0_2, .string a0_3, .slice A0_4 l0_4.length c0_4, .int .i64 a0_5, .int .i64 a0_6, .string a0_7] ?_; intro gb601 hg w6 hbox hb; have BK601 := Aside0.mk hbox; have GW601 := gg_ hg HB; have GE601 := GW601; replace HB := ss_ HB hb; clear hb hbox hg; have hcz7 := cz8_ BK601) | ((with_reducible refine gq_ 9 18 ?_); refine gc_ 18 Tryz.func9 (laws_szMirror.calls k a0_0 _ _ l0_1 a0_2 a0_3 _ _ l0_4 a0_5 a0_6 a0_7 1048576 t602 _ (cb_ HR0_1 HB) HC0_1.out (cb_ HR0_4 HB) HC0_4.out A4.out) ?_; rintro e w8 ⟨rfl, hb⟩; refine ⟨_, rfl, ?_⟩; replace BK601 := kl_ BK601 hb; replace HB := ss_ HB hb; clear hb))
  go_ret
  exact ⟨e2_, bw_ HB⟩
 ·replace H := bi_ H; obtain ⟨t603, A9, H⟩ := H
  replace H := itd_ H; obtain ⟨c10b0, H⟩ | ⟨c10b0, H⟩ := H
  ·obtain rfl := Option.some.inj H
   go_enter Tryz.func3, Tryz.ntmps3
   go_wp2_with (first | ((with_reducible refine gd_ 3 ?_); refine bx_ 3 31 #[.int .i64 a0_0, .slice A0_1 l0_1.length c0_1, .int .i64 a0_2, .string a0_3, .slice A0_4 l0_4.length c0_4, .int .i64 a0_5, .int .i64 a0_6, .string a0_7] ?_; intro gb601 hg w11 hbox hb; have BK601 := Aside0.mk hbox; have GW601 := gg_ hg HB; have GE601 := GW601; replace HB := ss_ HB hb; clear hb hbox hg; have hcz12 := cz8_ BK601) | ((with_reducible refine gq_ 9 18 ?_); refine gc_ 18 Tryz.func9 (laws_szMirror.calls k a0_0 _ _ l0_1 a0_2 a0_3 _ _ l0_4 a0_5 a0_6 a0_7 1048576 t602 _ (cb_ HR0_1 HB) HC0_1.out (cb_ HR0_4 HB) HC0_4.out A4.out) ?_; rintro e w13 ⟨rfl, hb⟩; refine ⟨_, rfl, ?_⟩; replace BK601 := kl_ BK601 hb; replace HB := ss_ HB hb; clear hb) | ((with_reducible refine gq_ 10 23 ?_); refine gc_ 23 Tryz.func10 (laws_szHeadS.calls k _ _ l1 t602 t603 _ (cb_ HR1 HB) HC1.out A9.out) ?_; rintro e w14 ⟨rfl, hb⟩; refine ⟨_, rfl, ?_⟩; replace BK601 := kl_ BK601 hb; replace HB := ss_ HB hb; clear hb))
   go_ret
   exact ⟨e2_, bw_ HB⟩
  ·replace H := bi_ H; obtain ⟨⟨t604, t605, t608, t609, t610, t613, t614, t615⟩, A15, H⟩ := H
   dsimp only at H
   replace H := bi_ H; obtain ⟨t616, A16, H⟩ := H
   replace H := bi_ H; obtain ⟨t619, A17, H⟩ := H
   replace H := bi_ H; obtain ⟨⟨t622, t623, t626, t627, t628, t631, t632, t633⟩, A18, H⟩ := H
   dsimp only at H
   replace H := bi_ H; obtain ⟨t635, A19, H⟩ := H
   replace H := bi_ H; obtain ⟨t638, A20, H⟩ := H
   replace H := bi_ H; obtain ⟨t641, A21, H⟩ := H
   replace H := ipb_ H; obtain ⟨rfl, H⟩ := H
   replace H := bi_ H; obtain ⟨⟨t642, t643, t646, t647, t648, t651, t652, t653⟩, A23, H⟩ := H
   dsimp only at H
   replace H := bi_ H; obtain ⟨t654, A24, H⟩ := H
   replace H := ipb_ H; obtain ⟨rfl, H⟩ := H
   replace H := bi_ H; obtain ⟨t655, A26, H⟩ := H
   replace H := bi_ H; obtain ⟨t658, A27, H⟩ := H
   replace H := ipb_ H; obtain ⟨rfl, H⟩ := H
   replace H := bi_ H; obtain ⟨⟨t659, t660, t661⟩, A29, H⟩ := H
   dsimp only at H
   replace H := bi_ H; obtain ⟨⟨t662, t663⟩, A30, H⟩ := H
   dsimp only at H
   have HC31 := Aside0.mk H
   clear H
   go_enter Tryz.func3, Tryz.ntmps3
   try go_wp2_with (first | ((with_reducible refine gd_ 3 ?_); refine bx_ 3 31 #[.int .i64 a0_0, .slice A0_1 l0_1.length c0_1, .int .i64 a0_2, .string a0_3, .slice A0_4 l0_4.length c0_4, .int .i64 a0_5, .int .i64 a0_6, .string a0_7] ?_; intro gb601 hg w32 hbox hb; have BK601 := Aside0.mk hbox; have GW601 := gg_ hg HB; have GE601 := GW601; replace HB := ss_ HB hb; clear hb hbox hg; have hcz33 := cz8_ BK601) | ((with_reducible refine gq_ 9 18 ?_); refine gc_ 18 Tryz.func9 (laws_szMirror.calls k a0_0 _ _ l0_1 a0_2 a0_3 _ _ l0_4 a0_5 a0_6 a0_7 1048576 t602 _ (cb_ HR0_1 HB) HC0_1.out (cb_ HR0_4 HB) HC0_4.out A4.out) ?_; rintro e w34 ⟨rfl, hb⟩; refine ⟨_, rfl, ?_⟩; replace BK601 := kl_ BK601 hb; replace HB := ss_ HB hb; clear hb) | ((with_reducible refine gq_ 10 23 ?_); refine gc_ 23 Tryz.func10 (laws_szHeadS.calls k _ _ l1 t602 t603 _ (cb_ HR1 HB) HC1.out A9.out) ?_; rintro e w35 ⟨rfl, hb⟩; refine ⟨_, rfl, ?_⟩; replace BK601 := kl_ BK601 hb; replace HB := ss_ HB hb; clear hb; have hcz36 := cz8_ BK601) | ((with_reducible refine gq_ 12 27 ?_); refine gc_ 27 Tryz.func12 (laws_toMirror.calls k a0_0 _ _ l0_1 a0_2 a0_3 _ _ l0_4 a0_5 a0_6 a0_7 t604 t605 t608 t609 t610 t613 t614 t615 _ (cb_ HR0_1 HB) HC0_1.out (cb_ HR0_4 HB) HC0_4.out A15.out) ?_; rintro e w37 ⟨v606, v611, rfl, ho0, ho1, hb⟩; refine ⟨_, rfl, ?_⟩; have HO607 := Aside0.mk (Kd.R_lower ho0 (sz_ HB)); have HO612 := Aside0.mk (Kd.R_lower ho1 (sz_ HB)); replace BK601 := kl_ BK601 hb; replace HB := ss_ HB hb; clear hb ho0 ho1) | ((with_reducible refine gq_ 13 29 ?_); refine gc_ 29 Tryz.func13 (laws_toHeadS.calls k _ _ l1 t616 _ (cb_ HR1 HB) HC1.out A16.out) ?_; rintro e w38 ⟨v617, rfl, ho0, hb⟩; refine ⟨_, rfl, ?_⟩; replace HO607 := rb_ HO607 hb; replace HO612 := rb_ HO612 hb; have HO618 := Aside0.mk (Kd.R_lower ho0 (sz_ HB)); replace BK601 := kl_ BK601 hb; replace HB := ss_ HB hb; clear hb ho0; obtain ⟨Ao39, co39, eo39⟩ := Kd.R_slice HO607.out; subst eo39; obtain ⟨Ao40, co40, eo40⟩ := Kd.R_slice HO612.out; subst eo40; obtain ⟨Ao41, co41, eo41⟩ := Kd.R_slice HO618.out; subst eo41) | ((with_reducible refine gq_ 11 31 ?_); refine gc_ 31 Tryz.func11 (spec_AskFor.calls k t604 _ _ t605 t608 t609 _ _ t610 t613 t614 t615 _ _ t616 a2 t619 _ (ch_ HO607) (cl_ HO607) (ch_ HO612) (cl_ HO612) (ch_ HO618) (cl_ HO618) A17.out) ?_; rintro e w42 ⟨v620, rfl, ho0, hb⟩; refine ⟨_, rfl, ?_⟩; replace HO612 := rb_ HO612 hb; replace HO618 := rb_ HO618 hb; have HO621 := Aside0.mk (Kd.S_lower (Kd.S_new' ho0 (lt_ HO607)) (sz_ HB)); replace HO607 := rb_ HO607 hb; replace BK601 := kl_ BK601 hb; replace HB := ss_ HB hb; clear hb ho0; have hcz43 := cz8_ BK601) | ((with_reducible refine gq_ 12 33 ?_); refine gc_ 33 Tryz.func12 (laws_toMirror.calls k a0_0 _ _ l0_1 a0_2 a0_3 _ _ l0_4 a0_5 a0_6 a0_7 t622 t623 t626 t627 t628 t631 t632 t633 _ (cb_ HR0_1 HB) HC0_1.out (cb_ HR0_4 HB) HC0_4.out A18.out) ?_; rintro e w44 ⟨v624, v629, rfl, ho0, ho1, hb⟩; refine ⟨_, rfl, ?_⟩; replace HO618 := rb_ HO618 hb; replace HO621 := Aside0.mk (Kd.S_elder' (by (with_reducible repeat (first | apply Kd.S_alloc | apply Kd.S_drewN | apply Kd.S_drew)); exact HO621.out) (Kd.R_base ho0) hb); have HO625 := Aside0.mk (Kd.R_lower (Kd.R_new' ho0 (lt_ HO607)) (sz_ HB)); replace HO607 := re_ HO607 ho0 hb; have HO630 := Aside0.mk (Kd.R_lower (Kd.R_new' ho1 (lt_ HO612)) (sz_ HB)); replace HO612 := re_ HO612 ho1 hb; replace BK601 := kl_ BK601 hb; replace HB := ss_ HB hb; clear hb ho0 ho1) | ((with_reducible refine gd_ 9 ?_); refine bx_ 9 43 #[.int .i64 0, .slice none 0 0, .int .i64 0, .string (⟨#[]⟩ : ByteArray), .slice none 0 0, .int .i64 0, .int .i64 0, .string (⟨#[]⟩ : ByteArray)] ?_; intro gb634 hg w45 hbox hb; replace HO607 := rb_ HO607 hb; replace HO612 := rb_ HO612 hb; replace HO618 := rb_ HO618 hb; replace HO621 := Aside0.mk (Kd.S_below (by (with_reducible repeat (first | apply Kd.S_alloc | apply Kd.S_drewN | apply Kd.S_drew)); exact HO621.out) hb); replace HO625 := rb_ HO625 hb; replace HO630 := rb_ HO630 hb; have BK634 := Aside0.mk hbox; have GW634 := gg_ hg HB; have GE634 := GW634; replace HB := ss_ HB hb; have NB601_634 := nla_ hg BK601; have NB634_601 := nga_ hg BK601; replace BK601 := kl_ BK601 hb; clear hb hbox hg; have hnb46 := NB634_601.out; have hnc46 := NB601_634.out; have hcz47 := cz8_ BK634; obtain ⟨Ao48, co48, eo48⟩ := Kd.R_slice HO625.out; subst eo48; obtain ⟨Ao49, co49, eo49⟩ := Kd.R_slice HO630.out; subst eo49) | ((with_reducible refine gq_ 13 35 ?_); refine gc_ 35 Tryz.func13 (laws_toHeadS.calls k _ _ l1 t635 _ (Kd.C_below HR1.out (bw_ HB)) HC1.out A19.out) ?_; rintro e w50 ⟨v636, rfl, ho0, hb⟩; refine ⟨_, rfl, ?_⟩; replace HO607 := rbf_ HO607 BK634 hb; replace HO612 := rbf_ HO612 BK634 hb; replace HO621 := Aside0.mk (Kd.S_below (by (with_reducible repeat (first | apply Kd.S_alloc | apply Kd.S_drewN | apply Kd.S_drew)); exact (Kd.S_mono (Kd.S_far (p := ⟨gb634, 7, none⟩) (Kd.S_far (p := ⟨gb634, 6, none⟩) (Kd.S_far (p := ⟨gb634, 5, none⟩) (Kd.S_far (p := ⟨gb634, 4, none⟩) (Kd.S_far (p := ⟨gb634, 3, none⟩) (Kd.S_far (p := ⟨gb634, 2, none⟩) (Kd.S_far (p := ⟨gb634, 1, none⟩) (Kd.S_far (p := ⟨gb634, 0, none⟩) (Kd.S_types HO621.out BK634.out (by decide)) (fun _ hk => hk.2) (.int .i64 t622)) (fun _ hk => hk.2) (.slice Ao48 t623.length co48)) (fun _ hk => hk.2) (.int .i64 t626)) (fun _ hk => hk.2) (.string t627)) (fun _ hk => hk.2) (.slice Ao49 t628.length co49)) (fun _ hk => hk.2) (.int .i64 t631)) (fun _ hk => hk.2) (.int .i64 t632)) (fun _ hk => hk.2) (.string t633)) (fun _ h_ => h_.1))) hb); replace HO625 := rbf_ HO625 BK634 hb; replace HO630 := rbf_ HO630 BK634 hb; have HO637 := Aside0.mk (Kd.R_lower (Kd.R_new' ho0 (lf_ HO618 BK634)) (sz_ HB)); replace HO618 := ref_ HO618 BK634 ho0 hb; replace BK601 := kp_ BK601 hb; replace BK634 := kp_ BK634 hb; replace HB := ss_ HB hb; clear hb ho0; have hcz51 := cz8_ BK634; obtain ⟨Ao52, co52, eo52⟩ := Kd.R_slice HO637.out; subst eo52) | ((with_reducible refine gq_ 14 39 ?_); refine gc_ 39 Tryz.func14 (impl_AskFor.calls k t622 _ _ t623 t626 t627 _ _ t628 t631 t632 t633 _ _ t635 a2 t638 _ (ch_ HO625) (cl_ HO625) (ch_ HO630) (cl_ HO630) (ch_ HO637) (cl_ HO637) A20.out) ?_; rintro e w53 ⟨v639, rfl, ho0, hb⟩; refine ⟨_, rfl, ?_⟩; replace HO612 := rb_ HO612 hb; replace HO618 := rb_ HO618 hb; replace HO630 := rb_ HO630 hb; replace HO637 := rb_ HO637 hb; have HO640 := Aside0.mk (Kd.S_lower (Kd.S_new' (Kd.S_new' (Kd.S_new' ho0 (lt_ HO607)) (Kd.S_lt (by (with_reducible repeat (first | apply Kd.S_alloc | apply Kd.S_drewN | apply Kd.S_drew)); exact HO621.out))) (lt_ HO625)) (sz_ HB)); replace HO607 := rb_ HO607 hb; replace HO621 := Aside0.mk (Kd.S_elder' (by (with_reducible repeat (first | apply Kd.S_alloc | apply Kd.S_drewN | apply Kd.S_drew)); exact HO621.out) (Kd.S_base ho0) hb); replace HO625 := rb_ HO625 hb; replace BK601 := kl_ BK601 hb; replace BK634 := kl_ BK634 hb; replace HB := ss_ HB hb; clear hb ho0; obtain ⟨Ao54, co54, eo54⟩ := Kd.S_slice HO640.out; subst eo54; obtain ⟨Ao55, co55, eo55⟩ := Kd.S_slice HO621.out; subst eo55) | ((with_reducible refine gq_ 15 42 ?_); refine gc_ 42 Tryz.func15 (laws_eqMsgS.calls k _ _ t638 _ _ t619 true _ (cr_ (Kd.S_reads' HO640.out).2.2) ((Kd.S_reads' HO640.out).2.1) (cr_ (Kd.S_reads' HO621.out).2.2) ((Kd.S_reads' HO621.out).2.1) A21.out) ?_; rintro e w56 ⟨rfl, hb⟩; refine ⟨_, rfl, ?_⟩; replace HO607 := rb_ HO607 hb; replace HO612 := rb_ HO612 hb; replace HO618 := rb_ HO618 hb; replace HO621 := Aside0.mk (Kd.S_below (by (with_reducible repeat (first | apply Kd.S_alloc | apply Kd.S_drewN | apply Kd.S_drew)); exact HO621.out) hb); replace HO625 := rb_ HO625 hb; replace HO630 := rb_ HO630 hb; replace HO637 := rb_ HO637 hb; replace HO640 := Aside0.mk (Kd.S_below (by (with_reducible repeat (first | apply Kd.S_alloc | apply Kd.S_drewN | apply Kd.S_drew)); exact HO640.out) hb); replace BK601 := kl_ BK601 hb; replace BK634 := kl_ BK634 hb; replace HB := ss_ HB hb; clear hb))
   replace HO607 := Aside0.mk (Kd.R_drew HO607.out)
   replace HO612 := Aside0.mk (Kd.R_drew HO612.out)
   replace HO618 := Aside0.mk (Kd.R_drew HO618.out)
   replace HO621 := Aside0.mk (Kd.S_drew HO621.out)
   replace HO625 := Aside0.mk (Kd.R_drew HO625.out)
   replace HO630 := Aside0.mk (Kd.R_drew HO630.out)
   replace HO637 := Aside0.mk (Kd.R_drew HO637.out)
   replace HO640 := Aside0.mk (Kd.S_drew HO640.out)
   replace BK601 := Aside0.mk (blk_drew BK601.out)
   replace BK634 := Aside0.mk (blk_drew BK634.out)
   replace HB := Aside0.mk (below_drew1 HB.out)
   refine start_ (n := 5) (S := fun w' => w'.cell? ⟨gb634, 0, none⟩ = some (.int .i64 t622) ∧ w'.cell? ⟨gb634, 1, none⟩ = some (.slice Ao48 t623.length co48) ∧ w'.cell? ⟨gb634, 2, none⟩ = some (.int .i64 t626) ∧ w'.cell? ⟨gb634, 3, none⟩ = some (.string t627) ∧ w'.cell? ⟨gb634, 4, none⟩ = some (.slice Ao49 t628.length co49) ∧ w'.cell? ⟨gb634, 5, none⟩ = some (.int .i64 t631) ∧ w'.cell? ⟨gb634, 6, none⟩ = some (.int .i64 t632) ∧ w'.cell? ⟨gb634, 7, none⟩ = some (.string t633) ∧ w'.cell? ⟨gb601, 0, none⟩ = some (.int .i64 a0_0) ∧ w'.cell? ⟨gb601, 1, none⟩ = some (.slice A0_1 l0_1.length c0_1) ∧ w'.cell? ⟨gb601, 2, none⟩ = some (.int .i64 a0_2) ∧ w'.cell? ⟨gb601, 3, none⟩ = some (.string a0_3) ∧ w'.cell? ⟨gb601, 4, none⟩ = some (.slice A0_4 l0_4.length c0_4) ∧ w'.cell? ⟨gb601, 5, none⟩ = some (.int .i64 a0_5) ∧ w'.cell? ⟨gb601, 6, none⟩ = some (.int .i64 a0_6) ∧ w'.cell? ⟨gb601, 7, none⟩ = some (.string a0_7)) (ds := []) (lz_ 5 0) (by kernel_rfl) rfl rfl ⟨bc0_ BK634.out, bc1_ BK634.out, bc2_ BK634.out, bc3_ BK634.out, bc4_ BK634.out, bc5_ BK634.out, bc6_ BK634.out, bc7_ BK634.out, bc0_ BK601.out, bc1_ BK601.out, bc2_ BK601.out, bc3_ BK601.out, bc4_ BK601.out, bc5_ BK601.out, bc6_ BK601.out, bc7_ BK601.out⟩ (fun hHeld => ?_)
   generalize w56.drew = w57 at HO607 HO612 HO618 HO621 HO625 HO630 HO637 HO640 BK601 BK634 HB hHeld ⊢
   refine tk_ 0 44 1 ?_
   refine tk_ 1 45 3 ?_
   refine one_ (i := 2) (N := some 46) (lz_ 5 7) rfl rfl (by kernel_rfl) (by decide) (fun K hK => ?_)
   refine gf_ Tryz.func12 (laws_toMirror.calls k a0_0 _ _ l0_1 a0_2 a0_3 _ _ l0_4 a0_5 a0_6 a0_7 t642 t643 t646 t647 t648 t651 t652 t653 _ (cb_ HR0_1 HB) HC0_1.out (cb_ HR0_4 HB) HC0_4.out A23.out) ?_
   rintro e w58 ⟨v644, v649, rfl, ho0, ho1, hb⟩
   refine ⟨_, rfl, ?_⟩
   replace HO618 := rb_ HO618 hb
   replace HO621 := Aside0.mk (Kd.S_elder' (by (with_reducible repeat (first | apply Kd.S_alloc | apply Kd.S_drewN | apply Kd.S_drew)); exact HO621.out) (Kd.R_base ho0) hb)
   replace HO637 := rb_ HO637 hb
   replace HO640 := Aside0.mk (Kd.S_elder' (by (with_reducible repeat (first | apply Kd.S_alloc | apply Kd.S_drewN | apply Kd.S_drew)); exact HO640.out) (Kd.R_base ho0) hb)
   have HO645 := Aside0.mk (Kd.R_lower (Kd.R_new' (Kd.R_new' ho0 (lt_ HO607)) (lt_ HO625)) (sz_ HB))
   replace HO607 := re_ HO607 ho0 hb
   replace HO625 := re_ HO625 ho0 hb
   have HO650 := Aside0.mk (Kd.R_lower (Kd.R_new' (Kd.R_new' ho1 (lt_ HO612)) (lt_ HO630)) (sz_ HB))
   replace HO612 := re_ HO612 ho1 hb
   replace HO630 := re_ HO630 ho1 hb
   replace BK601 := kl_ BK601 hb
   replace BK634 := kl_ BK634 hb
   replace HB := ss_ HB hb
   clear hb ho0 ho1
   obtain ⟨Ao59, co59, eo59⟩ := Kd.R_slice HO645.out
   (first | subst eo59 | (injection eo59 with f1_ f2_ f3_; have f4_ := f1_.symm; have f5_ := f3_.symm; clear f1_ f2_ f3_; subst f4_; subst f5_))
   obtain ⟨Ao60, co60, eo60⟩ := Kd.R_slice HO650.out
   (first | subst eo60 | (injection eo60 with f1_ f2_ f3_; have f4_ := f1_.symm; have f5_ := f3_.symm; clear f1_ f2_ f3_; subst f4_; subst f5_))
   refine hK.out _ _ ⟨bc0_ BK634.out, bc1_ BK634.out, bc2_ BK634.out, bc3_ BK634.out, bc4_ BK634.out, bc5_ BK634.out, bc6_ BK634.out, bc7_ BK634.out, bc0_ BK601.out, bc1_ BK601.out, bc2_ BK601.out, bc3_ BK601.out, bc4_ BK601.out, bc5_ BK601.out, bc6_ BK601.out, bc7_ BK601.out⟩ (fun hHeld => ?_)
   clear hK K
   refine no_ 46 ?_
   refine one_ (i := 3) (N := some 47) (lz_ 5 15) rfl rfl (by kernel_rfl) (by decide) (fun K hK => ?_)
   refine gf_ Tryz.func16 (laws_eqMirror.calls k t622 _ _ t623 t626 t627 _ _ t628 t631 t632 t633 t642 _ _ t643 t646 t647 _ _ t648 t651 t652 t653 true _ (ch_ HO625) (cl_ HO625) (ch_ HO630) (cl_ HO630) (ch_ HO645) (cl_ HO645) (ch_ HO650) (cl_ HO650) A24.out) ?_
   rintro e w61 ⟨rfl, hb⟩
   refine ⟨_, rfl, ?_⟩
   replace HO607 := rb_ HO607 hb
   replace HO612 := rb_ HO612 hb
   replace HO618 := rb_ HO618 hb
   replace HO621 := Aside0.mk (Kd.S_below (by (with_reducible repeat (first | apply Kd.S_alloc | apply Kd.S_drewN | apply Kd.S_drew)); exact HO621.out) hb)
   replace HO625 := rb_ HO625 hb
   replace HO630 := rb_ HO630 hb
   replace HO637 := rb_ HO637 hb
   replace HO640 := Aside0.mk (Kd.S_below (by (with_reducible repeat (first | apply Kd.S_alloc | apply Kd.S_drewN | apply Kd.S_drew)); exact HO640.out) hb)
   replace HO645 := rb_ HO645 hb
   replace HO650 := rb_ HO650 hb
   replace BK601 := kl_ BK601 hb
   replace BK634 := kl_ BK634 hb
   replace HB := ss_ HB hb
   clear hb
   refine hK.out _ _ ⟨bc0_ BK634.out, bc1_ BK634.out, bc2_ BK634.out, bc3_ BK634.out, bc4_ BK634.out, bc5_ BK634.out, bc6_ BK634.out, bc7_ BK634.out, bc0_ BK601.out, bc1_ BK601.out, bc2_ BK601.out, bc3_ BK601.out, bc4_ BK601.out, bc5_ BK601.out, bc6_ BK601.out, bc7_ BK601.out⟩ (fun hHeld => ?_)
   clear hK K
   refine no_ 47 ?_
   refine pk_ 4 48 31 ?_
   refine done_ (by kernel_rfl) ?_
   go_upto_region 21 with (first | ((with_reducible refine gq_ 13 51 ?_); refine gc_ 51 Tryz.func13 (laws_toHeadS.calls k _ _ l1 t655 _ (cb_ HR1 HB) HC1.out A26.out) ?_; rintro e w62 ⟨v656, rfl, ho0, hb⟩; refine ⟨_, rfl, ?_⟩; replace HO607 := rb_ HO607 hb; replace HO612 := rb_ HO612 hb; replace HO621 := Aside0.mk (Kd.S_below (by (with_reducible repeat (first | apply Kd.S_alloc | apply Kd.S_drewN | apply Kd.S_drew)); exact HO621.out) hb); replace HO625 := rb_ HO625 hb; replace HO630 := rb_ HO630 hb; replace HO640 := Aside0.mk (Kd.S_below (by (with_reducible repeat (first | apply Kd.S_alloc | apply Kd.S_drewN | apply Kd.S_drew)); exact HO640.out) hb); replace HO645 := rb_ HO645 hb; replace HO650 := rb_ HO650 hb; have HO657 := Aside0.mk (Kd.R_lower (Kd.R_new' (Kd.R_new' ho0 (lt_ HO618)) (lt_ HO637)) (sz_ HB)); replace HO618 := re_ HO618 ho0 hb; replace HO637 := re_ HO637 ho0 hb; replace BK601 := kl_ BK601 hb; replace BK634 := kl_ BK634 hb; replace HB := ss_ HB hb; clear hb ho0; obtain ⟨Ao63, co63, eo63⟩ := Kd.R_slice HO657.out; subst eo63) | ((with_reducible refine gq_ 17 52 ?_); refine gc_ 52 Tryz.func17 (laws_eqHeadS.calls k _ _ t635 _ _ t655 true _ (ch_ HO637) (cl_ HO637) (ch_ HO657) (cl_ HO657) A27.out) ?_; rintro e w64 ⟨rfl, hb⟩; refine ⟨_, rfl, ?_⟩; replace HO607 := rb_ HO607 hb; replace HO612 := rb_ HO612 hb; replace HO618 := rb_ HO618 hb; replace HO621 := Aside0.mk (Kd.S_below (by (with_reducible repeat (first | apply Kd.S_alloc | apply Kd.S_drewN | apply Kd.S_drew)); exact HO621.out) hb); replace HO625 := rb_ HO625 hb; replace HO630 := rb_ HO630 hb; replace HO637 := rb_ HO637 hb; replace HO640 := Aside0.mk (Kd.S_below (by (with_reducible repeat (first | apply Kd.S_alloc | apply Kd.S_drewN | apply Kd.S_drew)); exact HO640.out) hb); replace HO645 := rb_ HO645 hb; replace HO650 := rb_ HO650 hb; replace HO657 := rb_ HO657 hb; replace BK601 := kl_ BK601 hb; replace BK634 := kl_ BK634 hb; replace HB := ss_ HB hb; clear hb; have hcz65 := cz8_ BK634) | ((with_reducible refine gq_ 18 56 ?_); refine gc_ 56 Tryz.func18 (laws_markMirror.calls k t622 (fun k_ => some k_ = (.slice Ao48 t623.length co48 : Value).ownBlock) (.slice Ao48 t623.length co48) t623 t626 t627 (fun k_ => some k_ = (.slice Ao49 t628.length co49 : Value).ownBlock) (.slice Ao49 t628.length co49) t628 t631 t632 t633 1 t659 t660 t661 w _ (bw_ HB) (Kd.R_tight rfl HO625.out) (Kd.R_tight rfl HO630.out) A29.out) ?_; rintro e w66 ⟨rfl, hy0, hy1, hb, hkp⟩; refine ⟨_, rfl, ?_⟩; replace BK601 := Aside0.mk (blk_kept (kb_ BK601.out) hkp (fun hs_ => Or.elim hs_ (fun e_ => (fun e_ => (Kd.R_ne HO625.out BK601.out (by decide)) e_) e_) (fun e_ => (fun e_ => (Kd.R_ne HO630.out BK601.out (by decide)) e_) e_))); replace HO607 := Aside0.mk (Kd.R_mono (ok' := fun k_ => some k_ ≠ (.slice Ao48 t623.length co48 : Value).ownBlock ∧ some k_ ≠ (.slice Ao59 t643.length co59 : Value).ownBlock) (Kd.R_keptB ((Kd.R_apart' HO607.out (Kd.R_typed HO630.out) (by decide))) hkp (fun k_ hk_ hs_ => Or.elim hs_ (fun e_ => (hk_.1.1.2) e_) (fun e_ => (hk_.2) e_))) (fun k_ hk_ => ⟨hk_.1.1.1.2, hk_.1.1.2⟩)); replace HO612 := Aside0.mk (Kd.R_mono (ok' := fun k_ => some k_ ≠ (.slice Ao49 t628.length co49 : Value).ownBlock ∧ some k_ ≠ (.slice Ao60 t648.length co60 : Value).ownBlock) (Kd.R_keptB ((Kd.R_apart' HO612.out (Kd.R_typed HO625.out) (by decide))) hkp (fun k_ hk_ hs_ => Or.elim hs_ (fun e_ => (hk_.2) e_) (fun e_ => (hk_.1.1.2) e_))) (fun k_ hk_ => ⟨hk_.1.1.1.2, hk_.1.1.2⟩)); replace HO618 := Aside0.mk (Kd.R_mono (ok' := fun k_ => some k_ ≠ (.slice Ao52 t635.length co52 : Value).ownBlock ∧ some k_ ≠ (.slice Ao63 t655.length co63 : Value).ownBlock) (Kd.R_keptB ((Kd.R_apart' (Kd.R_apart' HO618.out (Kd.R_typed HO625.out) (by decide)) (Kd.R_typed HO630.out) (by decide))) hkp (fun k_ hk_ hs_ => Or.elim hs_ (fun e_ => (hk_.1.2) e_) (fun e_ => (hk_.2) e_))) (fun k_ hk_ => ⟨hk_.1.1.1.1.2, hk_.1.1.1.2⟩)); replace HO621 := Aside0.mk (Kd.S_mono (ok' := fun k_ => some k_ ≠ (.slice Ao39 t605.length co39 : Value).ownBlock ∧ some k_ ≠ (.slice Ao48 t623.length co48 : Value).ownBlock ∧ some k_ ≠ (.slice Ao54 t638.length co54 : Value).ownBlock ∧ some k_ ≠ (.slice Ao59 t643.length co59 : Value).ownBlock) (Kd.S_keptB ((Kd.S_apart' HO621.out (Kd.R_typed HO630.out) (by decide))) hkp (fun k_ hk_ hs_ => Or.elim hs_ (fun e_ => (hk_.1.1.1.2) e_) (fun e_ => (hk_.2) e_))) (fun k_ hk_ => ⟨hk_.1.1.1.1.1.2, hk_.1.1.1.1.2, hk_.1.1.1.2, hk_.1.1.2⟩)); replace BK634 := Aside0.mk (blk_kept (kb_ BK634.out) hkp (fun hs_ => Or.elim hs_ (fun e_ => (fun e_ => (Kd.R_ne HO625.out BK634.out (by decide)) e_) e_) (fun e_ => (fun e_ => (Kd.R_ne HO630.out BK634.out (by decide)) e_) e_))); replace HO637 := Aside0.mk (Kd.R_mono (ok' := fun k_ => some k_ ≠ (.slice Ao41 t616.length co41 : Value).ownBlock ∧ some k_ ≠ (.slice Ao63 t655.length co63 : Value).ownBlock) (Kd.R_keptB ((Kd.R_apart' (Kd.R_apart' HO637.out (Kd.R_typed HO625.out) (by decide)) (Kd.R_typed HO630.out) (by decide))) hkp (fun k_ hk_ hs_ => Or.elim hs_ (fun e_ => (hk_.1.2) e_) (fun e_ => (hk_.2) e_))) (fun k_ hk_ => ⟨hk_.1.1.1.1.2, hk_.1.1.1.2⟩)); replace HO640 := Aside0.mk (Kd.S_mono (ok' := fun k_ => some k_ ≠ (.slice Ao39 t605.length co39 : Value).ownBlock ∧ some k_ ≠ (.slice Ao55 t619.length co55 : Value).ownBlock ∧ some k_ ≠ (.slice Ao48 t623.length co48 : Value).ownBlock ∧ some k_ ≠ (.slice Ao59 t643.length co59 : Value).ownBlock) (Kd.S_keptB ((Kd.S_apart' HO640.out (Kd.R_typed HO630.out) (by decide))) hkp (fun k_ hk_ hs_ => Or.elim hs_ (fun e_ => (hk_.1.1.2) e_) (fun e_ => (hk_.2) e_))) (fun k_ hk_ => ⟨hk_.1.1.1.1.1.2, hk_.1.1.1.1.2, hk_.1.1.1.2, hk_.1.1.2⟩)); replace HO645 := Aside0.mk (Kd.R_mono (ok' := fun k_ => some k_ ≠ (.slice Ao39 t605.length co39 : Value).ownBlock ∧ some k_ ≠ (.slice Ao48 t623.length co48 : Value).ownBlock) (Kd.R_keptB ((Kd.R_apart' HO645.out (Kd.R_typed HO630.out) (by decide))) hkp (fun k_ hk_ hs_ => Or.elim hs_ (fun e_ => (hk_.1.2) e_) (fun e_ => (hk_.2) e_))) (fun k_ hk_ => ⟨hk_.1.1.1.2, hk_.1.1.2⟩)); replace HO650 := Aside0.mk (Kd.R_mono (ok' := fun k_ => some k_ ≠ (.slice Ao40 t610.length co40 : Value).ownBlock ∧ some k_ ≠ (.slice Ao49 t628.length co49 : Value).ownBlock) (Kd.R_keptB ((Kd.R_apart' HO650.out (Kd.R_typed HO625.out) (by decide))) hkp (fun k_ hk_ hs_ => Or.elim hs_ (fun e_ => (hk_.2) e_) (fun e_ => (hk_.1.2) e_))) (fun k_ hk_ => ⟨hk_.1.1.1.2, hk_.1.1.2⟩)); replace HO657 := Aside0.mk (Kd.R_mono (ok' := fun k_ => some k_ ≠ (.slice Ao41 t616.length co41 : Value).ownBlock ∧ some k_ ≠ (.slice Ao52 t635.length co52 : Value).ownBlock) (Kd.R_keptB ((Kd.R_apart' (Kd.R_apart' HO657.out (Kd.R_typed HO625.out) (by decide)) (Kd.R_typed HO630.out) (by decide))) hkp (fun k_ hk_ hs_ => Or.elim hs_ (fun e_ => (hk_.1.2) e_) (fun e_ => (hk_.2) e_))) (fun k_ hk_ => ⟨hk_.1.1.1.1.2, hk_.1.1.1.2⟩)); replace HO625 := Aside0.mk (Kd.R_reok rfl hy0 (fun k_ e_ => HO625.out.1 k_ e_)); replace HO630 := Aside0.mk (Kd.R_reok rfl hy1 (fun k_ e_ => HO630.out.1 k_ e_)); replace HB := Aside0.mk hb; clear hb hkp hy0 hy1) | ((with_reducible refine gq_ 19 59 ?_); refine gc_ 59 Tryz.func19 (laws_markHeadS.calls k (fun k_ => some k_ = (.slice Ao52 t635.length co52 : Value).ownBlock) (.slice Ao52 t635.length co52) t635 t659 t662 t663 w _ (bw_ HB) (Kd.R_tight rfl HO637.out) A30.out) ?_; rintro e w67 ⟨rfl, hy0, hb, hkp⟩; refine ⟨_, rfl, ?_⟩; replace BK601 := Aside0.mk (blk_kept (kb_ BK601.out) hkp (fun hs_ => (fun e_ => (Kd.R_ne HO637.out BK601.out (by decide)) e_) hs_)); replace HO607 := Aside0.mk (Kd.R_mono (ok' := fun k_ => some k_ ≠ (.slice Ao48 t623.length co48 : Value).ownBlock ∧ some k_ ≠ (.slice Ao59 t643.length co59 : Value).ownBlock) (Kd.R_keptB ((Kd.R_apart' HO607.out (Kd.R_typed HO637.out) (by decide))) hkp (fun k_ hk_ hs_ => (hk_.2) hs_)) (fun k_ hk_ => ⟨hk_.1.1.1, hk_.1.1.2⟩)); replace HO612 := Aside0.mk (Kd.R_mono (ok' := fun k_ => some k_ ≠ (.slice Ao49 t628.length co49 : Value).ownBlock ∧ some k_ ≠ (.slice Ao60 t648.length co60 : Value).ownBlock) (Kd.R_keptB ((Kd.R_apart' HO612.out (Kd.R_typed HO637.out) (by decide))) hkp (fun k_ hk_ hs_ => (hk_.2) hs_)) (fun k_ hk_ => ⟨hk_.1.1.1, hk_.1.1.2⟩)); replace HO618 := Aside0.mk (Kd.R_mono (ok' := fun k_ => some k_ ≠ (.slice Ao52 t635.length co52 : Value).ownBlock ∧ some k_ ≠ (.slice Ao63 t655.length co63 : Value).ownBlock) (Kd.R_keptB (HO618.out) hkp (fun k_ hk_ hs_ => (hk_.1) hs_)) (fun k_ hk_ => ⟨hk_.1.1, hk_.1.2⟩)); replace HO621 := Aside0.mk (Kd.S_mono (ok' := fun k_ => some k_ ≠ (.slice Ao39 t605.length co39 : Value).ownBlock ∧ some k_ ≠ (.slice Ao48 t623.length co48 : Value).ownBlock ∧ some k_ ≠ (.slice Ao54 t638.length co54 : Value).ownBlock ∧ some k_ ≠ (.slice Ao59 t643.length co59 : Value).ownBlock) (Kd.S_keptB ((Kd.S_apart' HO621.out (Kd.R_typed HO637.out) (by decide))) hkp (fun k_ hk_ hs_ => (hk_.2) hs_)) (fun k_ hk_ => ⟨hk_.1.1.1, hk_.1.1.2.1, hk_.1.1.2.2.1, hk_.1.1.2.2.2⟩)); replace HO625 := Aside0.mk (Kd.R_mono (ok' := fun k_ => some k_ ≠ (.slice Ao39 t605.length co39 : Value).ownBlock ∧ some k_ ≠ (.slice Ao59 t643.length co59 : Value).ownBlock) (Kd.R_keptB ((Kd.R_apart' HO625.out (Kd.R_typed HO637.out) (by decide))) hkp (fun k_ hk_ hs_ => (hk_.2) hs_)) (fun k_ hk_ => ⟨hk_.1.1.1.2, hk_.1.1.2⟩)); replace HO630 := Aside0.mk (Kd.R_mono (ok' := fun k_ => some k_ ≠ (.slice Ao40 t610.length co40 : Value).ownBlock ∧ some k_ ≠ (.slice Ao60 t648.length co60 : Value).ownBlock) (Kd.R_keptB ((Kd.R_apart' HO630.out (Kd.R_typed HO637.out) (by decide))) hkp (fun k_ hk_ hs_ => (hk_.2) hs_)) (fun k_ hk_ => ⟨hk_.1.1.1.2, hk_.1.1.2⟩)); replace BK634 := Aside0.mk (blk_kept (kb_ BK634.out) hkp (fun hs_ => (fun e_ => (Kd.R_ne HO637.out BK634.out (by decide)) e_) hs_)); replace HO640 := Aside0.mk (Kd.S_mono (ok' := fun k_ => some k_ ≠ (.slice Ao39 t605.length co39 : Value).ownBlock ∧ some k_ ≠ (.slice Ao55 t619.length co55 : Value).ownBlock ∧ some k_ ≠ (.slice Ao48 t623.length co48 : Value).ownBlock ∧ some k_ ≠ (.slice Ao59 t643.length co59 : Value).ownBlock) (Kd.S_keptB ((Kd.S_apart' HO640.out (Kd.R_typed HO637.out) (by decide))) hkp (fun k_ hk_ hs_ => (hk_.2) hs_)) (fun k_ hk_ => ⟨hk_.1.1.1, hk_.1.1.2.1, hk_.1.1.2.2.1, hk_.1.1.2.2.2⟩)); replace HO645 := Aside0.mk (Kd.R_mono (ok' := fun k_ => some k_ ≠ (.slice Ao39 t605.length co39 : Value).ownBlock ∧ some k_ ≠ (.slice Ao48 t623.length co48 : Value).ownBlock) (Kd.R_keptB ((Kd.R_apart' HO645.out (Kd.R_typed HO637.out) (by decide))) hkp (fun k_ hk_ hs_ => (hk_.2) hs_)) (fun k_ hk_ => ⟨hk_.1.1.1, hk_.1.1.2⟩)); replace HO650 := Aside0.mk (Kd.R_mono (ok' := fun k_ => some k_ ≠ (.slice Ao40 t610.length co40 : Value).ownBlock ∧ some k_ ≠ (.slice Ao49 t628.length co49 : Value).ownBlock) (Kd.R_keptB ((Kd.R_apart' HO650.out (Kd.R_typed HO637.out) (by decide))) hkp (fun k_ hk_ hs_ => (hk_.2) hs_)) (fun k_ hk_ => ⟨hk_.1.1.1, hk_.1.1.2⟩)); replace HO637 := Aside0.mk (Kd.R_reok rfl hy0 (fun k_ e_ => HO637.out.1 k_ e_)); replace HO657 := Aside0.mk (Kd.R_mono (ok' := fun k_ => some k_ ≠ (.slice Ao41 t616.length co41 : Value).ownBlock ∧ some k_ ≠ (.slice Ao52 t635.length co52 : Value).ownBlock) (Kd.R_keptB (HO657.out) hkp (fun k_ hk_ hs_ => (hk_.2) hs_)) (fun k_ hk_ => ⟨hk_.1.1, hk_.1.2⟩)); replace HB := Aside0.mk hb; clear hb hkp hy0))
   (try simp only [Act.put, List.setIfInBounds_toArray, List.set_cons_zero, List.set_cons_succ])
   go_cut [67] (fun v67 wc => ∃ (kq : Nat) (x67_30 : Bool), v67 = .bool x67_30 ∧ Aside0 (laws_FnExactAskFor.j0 kq l1 a2 t619 t638 x67_30 a0_0 l0_1 a0_2 a0_3 l0_4 a0_5 a0_6 a0_7 = some r) ∧ Aside0 (kq ≤ k) ∧ Aside0 (Kd.S k65 65 wc w.heap.size (fun k_ => some k_ ≠ ((.slice Ao54 t638.length co54) : Value).ownBlock ∧ some k_ ≠ ((.slice Ao48 t623.length co48) : Value).ownBlock) (.slice Ao55 t619.length co55) t619) ∧ Aside0 (Kd.S k65 65 wc w.heap.size (fun k_ => some k_ ≠ ((.slice Ao55 t619.length co55) : Value).ownBlock ∧ some k_ ≠ ((.slice Ao48 t623.length co48) : Value).ownBlock) (.slice Ao54 t638.length co54) t638) ∧ Aside0 (Kd.R Kd.string 9 wc w.heap.size (fun _ => True) (.slice Ao48 t623.length co48) t660) ∧ Aside0 (Kd.R (Kd.int .u8) 5 wc w.heap.size (fun _ => True) (.slice Ao49 t628.length co49) t661) ∧ Aside0 (wc.heap[gb601]? = some (.cells #[.int .i64 a0_0, (.slice A0_1 l0_1.length c0_1), .int .i64 a0_2, .string a0_3, (.slice A0_4 l0_4.length c0_4), .int .i64 a0_5, .int .i64 a0_6, .string a0_7] 31 (0, 0))) ∧ Aside0 (wc.heap[gb634]? = some (.cells #[.int .i64 t622, (.slice Ao48 t623.length co48), .int .i64 t626, .string t627, (.slice Ao49 t628.length co49), .int .i64 t631, .int .i64 t632, .string t633] 43 (0, 0))) ∧ Aside0 (Below w.heap.size w wc))
   case first =>
    have H := HC31.out
    clear HC31
    replace H := itd_ H; obtain ⟨c68b0, H⟩ | ⟨c68b0, H⟩ := H
    ·(first | rw [c68b0] | (simp only [i64_w, i32_w]; rw [c68b0]) | skip)
     have H' := Aside0.mk H
     clear H
     go_wp2
     go_meet
     case rel => exact ⟨_, (true), e1_, H', ⟨le_⟩, ⟨by (with_reducible repeat (first | apply Kd.S_alloc | apply Kd.S_drewN | apply Kd.S_drew)); exact Kd.S_mono HO621.out (fun _ hk => ⟨hk.2.2.1, hk.2.1⟩)⟩, ⟨by (with_reducible repeat (first | apply Kd.S_alloc | apply Kd.S_drewN | apply Kd.S_drew)); exact Kd.S_mono HO640.out (fun _ hk => ⟨hk.2.1, hk.2.2.1⟩)⟩, ⟨by (with_reducible repeat (first | apply Kd.R_alloc | apply Kd.R_drewN | apply Kd.R_drew)); exact Kd.R_mono HO625.out (fun _ hk => trivial)⟩, ⟨by (with_reducible repeat (first | apply Kd.R_alloc | apply Kd.R_drewN | apply Kd.R_drew)); exact Kd.R_mono HO630.out (fun _ hk => trivial)⟩, ⟨kb_ BK601.out⟩, ⟨kb_ BK634.out⟩, ⟨bw_ HB⟩⟩
    ·(first | rw [c68b0] | (simp only [i64_w, i32_w]; rw [c68b0]) | skip)
     replace H := bi_ H; obtain ⟨t664, A69, H⟩ := H
     have H' := Aside0.mk H
     clear H
     go_wp2_with (first | (go_at_call 15; (with_reducible refine (laws_eqMsgS.calls k _ _ t638 _ _ t619 t664 _ ?side1 ?side2 ?side3 ?side4 A69.out).mono ?_); (case side1 => exact cr_ (Kd.S_reads' HO640.out).2.2); (case side2 => exact (Kd.S_reads' HO640.out).2.1); (case side3 => exact cr_ (Kd.S_reads' HO621.out).2.2); (case side4 => exact (Kd.S_reads' HO621.out).2.1); rintro e w70 ⟨rfl, hb⟩; replace HO607 := rb_ HO607 hb; replace HO612 := rb_ HO612 hb; replace HO618 := rb_ HO618 hb; replace HO621 := Aside0.mk (Kd.S_below (by (with_reducible repeat (first | apply Kd.S_alloc | apply Kd.S_drewN | apply Kd.S_drew)); exact HO621.out) hb); replace HO625 := rb_ HO625 hb; replace HO630 := rb_ HO630 hb; replace HO637 := rb_ HO637 hb; replace HO640 := Aside0.mk (Kd.S_below (by (with_reducible repeat (first | apply Kd.S_alloc | apply Kd.S_drewN | apply Kd.S_drew)); exact HO640.out) hb); replace HO645 := rb_ HO645 hb; replace HO650 := rb_ HO650 hb; replace HO657 := rb_ HO657 hb; replace BK601 := kl_ BK601 hb; replace BK634 := kl_ BK634 hb; replace HB := ss_ HB hb; clear hb))
     go_meet
     case rel => exact ⟨_, (!t664), e1_, H', ⟨le_⟩, ⟨by (with_reducible repeat (first | apply Kd.S_alloc | apply Kd.S_drewN | apply Kd.S_drew)); exact Kd.S_mono HO621.out (fun _ hk => ⟨hk.2.2.1, hk.2.1⟩)⟩, ⟨by (with_reducible repeat (first | apply Kd.S_alloc | apply Kd.S_drewN | apply Kd.S_drew)); exact Kd.S_mono HO640.out (fun _ hk => ⟨hk.2.1, hk.2.2.1⟩)⟩, ⟨by (with_reducible repeat (first | apply Kd.R_alloc | apply Kd.R_drewN | apply Kd.R_drew)); exact Kd.R_mono HO625.out (fun _ hk => trivial)⟩, ⟨by (with_reducible repeat (first | apply Kd.R_alloc | apply Kd.R_drewN | apply Kd.R_drew)); exact Kd.R_mono HO630.out (fun _ hk => trivial)⟩, ⟨kb_ BK601.out⟩, ⟨kb_ BK634.out⟩, ⟨bw_ HB⟩⟩
   case rest =>
    clear HC31
    try clear c5b0
    try clear c10b0
    obtain ⟨kq, x67_30, rfl, HA, HJ30, HO_8, HO_11, HO_635001, HO_635004, BK601, BK634, HB⟩ := hcut
    have hl635001_30 := (Kd.R_reads' HO_635001.out).1
    rw [hl635001_30] at HO_635001
    (try simp only [hl635001_30])
    (try simp only [hl635001_30] at BK601)
    (try simp only [hl635001_30] at BK634)
    (try simp only [hl635001_30] at HO_8)
    (try simp only [hl635001_30] at HO_11)
    (try simp only [hl635001_30] at HO_635004)
    have hl635004_30 := (Kd.R_reads' HO_635004.out).1
    rw [hl635004_30] at HO_635004
    (try simp only [hl635004_30])
    (try simp only [hl635004_30] at BK601)
    (try simp only [hl635004_30] at BK634)
    (try simp only [hl635004_30] at HO_8)
    (try simp only [hl635004_30] at HO_11)
    (try simp only [hl635004_30] at HO_635001)
    cases kq with
    | zero => exact absurd HA.out (by simp [laws_FnExactAskFor.j0])
    | succ kj30 =>
     have H := HA.out
     clear HA
     simp only [laws_FnExactAskFor.j0] at H
     replace H := inb_ H; obtain ⟨rfl, H⟩ := H
     replace H := bi_ H; obtain ⟨⟨t665, t666⟩, A72, H⟩ := H
     dsimp only at H
     replace H := bi_ H; obtain ⟨t667, A73, H⟩ := H
     replace H := ind_ H; obtain ⟨c74b0, H⟩ := H
     replace H := ip_ H; obtain ⟨c75, H⟩ := H
     have c75b0 : (t667 == t665) = true := beq_iff_eq.mpr c75
     have c75b1 : (t667 != t665) = false := bne_eq_false_iff_eq.mpr c75
     clear c75
     replace H := bi_ H; obtain ⟨⟨t668, t669, t672, t673, t674, t677, t678, t679⟩, A76, H⟩ := H
     dsimp only at H
     replace H := bi_ H; obtain ⟨t680, A77, H⟩ := H
     replace H := bi_ H; obtain ⟨t683, A78, H⟩ := H
     replace H := bi_ H; obtain ⟨t686, A79, H⟩ := H
     replace H := ipb_ H; obtain ⟨rfl, H⟩ := H
     replace H := bi_ H; obtain ⟨t687, A81, H⟩ := H
     replace H := ind_ H; obtain ⟨c82b0, H⟩ := H
     replace H := ip_ H; obtain ⟨c83, H⟩ := H
     have c83b0 : (t687 == t665) = true := beq_iff_eq.mpr c83
     have c83b1 : (t687 != t665) = false := bne_eq_false_iff_eq.mpr c83
     clear c83
     obtain rfl := Option.some.inj H
     go_wp2_with (first | ((with_reducible refine gq_ 20 70 ?_); refine gc_ 70 Tryz.func20 (laws_markMsgS.calls kj30 (fun k_ => some k_ = (.slice Ao54 t638.length co54 : Value).ownBlock) (.slice Ao54 t638.length co54) t638 1 t665 t666 w _ (bw_ HB) HO_11.out A72.out) ?_; rintro e w84 ⟨rfl, hy0, hb, hkp⟩; refine ⟨_, rfl, ?_⟩; replace HO_8 := Aside0.mk (Kd.S_mono (ok' := fun k_ => some k_ ≠ (.slice Ao54 t638.length co54 : Value).ownBlock ∧ some k_ ≠ (.slice Ao48 t660.length co48 : Value).ownBlock) (Kd.S_keptB (HO_8.out) hkp (fun k_ hk_ hs_ => (hk_.1) hs_)) (fun k_ hk_ => ⟨hk_.1.1, hk_.1.2⟩)); replace HO_635001 := Aside0.mk (Kd.R_mono (ok' := fun k_ => True) (Kd.R_keptB ((Kd.R_apart' HO_635001.out (Kd.S_typed HO_11.out) (by decide))) hkp (fun k_ hk_ hs_ => (hk_.2) hs_)) (fun k_ hk_ => trivial)); replace HO_635004 := Aside0.mk (Kd.R_mono (ok' := fun k_ => True) (Kd.R_keptB ((Kd.R_apart' HO_635004.out (Kd.S_typed HO_11.out) (by decide))) hkp (fun k_ hk_ hs_ => (hk_.2) hs_)) (fun k_ hk_ => trivial)); replace BK601 := Aside0.mk (blk_kept (kb_ BK601.out) hkp (fun hs_ => (fun e_ => (Kd.S_ne HO_11.out BK601.out (by decide)) e_) hs_)); replace BK634 := Aside0.mk (blk_kept (kb_ BK634.out) hkp (fun hs_ => (fun e_ => (Kd.S_ne HO_11.out BK634.out (by decide)) e_) hs_)); replace HO_11 := Aside0.mk hy0; replace HB := Aside0.mk hb; clear hb hkp hy0) | ((with_reducible refine gk_ 21 ?_); refine gl_ 73 Tryz.func21 #[.slice Ao54 t666.length co54, .int .i64 1] ?_ (hargs := (by (try simp only [List.map_toArray, List.map_cons, List.map_nil]); first | done | (rw [show t666.length = t638.length from (Kd.S_reads' HO_11.out).1.symm] <;> rfl) | rfl | (simp only [List.length_drop, List.length_take]; rfl))); (with_reducible refine (laws_heldMsgS.calls kj30 _ _ t666 1 t667 _ ?side1 ?side2 A73.out).mono ?_); (case side1 => exact cr_ (Kd.S_reads' HO_11.out).2.2); (case side2 => rw [show t666.length = t638.length from (Kd.S_reads' HO_11.out).1.symm]; exact (Kd.S_reads' HO_11.out).2.1); rintro e w85 ⟨rfl, hb⟩; refine ⟨_, rfl, ?_⟩; replace HO_8 := Aside0.mk (Kd.S_below (by (with_reducible repeat (first | apply Kd.S_alloc | apply Kd.S_drewN | apply Kd.S_drew)); exact HO_8.out) hb); replace HO_11 := Aside0.mk (Kd.S_below (by (with_reducible repeat (first | apply Kd.S_alloc | apply Kd.S_drewN | apply Kd.S_drew)); exact HO_11.out) hb); replace HO_635001 := rb_ HO_635001 hb; replace HO_635004 := rb_ HO_635004 hb; replace BK601 := kl_ BK601 hb; replace BK634 := kl_ BK634 hb; replace HB := ss_ HB hb; clear hb; have hnb86 := NB601_634.out; have hnc86 := NB634_601.out; have hcz87 := cz8_ BK601) | ((with_reducible refine gq_ 12 80 ?_); refine gc_ 80 Tryz.func12 (laws_toMirror.calls kj30 a0_0 _ _ l0_1 a0_2 a0_3 _ _ l0_4 a0_5 a0_6 a0_7 t668 t669 t672 t673 t674 t677 t678 t679 _ (cb_ HR0_1 HB) HC0_1.out (cb_ HR0_4 HB) HC0_4.out A76.out) ?_; rintro e w88 ⟨v670, v675, rfl, ho0, ho1, hb⟩; refine ⟨_, rfl, ?_⟩; replace HO_8 := Aside0.mk (Kd.S_elder' (by (with_reducible repeat (first | apply Kd.S_alloc | apply Kd.S_drewN | apply Kd.S_drew)); exact HO_8.out) (Kd.R_base ho0) hb); replace HO_11 := Aside0.mk (Kd.S_elder' (by (with_reducible repeat (first | apply Kd.S_alloc | apply Kd.S_drewN | apply Kd.S_drew)); exact HO_11.out) (Kd.R_base ho0) hb); have HO671 := Aside0.mk (Kd.R_lower (Kd.R_new' ho0 (lt_ HO_635001)) (sz_ HB)); replace HO_635001 := re_ HO_635001 ho0 hb; have HO676 := Aside0.mk (Kd.R_lower (Kd.R_new' ho1 (lt_ HO_635004)) (sz_ HB)); replace HO_635004 := re_ HO_635004 ho1 hb; replace BK601 := kl_ BK601 hb; replace BK634 := kl_ BK634 hb; replace HB := ss_ HB hb; clear hb ho0 ho1) | ((with_reducible refine gq_ 13 82 ?_); refine gc_ 82 Tryz.func13 (laws_toHeadS.calls kj30 _ _ l1 t680 _ (cb_ HR1 HB) HC1.out A77.out) ?_; rintro e w89 ⟨v681, rfl, ho0, hb⟩; refine ⟨_, rfl, ?_⟩; replace HO_8 := Aside0.mk (Kd.S_below (by (with_reducible repeat (first | apply Kd.S_alloc | apply Kd.S_drewN | apply Kd.S_drew)); exact HO_8.out) hb); replace HO_11 := Aside0.mk (Kd.S_below (by (with_reducible repeat (first | apply Kd.S_alloc | apply Kd.S_drewN | apply Kd.S_drew)); exact HO_11.out) hb); replace HO_635001 := rb_ HO_635001 hb; replace HO_635004 := rb_ HO_635004 hb; replace HO671 := rb_ HO671 hb; replace HO676 := rb_ HO676 hb; have HO682 := Aside0.mk (Kd.R_lower ho0 (sz_ HB)); replace BK601 := kl_ BK601 hb; replace BK634 := kl_ BK634 hb; replace HB := ss_ HB hb; clear hb ho0; obtain ⟨Ao90, co90, eo90⟩ := Kd.R_slice HO671.out; subst eo90; obtain ⟨Ao91, co91, eo91⟩ := Kd.R_slice HO676.out; subst eo91; obtain ⟨Ao92, co92, eo92⟩ := Kd.R_slice HO682.out; subst eo92) | ((with_reducible refine gq_ 14 84 ?_); refine gc_ 84 Tryz.func14 (impl_AskFor.calls kj30 t668 _ _ t669 t672 t673 _ _ t674 t677 t678 t679 _ _ t680 a2 t683 _ (ch_ HO671) (cl_ HO671) (ch_ HO676) (cl_ HO676) (ch_ HO682) (cl_ HO682) A78.out) ?_; rintro e w93 ⟨v684, rfl, ho0, hb⟩; refine ⟨_, rfl, ?_⟩; replace HO_635004 := rb_ HO_635004 hb; replace HO676 := rb_ HO676 hb; replace HO682 := rb_ HO682 hb; have HO685 := Aside0.mk (Kd.S_lower (Kd.S_new' (Kd.S_new' (Kd.S_new' (Kd.S_new' ho0 (Kd.S_lt (by (with_reducible repeat (first | apply Kd.S_alloc | apply Kd.S_drewN | apply Kd.S_drew)); exact HO_8.out))) (Kd.S_lt (by (with_reducible repeat (first | apply Kd.S_alloc | apply Kd.S_drewN | apply Kd.S_drew)); exact HO_11.out))) (lt_ HO_635001)) (lt_ HO671)) (sz_ HB)); replace HO_8 := Aside0.mk (Kd.S_elder' (by (with_reducible repeat (first | apply Kd.S_alloc | apply Kd.S_drewN | apply Kd.S_drew)); exact HO_8.out) (Kd.S_base ho0) hb); replace HO_11 := Aside0.mk (Kd.S_elder' (by (with_reducible repeat (first | apply Kd.S_alloc | apply Kd.S_drewN | apply Kd.S_drew)); exact HO_11.out) (Kd.S_base ho0) hb); replace HO_635001 := rb_ HO_635001 hb; replace HO671 := rb_ HO671 hb; replace BK601 := kl_ BK601 hb; replace BK634 := kl_ BK634 hb; replace HB := ss_ HB hb; clear hb ho0; obtain ⟨Ao94, co94, eo94⟩ := Kd.S_slice HO685.out; subst eo94) | ((with_reducible refine gq_ 15 87 ?_); refine gc_ 87 Tryz.func15 (laws_eqMsgS.calls kj30 _ _ t683 _ _ t619 true _ (cr_ (Kd.S_reads' HO685.out).2.2) ((Kd.S_reads' HO685.out).2.1) (cr_ (Kd.S_reads' HO_8.out).2.2) ((Kd.S_reads' HO_8.out).2.1) A79.out) ?_; rintro e w95 ⟨rfl, hb⟩; refine ⟨_, rfl, ?_⟩; replace HO_8 := Aside0.mk (Kd.S_below (by (with_reducible repeat (first | apply Kd.S_alloc | apply Kd.S_drewN | apply Kd.S_drew)); exact HO_8.out) hb); replace HO_11 := Aside0.mk (Kd.S_below (by (with_reducible repeat (first | apply Kd.S_alloc | apply Kd.S_drewN | apply Kd.S_drew)); exact HO_11.out) hb); replace HO_635001 := rb_ HO_635001 hb; replace HO_635004 := rb_ HO_635004 hb; replace HO671 := rb_ HO671 hb; replace HO676 := rb_ HO676 hb; replace HO682 := rb_ HO682 hb; replace HO685 := Aside0.mk (Kd.S_below (by (with_reducible repeat (first | apply Kd.S_alloc | apply Kd.S_drewN | apply Kd.S_drew)); exact HO685.out) hb); replace BK601 := kl_ BK601 hb; replace BK634 := kl_ BK634 hb; replace HB := ss_ HB hb; clear hb) | ((with_reducible refine gk_ 21 ?_); refine gl_ 91 Tryz.func21 #[.slice Ao54 t666.length co54, .int .i64 1] ?_ (hargs := (by (try simp only [List.map_toArray, List.map_cons, List.map_nil]); first | done | (rw [show t666.length = t638.length from (Kd.S_reads' HO_11.out).1.symm] <;> rfl) | rfl | (simp only [List.length_drop, List.length_take]; rfl))); (with_reducible refine (laws_heldMsgS.calls kj30 _ _ t666 1 t687 _ ?side1 ?side2 A81.out).mono ?_); (case side1 => exact cr_ (Kd.S_reads' HO_11.out).2.2); (case side2 => rw [show t666.length = t638.length from (Kd.S_reads' HO_11.out).1.symm]; exact (Kd.S_reads' HO_11.out).2.1); rintro e w96 ⟨rfl, hb⟩; refine ⟨_, rfl, ?_⟩; replace HO_8 := Aside0.mk (Kd.S_below (by (with_reducible repeat (first | apply Kd.S_alloc | apply Kd.S_drewN | apply Kd.S_drew)); exact HO_8.out) hb); replace HO_11 := Aside0.mk (Kd.S_below (by (with_reducible repeat (first | apply Kd.S_alloc | apply Kd.S_drewN | apply Kd.S_drew)); exact HO_11.out) hb); replace HO_635001 := rb_ HO_635001 hb; replace HO_635004 := rb_ HO_635004 hb; replace HO671 := rb_ HO671 hb; replace HO676 := rb_ HO676 hb; replace HO682 := rb_ HO682 hb; replace HO685 := Aside0.mk (Kd.S_below (by (with_reducible repeat (first | apply Kd.S_alloc | apply Kd.S_drewN | apply Kd.S_drew)); exact HO685.out) hb); replace BK601 := kl_ BK601 hb; replace BK634 := kl_ BK634 hb; replace HB := ss_ HB hb; clear hb))
     go_ret
     exact ⟨e2_, bw_ HB⟩
end Go.Proofs.YtnlndmoecljicaaGreat.Q
end
section
namespace Go.Proofs.YtnlndmoecljicaaGreat.Q
open Go.RowKit Go.Proofs.YtnlndmoecljicaaGreat.XO Go.Proofs.YtnlndmoecljicaaGreatW.PrintWords Go.ChangeShapes Go.WideShapes Go.ChangeAt
set_option linter.unusedVariables false
set_option linter.unusedSimpArgs false
def laws_FnExactAskFor.Pure : Prop := ∀ (x0 : S31) (x1 : List (S24)) (x2 : Int), G31 x0 → (x1.length ≤ 9223372036854775807 ∧ ∀ y0 ∈ x1, G24 y0) → (Lit.int .i64 x2).wf = true → ∃ k, laws_FnExactAskFor.f k x0.f0 x0.f1.f0.f0 x0.f1.f0.f1.f0 x0.f1.f0.f1.f1 x0.f1.f1 x0.f1.f2 x0.f2.f0 x0.f2.f1 x1 x2 = some true
namespace RFnExactAskFor
theorem own : ownKnob Tryz.prog.godebug = none := by kernel_rfl
theorem laidOut : laidOutB Tryz.prog = true := by kernel_rfl
set_option maxRecDepth 100000 in
theorem lifted (PU : laws_FnExactAskFor.Pure) (os : Os) (started : os.Started) (H : Type) (enc : TypeId × Value → H) :
  ReturnsInHanded {} Tryz.checked os 3 .any (Rows.fnExactAskForSpec.pre6 enc Tryz.prog Tryz.f3 Rows.fnExactAskForRow.domain false) (Rows.fnExactAskForSpec.post enc Tryz.prog Tryz.f3 false true false false) := by
 refine returnsInHanded_of_change_sized (C := Tryz.checked) own started (by kernel_rfl) Tryz.func3
  (ChangeSpec.witness6 (enc := enc) (C := Tryz.checked) false ⟨#[], #[.agg #[.int .i64 0, .slice none 0 0, .int .i64 0, .string ByteArray.empty, .slice none 0 0, .int .i64 0, .int .i64 0, .string ByteArray.empty], .slice none 0 0, .int .i64 0], []⟩ 8 (by kernel_rfl) (by kernel_rfl) (by kernel_rfl) (by kernel_rfl)) ?_
 intro W base args ds gs before hval0 hW hcnd hsz0 _
 have hval : ∀ (j : Nat) t v, Tryz.f3.params[j]? = some t → args[j]? = some v → Value.okWide Tryz.prog W .any base t v := hval0
 have hW' := hW
 obtain ⟨p, q, hA0, hV, rfl, hfz, hnd⟩ := hW
 have hA : DataW.TrodAll enc Tryz.prog W 0 (fun _ => true) true Tryz.f3.params.toList args.toList ds p := hA0
 rw [Tryz.params3] at hA hval
 obtain ⟨v0, vs0, d0, ds0, p0, q0, hargs, rfl, rfl, h0, r0⟩ := trodAll_cons hA
 obtain ⟨v1, vs1, d1, ds1, p1, q1, rfl, rfl, rfl, h1, r1⟩ := trodAll_cons r0
 obtain ⟨v2, vs2, d2, ds2, p2, q2, rfl, rfl, rfl, h2, r2⟩ := trodAll_cons r1
 obtain ⟨rfl, rfl, rfl⟩ := trodAll_nil r2
 obtain rfl : args = #[v0, v1, v2] := by cases args; simp_all
 obtain ⟨rfl, rfl⟩ := trodVars_none hV
 have kk0 := h0
 have lt0 : ∀ x ∈ p0, x.block < W.heap.size := by obtain ⟨m, hm⟩ := kk0; exact DataW.trod_lt m _ _ _ hm
 obtain ⟨cs0, rfl, _⟩ := okWide_struct Tryz.underlying31 (hval 0 31 v0 rfl rfl)
 obtain ⟨fu0, hf0⟩ := h0
 obtain ⟨x0, hK0, g0⟩ := opens31 hf0
 obtain ⟨A0_1, c0_1, A0_4, c0_4, he0, hc0_1, hr0_1, hc0_4, hr0_4⟩ := k31_open hK0
 obtain rfl : cs0 = #[.int .i64 x0.f0, .slice A0_1 x0.f1.f0.f0.length c0_1, .int .i64 x0.f1.f0.f1.f0, .string x0.f1.f0.f1.f1, .slice A0_4 x0.f1.f1.length c0_4, .int .i64 x0.f1.f2, .int .i64 x0.f2.f0, .string x0.f2.f1] := by cases cs0; simpa [Value.cells] using he0
 have kk1 := h1
 have lt1 : ∀ x ∈ p1, x.block < W.heap.size := by obtain ⟨m, hm⟩ := kk1; exact DataW.trod_lt m _ _ _ hm
 obtain ⟨A1, len1, c1, rfl⟩ := okWide_slice Tryz.underlying32 (hval 1 32 v1 rfl rfl)
 obtain ⟨fu1, hf1⟩ := h1
 obtain ⟨x1, ⟨A1', c1', he1, hc1, hr1⟩, g1⟩ := (opens_slice Tryz.underlying32 (by kernel_rfl) opens24) hf1
 obtain ⟨rfl, rfl, rfl⟩ : A1 = A1' ∧ len1 = x1.length ∧ c1 = c1' := by simpa [Value.cells] using he1
 have kk2 := h2
 have lt2 : ∀ x ∈ p2, x.block < W.heap.size := by obtain ⟨m, hm⟩ := kk2; exact DataW.trod_lt m _ _ _ hm
 obtain ⟨x2, rfl, rfl, rfl, g2⟩ := open_int Tryz.underlying3 (hval 2 3 v2 rfl rfl) h2
 clear hA0 hval0 hsz0
 obtain ⟨k, hp⟩ := PU x0 x1 x2 g0 g1 g2
 refine (laws_FnExactAskFor.calls k x0.f0 _ _ x0.f1.f0.f0 x0.f1.f0.f1.f0 x0.f1.f0.f1.f1 _ _ x0.f1.f1 x0.f1.f2 x0.f2.f0 x0.f2.f1 _ _ x1 x2 true W hr0_1 hc0_1 hr0_4 hc0_4 hr1 hc1 hp).mono fun e W' ⟨he, bel0⟩ => ?_
 have bel : Below W.heap.size W W' := bel0
 subst he
 exact ⟨_, rfl, _, _, _, [], _, [], hW', trodAll_mk1 (shut_bool Tryz.underlying4 _), (trodAll_cons_mk (Below.trod laidOut (by kernel_rfl) (of_decide_eq_true (by kernel_rfl)) kk0 bel lt0) (trodAll_cons_mk (Below.trod laidOut (by kernel_rfl) (of_decide_eq_true (by kernel_rfl)) kk1 bel lt1) (trodAll_cons_mk (Below.trod laidOut (by kernel_rfl) (of_decide_eq_true (by kernel_rfl)) kk2 bel lt2) trodAll_mk0))), rfl, bel.frame _, fun h => by cases h⟩
theorem over (PU : laws_FnExactAskFor.Pure) : Rows.fnExactAskForRow.holds Tryz.pinned (OpenSpec.ofChange Rows.fnExactAskForSpec) :=
 OpenClaim.holds_of_wide 3 Tryz.f3 rfl rfl rfl rfl rfl rfl rfl ⟨rfl, rfl, rfl, rfl, rfl⟩ rfl rfl rfl rfl rfl (by kernel_rfl) Tryz.func3 (by kernel_rfl)
  (of_decide_eq_true (by kernel_rfl)) (by unfold Func.isWrapper; first | (rw [if_pos (by decide +kernel)]; kernel_rfl) | (rw [if_neg (by decide +kernel)]; exact ⟨rfl, rfl⟩))
  (fun os started H enc _ => lifted PU os started H enc)
end RFnExactAskFor
theorem FnExactAskFor_row (PU : laws_FnExactAskFor.Pure) : Rows.FnExactAskForSaid := RFnExactAskFor.over PU
end Go.Proofs.YtnlndmoecljicaaGreat.Q
end
section
/- The program's AskFor and the reference's return the same for every mirror, list of heads and id; no condition. -/
namespace Go.Proofs.YtnlndmoecljicaaGreat.Q
open Go.RowKit Go.Proofs.YtnlndmoecljicaaGreat.B Go.Proofs.YtnlndmoecljicaaGreatW.PrintWords
set_option linter.unusedVariables false
theorem quiet_AskFor (r : Bool) (i : Int) (l : List ByteArray) (c : Int) (z : ByteArray) (to_ : Int) : OneQuiet (if r = true then askOf i l c z to_ else []) := by
 unfold OneQuiet askOf
 repeat' split
 all_goals first | exact .inl rfl | exact .inr ⟨_, rfl, rfl⟩
theorem pure_FnExactAskFor : laws_FnExactAskFor.Pure := by
 intro x T to_ g gT _
 refine Ev.rounds (g := fun k => laws_FnExactAskFor.f k x.f0 x.f1.f0.f0 x.f1.f0.f1.f0 x.f1.f0.f1.f1 x.f1.f1 x.f1.f2 x.f2.f0 x.f2.f1 T to_) ?_
 obtain ⟨_, ⟨⟨⟨g1, g2⟩, g3, g4⟩, g5, g6⟩, g7, g8⟩ := g
 generalize x.f0 = i at *
 generalize x.f1.f0.f0 = l at *
 generalize x.f1.f0.f1.f0 = n at *
 generalize x.f1.f0.f1.f1 = s at *
 generalize x.f1.f1 = b at *
 generalize x.f1.f2 = u at *
 generalize x.f2.f0 = c at *
 generalize x.f2.f1 = z at *
 have hb : InB b := int_bytes g5.2
 unfold laws_FnExactAskFor.f
 obtain ⟨r, hr, hc⟩ := szMirror_ev i l n s b u c z 1048576 (by omega) (by omega) g1 g2 g4 g5.1 g8
 refine Ev.bind hr ?_
 rcases hc with hc | ⟨hc, hc1⟩
 ·exact Ev.pos hc (Ev.now _)
 ·have ht := total_nonneg l
  obtain ⟨r2, hr2, hc2⟩ := szHeadS_ev T r hc (by omega) gT.1 (fun y hy => (gT.2 y hy).2)
  refine Ev.neg (by omega) (Ev.bind hr2 ?_)
  rcases hc2 with hc2 | ⟨hc2, hc3, _⟩
  ·exact Ev.pos hc2 (Ev.now _)
  ·have hT := toMirror_ev i l n s b u c z (by omega) (by omega)
   have hH := toHeadS_ev T (by omega)
   have hs := total_small (l := l) (by omega)
   have hE := eqMirror_ev i l n s b u c z (by omega) (by omega)
   have hEH := eqHeadS_ev (T.map cvHead) (by simp; omega)
   obtain ⟨q, _, hq⟩ := said_both i l n s b u c z (T.map cvHead) hb (by omega) hs (by simp; omega)
   obtain ⟨q1, q2, q3, q4⟩ := hq to_
   have hQ := quiet_AskFor q i l c z to_
   generalize (if q = true then askOf i l c z to_ else []) = R at *
   have hER := eqMsgS_ev hQ
   obtain ⟨m, M, hM, hh, hm0⟩ := marksMsgS_ev hQ
   obtain ⟨M1, hM1, _, _⟩ := markMirror_ev i l n s b u c z 1 (by omega) (by omega)
   obtain ⟨M2, hM2⟩ := markHeadS_ev (T.map cvHead) (1 + (l.length : Int) + (b.length : Int)) (by omega) (by simp; omega)
   refine Ev.neg (by omega) (Ev.bind hT (Ev.bind hH (Ev.bind q3 (Ev.bind hT (Ev.bind hH (Ev.bind q4 (Ev.bind hER (Ev.pos rfl (Ev.bind hT (Ev.bind hE (Ev.pos rfl (Ev.bind hH (Ev.bind hEH (Ev.pos rfl (Ev.bind hM1 (Ev.bind hM2 (Ev.neg (by simp only; omega) (Ev.bind hER ?_))))))))))))))))))
   refine Ev.step (fun k => by simp only [laws_FnExactAskFor.j0]; rfl) ?_
   refine Ev.neg (by simp) (Ev.bind hM (Ev.bind hh (Ev.neg (by omega) (Ev.pos rfl (Ev.bind hT (Ev.bind hH (Ev.bind q4 (Ev.bind hER (Ev.pos rfl (Ev.bind hh (Ev.neg (by omega) (Ev.pos rfl (Ev.now _)))))))))))))
end Go.Proofs.YtnlndmoecljicaaGreat.Q
namespace Go.Proofs.YtnlndmoecljicaaGreat
theorem fnExactAskFor_holds : Rows.FnExactAskForSaid := Q.FnExactAskFor_row Q.pure_FnExactAskFor
end Go.Proofs.YtnlndmoecljicaaGreat
end
