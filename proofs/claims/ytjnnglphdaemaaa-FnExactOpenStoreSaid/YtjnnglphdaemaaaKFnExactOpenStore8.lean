-- Joined and shortened by a program of this session (wip/tools/shakecopy.py): the words of the print, texts of pp.sh and of mine.
import Derived.Test.YtjnnglphdaemaaaKFnExactOpenStore7
import Derived.Test.YtjnnglphdaemaaaRows
import Derived.WalkKit
import Derived.ProofKit
import Derived.OpenShut
import Derived.ShutString
import Derived.ChangeOld
import Derived.Below
import Derived.SizedLaws
import Derived.Carry
section
-- Written by a program of this session (wip/tools/pp.sh) over the print of the kit.
namespace Go.Proofs.Ytjnnglphdaemaaa.Q
open Go.RowKit Go.Proofs.YtjnnglphdaemaaaW.PrintWords Go.Proofs.YtjnnglphdaemaaaW.PrintLast Go.Proofs.YtjnnglphdaemaaaW.PrintMore
attribute [local go_sem] max2_int min2_int max_two min_two max_three min_three max_four min_four   -- for this text's walks alone
set_option linter.unusedVariables false
set_option linter.unusedSimpArgs false
mutual
def laws_FnExactOpenStore.j0 : Nat → List (S47) → List Int → Int → List (S28) → List Int → Int → Bool → List ByteArray → Int → ByteArray → List Int → Int → List ByteArray → Int → ByteArray → List Int → Int → Option (Bool)
 | 0, _, _, _, _, _, _, _, _, _, _, _, _, _, _, _, _, _ => none
 | k + 1, x0, x1, x7, x8, x9, x11, x51, x619000, x619001, x619002, x619003, x619004, x636000, x636001, x636002, x636003, x636004 => if x51 = true then (none) else ((laws_toHeadS.f k x0).bind fun t637 => ((laws_eqHeadS.f k x8 t637).bind fun t640 => (if t640 = true then ((laws_toByteS.f k x1).bind fun t641 => ((laws_eqByteS.f k x9 t641).bind fun t644 => (if t644 = true then ((laws_markHeadS.f k x8 1).bind fun bt645 => ((laws_markByteS.f k x9 bt645.1).bind fun bt647 => (if bt647.1 < 0 then (laws_FnExactOpenStore.j1 k x0 x1 x7 true x619000 x619001 x619002 x619003 x619004 x636000 x636001 x636002 x636003 x636004) else ((laws_eqStore.f k x636000 x636001 x636002 x636003 x636004 x619000 x619001 x619002 x619003 x619004).bind fun t649 => (if t649 = true then (laws_FnExactOpenStore.j1 k x0 x1 x7 (x11 != x7) x619000 x619001 x619002 x619003 x619004 x636000 x636001 x636002 x636003 x636004) else (laws_FnExactOpenStore.j1 k x0 x1 x7 true x619000 x619001 x619002 x619003 x619004 x636000 x636001 x636002 x636003 x636004)))))) else (none)))) else (none))))
def laws_FnExactOpenStore.j1 : Nat → List (S47) → List Int → Int → Bool → List ByteArray → Int → ByteArray → List Int → Int → List ByteArray → Int → ByteArray → List Int → Int → Option (Bool)
 | 0, _, _, _, _, _, _, _, _, _, _, _, _, _, _ => none
 | k + 1, x0, x1, x7, x80, x619000, x619001, x619002, x619003, x619004, x636000, x636001, x636002, x636003, x636004 => if x80 = true then (none) else ((laws_markStore.f k x636000 x636001 x636002 x636003 x636004 1).bind fun bt650 => ((laws_heldStore.f k bt650.2.1 x636001 x636002 bt650.2.2 x636004 1).bind fun t653 => (if t653 < 0 then (none) else (if t653 = bt650.1 then ((laws_toHeadS.f k x0).bind fun t654 => ((laws_toByteS.f k x1).bind fun t657 => ((impl_OpenStore.f k t654 t657).bind fun bt660 => ((laws_eqStore.f k bt660.1 bt660.2.1 bt660.2.2.1 bt660.2.2.2.1 bt660.2.2.2.2.1 x619000 x619001 x619002 x619003 x619004).bind fun t671 => (if t671 = true then (laws_FnExactOpenStore.j2 k bt650.1 (bt660.2.2.2.2.2 != x7) bt650.2.1 x636001 x636002 bt650.2.2 x636004) else (laws_FnExactOpenStore.j2 k bt650.1 true bt650.2.1 x636001 x636002 bt650.2.2 x636004)))))) else (none)))))
def laws_FnExactOpenStore.j2 : Nat → Int → Bool → List ByteArray → Int → ByteArray → List Int → Int → Option (Bool)
 | 0, _, _, _, _, _, _, _ => none
 | k + 1, x13, x108, x636000, x636001, x636002, x636003, x636004 => if x108 = true then (none) else ((laws_heldStore.f k x636000 x636001 x636002 x636003 x636004 1).bind fun t672 => (if t672 < 0 then (none) else (if t672 = x13 then (some true) else (none))))
end
def laws_FnExactOpenStore.f (k : Nat) (l0 : List (S47)) (l1 : List Int) : Option (Bool) := if (l1.length : Int) > 1048576 then (some true) else ((laws_szHeadS.f k l0 1048576).bind fun t601 => (if t601 < 0 then (some true) else ((laws_toHeadS.f k l0).bind fun t602 => ((laws_toByteS.f k l1).bind fun t605 => ((spec_OpenStore.f k t602 t605).bind fun bt608 => ((laws_toHeadS.f k l0).bind fun t619 => ((laws_toByteS.f k l1).bind fun t622 => ((impl_OpenStore.f k t619 t622).bind fun bt625 => ((laws_eqStore.f k bt625.1 bt625.2.1 bt625.2.2.1 bt625.2.2.2.1 bt625.2.2.2.2.1 bt608.1 bt608.2.1 bt608.2.2.1 bt608.2.2.2.1 bt608.2.2.2.2.1).bind fun t636 => (if t636 = true then (laws_FnExactOpenStore.j0 k l0 l1 bt608.2.2.2.2.2 t619 t622 bt625.2.2.2.2.2 (bt625.2.2.2.2.2 != bt608.2.2.2.2.2) bt608.1 bt608.2.1 bt608.2.2.1 bt608.2.2.2.1 bt608.2.2.2.2.1 bt625.1 bt625.2.1 bt625.2.2.1 bt625.2.2.2.1 bt625.2.2.2.2.1) else (laws_FnExactOpenStore.j0 k l0 l1 bt608.2.2.2.2.2 t619 t622 bt625.2.2.2.2.2 true bt608.1 bt608.2.1 bt608.2.2.1 bt608.2.2.2.1 bt608.2.2.2.2.1 bt625.1 bt625.2.1 bt625.2.2.1 bt625.2.2.2.1 bt625.2.2.2.2.1)))))))))))
theorem laws_FnExactOpenStore.mono_l : ∀ k, (∀ y0 y1 y2 y3 y4 y5 y6 y7 y8 y9 y10 y11 y12 y13 y14 y15 y16, LeO (laws_FnExactOpenStore.j0 k y0 y1 y2 y3 y4 y5 y6 y7 y8 y9 y10 y11 y12 y13 y14 y15 y16) (laws_FnExactOpenStore.j0 (k + 1) y0 y1 y2 y3 y4 y5 y6 y7 y8 y9 y10 y11 y12 y13 y14 y15 y16)) ∧ (∀ y0 y1 y2 y3 y4 y5 y6 y7 y8 y9 y10 y11 y12 y13, LeO (laws_FnExactOpenStore.j1 k y0 y1 y2 y3 y4 y5 y6 y7 y8 y9 y10 y11 y12 y13) (laws_FnExactOpenStore.j1 (k + 1) y0 y1 y2 y3 y4 y5 y6 y7 y8 y9 y10 y11 y12 y13)) ∧ (∀ y0 y1 y2 y3 y4 y5 y6, LeO (laws_FnExactOpenStore.j2 k y0 y1 y2 y3 y4 y5 y6) (laws_FnExactOpenStore.j2 (k + 1) y0 y1 y2 y3 y4 y5 y6))
 | 0 => ⟨fun _ _ _ _ _ _ _ _ _ _ _ _ _ _ _ _ _ r h => by simp [laws_FnExactOpenStore.j0] at h, fun _ _ _ _ _ _ _ _ _ _ _ _ _ _ r h => by simp [laws_FnExactOpenStore.j1] at h, fun _ _ _ _ _ _ _ r h => by simp [laws_FnExactOpenStore.j2] at h⟩
 | k + 1 => by
  obtain ⟨ih0, ih1, ih2⟩ := laws_FnExactOpenStore.mono_l k
  refine ⟨?_, ?_, ?_⟩
  ·intro y0 y1 y2 y3 y4 y5 y6 y7 y8 y9 y10 y11 y12 y13 y14 y15 y16
   unfold laws_FnExactOpenStore.j0
   repeat' (with_reducible first | exact LeO.refl _ | exact LeO.none _ | apply ih0 | apply ih1 | apply ih2 | apply impl_OpenStore.mono | apply laws_eqByteS.mono | apply laws_eqHeadS.mono | apply laws_eqStore.mono | apply laws_heldStore.mono | apply laws_markByteS.mono | apply laws_markHeadS.mono | apply laws_markStore.mono | apply laws_szHeadS.mono | apply laws_toByteS.mono | apply laws_toHeadS.mono | apply spec_OpenStore.mono | apply LeO.ite | refine LeO.bind ?_ fun _ => ?_)
  ·intro y0 y1 y2 y3 y4 y5 y6 y7 y8 y9 y10 y11 y12 y13
   unfold laws_FnExactOpenStore.j1
   repeat' (with_reducible first | exact LeO.refl _ | exact LeO.none _ | apply ih0 | apply ih1 | apply ih2 | apply impl_OpenStore.mono | apply laws_eqByteS.mono | apply laws_eqHeadS.mono | apply laws_eqStore.mono | apply laws_heldStore.mono | apply laws_markByteS.mono | apply laws_markHeadS.mono | apply laws_markStore.mono | apply laws_szHeadS.mono | apply laws_toByteS.mono | apply laws_toHeadS.mono | apply spec_OpenStore.mono | apply LeO.ite | refine LeO.bind ?_ fun _ => ?_)
  ·intro y0 y1 y2 y3 y4 y5 y6
   unfold laws_FnExactOpenStore.j2
   repeat' (with_reducible first | exact LeO.refl _ | exact LeO.none _ | apply ih0 | apply ih1 | apply ih2 | apply impl_OpenStore.mono | apply laws_eqByteS.mono | apply laws_eqHeadS.mono | apply laws_eqStore.mono | apply laws_heldStore.mono | apply laws_markByteS.mono | apply laws_markHeadS.mono | apply laws_markStore.mono | apply laws_szHeadS.mono | apply laws_toByteS.mono | apply laws_toHeadS.mono | apply spec_OpenStore.mono | apply LeO.ite | refine LeO.bind ?_ fun _ => ?_)
theorem laws_FnExactOpenStore.mono : ∀ a0 a1 k, LeO (laws_FnExactOpenStore.f k a0 a1) (laws_FnExactOpenStore.f (k + 1) a0 a1) := by
 intro a0 a1 k
 obtain ⟨ih0, ih1, ih2⟩ := laws_FnExactOpenStore.mono_l k
 unfold laws_FnExactOpenStore.f
 repeat' (with_reducible first | exact LeO.refl _ | exact LeO.none _ | apply ih0 | apply ih1 | apply ih2 | apply impl_OpenStore.mono | apply laws_eqByteS.mono | apply laws_eqHeadS.mono | apply laws_eqStore.mono | apply laws_heldStore.mono | apply laws_markByteS.mono | apply laws_markHeadS.mono | apply laws_markStore.mono | apply laws_szHeadS.mono | apply laws_toByteS.mono | apply laws_toHeadS.mono | apply spec_OpenStore.mono | apply LeO.ite | refine LeO.bind ?_ fun _ => ?_)
set_option maxHeartbeats 8000000 in
set_option maxRecDepth 100000 in
theorem laws_FnExactOpenStore.calls (k : Nat) (A0 : Option Addr) (c0 : Nat) (l0 : List (S47)) (A1 : Option Addr) (c1 : Nat) (l1 : List Int) (r : Bool) (w : World) (hr0 : Kd.C k47 w A0 l0.length l0) (hc0 : l0.length ≤ c0) (hr1 : Kd.C (Kd.int .u8) w A1 l1.length l1) (hc1 : l1.length ≤ c1) (h : laws_FnExactOpenStore.f k l0 l1 = some r) :
  Calls Try.prog 9 #[.slice A0 l0.length c0, .slice A1 l1.length c1] w fun e w' => e = .returned (.bool r) ∧ Below w.heap.size w w' := by
 have hu37 := Try.underlying37
 have HR0 := Aside0.mk hr0
 have HC0 := Aside0.mk hc0
 clear hr0 hc0
 have HR1 := Aside0.mk hr1
 have HC1 := Aside0.mk hc1
 clear hr1 hc1
 have HB := Aside0.mk (Below.refl w.heap.size w)
 have H : (if (l1.length : Int) > 1048576 then (some true) else ((laws_szHeadS.f k l0 1048576).bind fun t601 => (if t601 < 0 then (some true) else ((laws_toHeadS.f k l0).bind fun t602 => ((laws_toByteS.f k l1).bind fun t605 => ((spec_OpenStore.f k t602 t605).bind fun bt608 => ((laws_toHeadS.f k l0).bind fun t619 => ((laws_toByteS.f k l1).bind fun t622 => ((impl_OpenStore.f k t619 t622).bind fun bt625 => ((laws_eqStore.f k bt625.1 bt625.2.1 bt625.2.2.1 bt625.2.2.2.1 bt625.2.2.2.2.1 bt608.1 bt608.2.1 bt608.2.2.1 bt608.2.2.2.1 bt608.2.2.2.2.1).bind fun t636 => (if t636 = true then (laws_FnExactOpenStore.j0 k l0 l1 bt608.2.2.2.2.2 t619 t622 bt625.2.2.2.2.2 (bt625.2.2.2.2.2 != bt608.2.2.2.2.2) bt608.1 bt608.2.1 bt608.2.2.1 bt608.2.2.2.1 bt608.2.2.2.2.1 bt625.1 bt625.2.1 bt625.2.2.1 bt625.2.2.2.1 bt625.2.2.2.2.1) else (laws_FnExactOpenStore.j0 k l0 l1 bt608.2.2.2.2.2 t619 t622 bt625.2.2.2.2.2 true bt608.1 bt608.2.1 bt608.2.2.1 bt608.2.2.2.1 bt608.2.2.2.2.1 bt625.1 bt625.2.1 bt625.2.2.1 bt625.2.2.2.1 bt625.2.2.2.2.1)))))))))))) = some r := h
 clear h
 replace H := it_ H; obtain ⟨c3, H⟩ | ⟨c3, H⟩ := H
 ·have c3b0 : decide (1048576 < (l1.length : Int)) = true := decide_eq_true c3
  have c3b1 : decide (1048576 < l1.length) = true := decide_eq_true (by omega)
  clear c3
  obtain rfl := Option.some.inj H
  go_enter Try.func9, Try.ntmps9
  go_wp2
  go_ret
  exact ⟨e2_, bw_ HB⟩
 ·have c3b0 : decide (1048576 < (l1.length : Int)) = false := decide_eq_false c3
  have c3b1 : decide (1048576 < l1.length) = false := decide_eq_false (by omega)
  clear c3
  replace H := bi_ H; obtain ⟨t601, A4, H⟩ := H
  replace H := itd_ H; obtain ⟨c5b0, H⟩ | ⟨c5b0, H⟩ := H
  ·obtain rfl := Option.some.inj H
   go_enter Try.func9, Try.ntmps9
   go_wp2_with (first | ((with_reducible refine gq_ 24 22 ?_); refine gc_ 22 Try.func24 (laws_szHeadS.calls k _ _ l0 1048576 t601 _ (cr_ HR0.out) HC0.out A4.out) ?_; rintro e w6 ⟨rfl, hb⟩; refine ⟨_, rfl, ?_⟩; replace HB := ss_ HB hb; clear hb))
   go_ret
   exact ⟨e2_, bw_ HB⟩
  ·replace H := bi_ H; obtain ⟨t602, A7, H⟩ := H
   replace H := bi_ H; obtain ⟨t605, A8, H⟩ := H
   replace H := bi_ H; obtain ⟨⟨t608, t611, t612, t613, t616, t617⟩, A9, H⟩ := H
   dsimp only at H
   replace H := bi_ H; obtain ⟨t619, A10, H⟩ := H
   replace H := bi_ H; obtain ⟨t622, A11, H⟩ := H
   replace H := bi_ H; obtain ⟨⟨t625, t628, t629, t630, t633, t634⟩, A12, H⟩ := H
   dsimp only at H
   have HC13 := Aside0.mk H
   clear H
   go_enter Try.func9, Try.ntmps9
   go_upto_region 11 with (first | ((with_reducible refine gq_ 24 22 ?_); refine gc_ 22 Try.func24 (laws_szHeadS.calls k _ _ l0 1048576 t601 _ (cr_ HR0.out) HC0.out A4.out) ?_; rintro e w14 ⟨rfl, hb⟩; refine ⟨_, rfl, ?_⟩; replace HB := ss_ HB hb; clear hb) | ((with_reducible refine gq_ 28 27 ?_); refine gc_ 27 Try.func28 (laws_toHeadS.calls k _ _ l0 t602 _ (cb_ HR0 HB) HC0.out A7.out) ?_; rintro e w15 ⟨v603, rfl, ho0, hb⟩; refine ⟨_, rfl, ?_⟩; have HO604 := Aside0.mk (Kd.R_lower ho0 (sz_ HB)); replace HB := ss_ HB hb; clear hb ho0) | ((with_reducible refine gq_ 56 29 ?_); refine gc_ 29 Try.func56 (laws_toByteS.calls k _ _ l1 t605 _ (cb_ HR1 HB) HC1.out A8.out) ?_; rintro e w16 ⟨v606, rfl, ho0, hb⟩; refine ⟨_, rfl, ?_⟩; replace HO604 := rb_ HO604 hb; have HO607 := Aside0.mk (Kd.R_lower ho0 (sz_ HB)); replace HB := ss_ HB hb; clear hb ho0; obtain ⟨Ao17, co17, eo17⟩ := Kd.R_slice HO604.out; subst eo17; obtain ⟨Ao18, co18, eo18⟩ := Kd.R_slice HO607.out; subst eo18) | ((with_reducible refine gq_ 55 30 ?_); refine gc_ 30 Try.func55 (spec_OpenStore.calls k _ _ t602 _ _ t605 t608 t611 t612 t613 t616 t617 _ (ch_ HO604) (cl_ HO604) (ch_ HO607) (cl_ HO607) A9.out) ?_; rintro e w19 ⟨v609, v614, rfl, ho0, ho1, hb⟩; refine ⟨_, rfl, ?_⟩; replace HO604 := rb_ HO604 hb; have HO610 := Aside0.mk (Kd.R_lower ho0 (sz_ HB)); have HO615 := Aside0.mk (Kd.R_lower (Kd.R_new' ho1 (lt_ HO607)) (sz_ HB)); replace HO607 := re_ HO607 ho1 hb; replace HB := ss_ HB hb; clear hb ho0 ho1) | ((with_reducible refine gd_ 6 ?_); refine bx_ 6 37 #[.slice none 0 0, .int .i64 0, .string (⟨#[]⟩ : ByteArray), .slice none 0 0, .int .i64 0] ?_; intro gb618 hg w20 hbox hb; replace HO604 := rb_ HO604 hb; replace HO607 := rb_ HO607 hb; replace HO610 := rb_ HO610 hb; replace HO615 := rb_ HO615 hb; have BK618 := Aside0.mk hbox; have GW618 := gg_ hg HB; have GE618 := GW618; replace HB := ss_ HB hb; clear hb hbox hg; obtain ⟨Ao21, co21, eo21⟩ := Kd.R_slice HO610.out; subst eo21; have hz22 := cz5_ BK618; obtain ⟨Ao23, co23, eo23⟩ := Kd.R_slice HO615.out; subst eo23) | ((with_reducible refine gq_ 28 34 ?_); refine gc_ 34 Try.func28 (laws_toHeadS.calls k _ _ l0 t619 _ (Kd.C_below HR0.out (bw_ HB)) HC0.out A10.out) ?_; rintro e w24 ⟨v620, rfl, ho0, hb⟩; refine ⟨_, rfl, ?_⟩; replace HO607 := rbf_ HO607 BK618 hb; replace HO610 := rbf_ HO610 BK618 hb; replace HO615 := rbf_ HO615 BK618 hb; have HO621 := Aside0.mk (Kd.R_lower (Kd.R_new' ho0 (lf_ HO604 BK618)) (sz_ HB)); replace HO604 := ref_ HO604 BK618 ho0 hb; replace BK618 := kp_ BK618 hb; replace HB := ss_ HB hb; clear hb ho0) | ((with_reducible refine gq_ 56 36 ?_); refine gc_ 36 Try.func56 (laws_toByteS.calls k _ _ l1 t622 _ (cb_ HR1 HB) HC1.out A11.out) ?_; rintro e w25 ⟨v623, rfl, ho0, hb⟩; refine ⟨_, rfl, ?_⟩; replace HO604 := rb_ HO604 hb; replace HO610 := rb_ HO610 hb; replace HO621 := rb_ HO621 hb; have HO624 := Aside0.mk (Kd.R_lower (Kd.R_new' (Kd.R_new' ho0 (lt_ HO607)) (lt_ HO615)) (sz_ HB)); replace HO607 := re_ HO607 ho0 hb; replace HO615 := re_ HO615 ho0 hb; replace BK618 := kl_ BK618 hb; replace HB := ss_ HB hb; clear hb ho0; obtain ⟨Ao26, co26, eo26⟩ := Kd.R_slice HO621.out; subst eo26; obtain ⟨Ao27, co27, eo27⟩ := Kd.R_slice HO624.out; subst eo27) | ((with_reducible refine gq_ 39 40 ?_); refine gc_ 40 Try.func39 (impl_OpenStore.calls k _ _ t619 _ _ t622 t625 t628 t629 t630 t633 t634 _ (ch_ HO621) (cl_ HO621) (ch_ HO624) (cl_ HO624) A12.out) ?_; rintro e w28 ⟨v626, v631, rfl, ho0, ho1, hb⟩; refine ⟨_, rfl, ?_⟩; replace HO604 := rb_ HO604 hb; replace HO621 := rb_ HO621 hb; have HO627 := Aside0.mk (Kd.R_lower (Kd.R_new' ho0 (lt_ HO610)) (sz_ HB)); replace HO610 := re_ HO610 ho0 hb; have HO632 := Aside0.mk (Kd.R_lower (Kd.R_new' (Kd.R_new' (Kd.R_new' ho1 (lt_ HO607)) (lt_ HO615)) (lt_ HO624)) (sz_ HB)); replace HO607 := re_ HO607 ho1 hb; replace HO615 := re_ HO615 ho1 hb; replace HO624 := re_ HO624 ho1 hb; replace BK618 := kl_ BK618 hb; replace HB := ss_ HB hb; clear hb ho0 ho1) | ((with_reducible refine gd_ 10 ?_); refine bx_ 10 37 #[.slice none 0 0, .int .i64 0, .string (⟨#[]⟩ : ByteArray), .slice none 0 0, .int .i64 0] ?_; intro gb635 hg w29 hbox hb; replace HO604 := rb_ HO604 hb; replace HO607 := rb_ HO607 hb; replace HO610 := rb_ HO610 hb; replace HO615 := rb_ HO615 hb; replace HO621 := rb_ HO621 hb; replace HO624 := rb_ HO624 hb; replace HO627 := rb_ HO627 hb; replace HO632 := rb_ HO632 hb; have BK635 := Aside0.mk hbox; have GW635 := gg_ hg HB; have GE635 := GW635; replace HB := ss_ HB hb; have NB618_635 := nla_ hg BK618; have NB635_618 := nga_ hg BK618; replace BK618 := kl_ BK618 hb; clear hb hbox hg; obtain ⟨Ao30, co30, eo30⟩ := Kd.R_slice HO627.out; subst eo30; have hnb31 := NB635_618.out; have hnc31 := NB618_635.out; have hz32 := cz5_ BK635; obtain ⟨Ao33, co33, eo33⟩ := Kd.R_slice HO632.out; subst eo33))
   (try simp only [Act.put, List.setIfInBounds_toArray, List.set_cons_zero, List.set_cons_succ])
   go_cut [51] (fun v51 wc => ∃ (kq : Nat) (x51_12 : Bool), v51 = .bool x51_12 ∧ Aside0 (laws_FnExactOpenStore.j0 kq l0 l1 t617 t619 t622 t634 x51_12 t608 t611 t612 t613 t616 t625 t628 t629 t630 t633 = some r) ∧ Aside0 (kq ≤ k) ∧ Aside0 (Kd.R k28 28 wc w.heap.size (fun _ => True) (.slice Ao26 t619.length co26) t619) ∧ Aside0 (Kd.R (Kd.int .u8) 5 wc w.heap.size (fun k_ => some k_ ≠ ((.slice Ao23 t613.length co23) : Value).ownBlock ∧ some k_ ≠ ((.slice Ao33 t630.length co33) : Value).ownBlock) (.slice Ao27 t622.length co27) t622) ∧ Aside0 (Kd.R Kd.string 9 wc w.heap.size (fun k_ => some k_ ≠ ((.slice Ao30 t625.length co30) : Value).ownBlock) (.slice Ao21 t608.length co21) t608) ∧ Aside0 (Kd.R (Kd.int .u8) 5 wc w.heap.size (fun k_ => some k_ ≠ ((.slice Ao27 t622.length co27) : Value).ownBlock ∧ some k_ ≠ ((.slice Ao33 t630.length co33) : Value).ownBlock) (.slice Ao23 t613.length co23) t613) ∧ Aside0 (Kd.R Kd.string 9 wc w.heap.size (fun k_ => some k_ ≠ ((.slice Ao21 t608.length co21) : Value).ownBlock) (.slice Ao30 t625.length co30) t625) ∧ Aside0 (Kd.R (Kd.int .u8) 5 wc w.heap.size (fun k_ => some k_ ≠ ((.slice Ao27 t622.length co27) : Value).ownBlock ∧ some k_ ≠ ((.slice Ao23 t613.length co23) : Value).ownBlock) (.slice Ao33 t630.length co33) t630) ∧ Aside0 (wc.heap[gb618]? = some (.cells #[(.slice Ao21 t608.length co21), .int .i64 t611, .string t612, (.slice Ao23 t613.length co23), .int .i64 t616] 37 (0, 0))) ∧ Aside0 (wc.heap[gb635]? = some (.cells #[(.slice Ao30 t625.length co30), .int .i64 t628, .string t629, (.slice Ao33 t630.length co33), .int .i64 t633] 37 (0, 0))) ∧ Aside0 (Below w.heap.size w wc))
   case first =>
    have H := HC13.out
    clear HC13
    replace H := bi_ H; obtain ⟨t636, A34, H⟩ := H
    replace H := itb_ H; obtain ⟨rfl, H⟩ | ⟨rfl, H⟩ := H
    ·have H' := Aside0.mk H
     clear H
     have hnb36 := NB635_618.out
     have hnc36 := NB618_635.out
     have hz37 := cz5_ BK635
     have hz38 := cz5_ BK618
     go_wp2_with (first | ((with_reducible refine gq_ 47 45 ?_); refine gc_ 45 Try.func47 (laws_eqStore.calls k _ _ t625 t628 t629 _ _ t630 t633 _ _ t608 t611 t612 _ _ t613 t616 true _ (chf_ HO627 BK635) (cl_ HO627) (chf_ HO632 BK635) (cl_ HO632) (chf_ HO610 BK635) (cl_ HO610) (chf_ HO615 BK635) (cl_ HO615) A34.out) ?_; rintro e w39 ⟨rfl, hb⟩; refine ⟨_, rfl, ?_⟩; replace HO604 := rbf_ HO604 BK635 hb; replace HO607 := rbf_ HO607 BK635 hb; replace HO610 := rbf_ HO610 BK635 hb; replace HO615 := rbf_ HO615 BK635 hb; replace HO621 := rbf_ HO621 BK635 hb; replace HO624 := rbf_ HO624 BK635 hb; replace HO627 := rbf_ HO627 BK635 hb; replace HO632 := rbf_ HO632 BK635 hb; replace BK618 := kp_ BK618 hb; replace BK635 := kp_ BK635 hb; replace HB := ss_ HB hb; clear hb))
     go_meet
     case rel => exact ⟨_, ((t634 != t617)), e1_, H', ⟨le_⟩, ⟨by (with_reducible repeat (first | apply Kd.R_alloc | apply Kd.R_drewN | apply Kd.R_drew)); exact Kd.R_mono HO621.out (fun _ hk => trivial)⟩, ⟨by (with_reducible repeat (first | apply Kd.R_alloc | apply Kd.R_drewN | apply Kd.R_drew)); exact Kd.R_mono HO624.out (fun _ hk => ⟨hk.1.2, hk.2⟩)⟩, ⟨by (with_reducible repeat (first | apply Kd.R_alloc | apply Kd.R_drewN | apply Kd.R_drew)); exact Kd.R_mono HO610.out (fun _ hk => hk.2)⟩, ⟨by (with_reducible repeat (first | apply Kd.R_alloc | apply Kd.R_drewN | apply Kd.R_drew)); exact Kd.R_mono HO615.out (fun _ hk => ⟨hk.1.2, hk.2⟩)⟩, ⟨by (with_reducible repeat (first | apply Kd.R_alloc | apply Kd.R_drewN | apply Kd.R_drew)); exact Kd.R_mono HO627.out (fun _ hk => hk.2)⟩, ⟨by (with_reducible repeat (first | apply Kd.R_alloc | apply Kd.R_drewN | apply Kd.R_drew)); exact Kd.R_mono HO632.out (fun _ hk => ⟨hk.2, hk.1.2⟩)⟩, ⟨kb_ BK618.out⟩, ⟨kb_ BK635.out⟩, ⟨bw_ HB⟩⟩
    ·have H' := Aside0.mk H
     clear H
     have hnb40 := NB635_618.out
     have hnc40 := NB618_635.out
     have hz41 := cz5_ BK635
     have hz42 := cz5_ BK618
     go_wp2_with (first | ((with_reducible refine gq_ 47 45 ?_); refine gc_ 45 Try.func47 (laws_eqStore.calls k _ _ t625 t628 t629 _ _ t630 t633 _ _ t608 t611 t612 _ _ t613 t616 false _ (chf_ HO627 BK635) (cl_ HO627) (chf_ HO632 BK635) (cl_ HO632) (chf_ HO610 BK635) (cl_ HO610) (chf_ HO615 BK635) (cl_ HO615) A34.out) ?_; rintro e w43 ⟨rfl, hb⟩; refine ⟨_, rfl, ?_⟩; replace HO604 := rbf_ HO604 BK635 hb; replace HO607 := rbf_ HO607 BK635 hb; replace HO610 := rbf_ HO610 BK635 hb; replace HO615 := rbf_ HO615 BK635 hb; replace HO621 := rbf_ HO621 BK635 hb; replace HO624 := rbf_ HO624 BK635 hb; replace HO627 := rbf_ HO627 BK635 hb; replace HO632 := rbf_ HO632 BK635 hb; replace BK618 := kp_ BK618 hb; replace BK635 := kp_ BK635 hb; replace HB := ss_ HB hb; clear hb))
     go_meet
     case rel => exact ⟨_, (true), e1_, H', ⟨le_⟩, ⟨by (with_reducible repeat (first | apply Kd.R_alloc | apply Kd.R_drewN | apply Kd.R_drew)); exact Kd.R_mono HO621.out (fun _ hk => trivial)⟩, ⟨by (with_reducible repeat (first | apply Kd.R_alloc | apply Kd.R_drewN | apply Kd.R_drew)); exact Kd.R_mono HO624.out (fun _ hk => ⟨hk.1.2, hk.2⟩)⟩, ⟨by (with_reducible repeat (first | apply Kd.R_alloc | apply Kd.R_drewN | apply Kd.R_drew)); exact Kd.R_mono HO610.out (fun _ hk => hk.2)⟩, ⟨by (with_reducible repeat (first | apply Kd.R_alloc | apply Kd.R_drewN | apply Kd.R_drew)); exact Kd.R_mono HO615.out (fun _ hk => ⟨hk.1.2, hk.2⟩)⟩, ⟨by (with_reducible repeat (first | apply Kd.R_alloc | apply Kd.R_drewN | apply Kd.R_drew)); exact Kd.R_mono HO627.out (fun _ hk => hk.2)⟩, ⟨by (with_reducible repeat (first | apply Kd.R_alloc | apply Kd.R_drewN | apply Kd.R_drew)); exact Kd.R_mono HO632.out (fun _ hk => ⟨hk.2, hk.1.2⟩)⟩, ⟨kb_ BK618.out⟩, ⟨kb_ BK635.out⟩, ⟨bw_ HB⟩⟩
   case rest =>
    clear HC13
    try clear c3
    try clear c3b0
    try clear c3b1
    try clear c5b0
    try clear hz22
    try clear hz32
    obtain ⟨kq, x51_12, rfl, HA, HJ12, HO_8, HO_9, HO_619000, HO_619003, HO_636000, HO_636003, BK618, BK635, HB⟩ := hcut
    cases kq with
    | zero => exact absurd HA.out (by simp [laws_FnExactOpenStore.j0])
    | succ kj12 =>
     have H := HA.out
     clear HA
     simp only [laws_FnExactOpenStore.j0] at H
     replace H := inb_ H; obtain ⟨rfl, H⟩ := H
     replace H := bi_ H; obtain ⟨t637, A45, H⟩ := H
     replace H := bi_ H; obtain ⟨t640, A46, H⟩ := H
     replace H := ipb_ H; obtain ⟨rfl, H⟩ := H
     replace H := bi_ H; obtain ⟨t641, A48, H⟩ := H
     replace H := bi_ H; obtain ⟨t644, A49, H⟩ := H
     replace H := ipb_ H; obtain ⟨rfl, H⟩ := H
     replace H := bi_ H; obtain ⟨⟨t645, t646⟩, A51, H⟩ := H
     dsimp only at H
     replace H := bi_ H; obtain ⟨⟨t647, t648⟩, A52, H⟩ := H
     dsimp only at H
     have HC53 := Aside0.mk H
     clear H
     go_upto_region 20 with (first | ((with_reducible refine gq_ 28 54 ?_); refine gc_ 54 Try.func28 (laws_toHeadS.calls kj12 _ _ l0 t637 _ (cb_ HR0 HB) HC0.out A45.out) ?_; rintro e w54 ⟨v638, rfl, ho0, hb⟩; refine ⟨_, rfl, ?_⟩; replace HO_9 := rb_ HO_9 hb; replace HO_619000 := rb_ HO_619000 hb; replace HO_619003 := rb_ HO_619003 hb; replace HO_636000 := rb_ HO_636000 hb; replace HO_636003 := rb_ HO_636003 hb; have HO639 := Aside0.mk (Kd.R_lower (Kd.R_new' ho0 (lt_ HO_8)) (sz_ HB)); replace HO_8 := re_ HO_8 ho0 hb; replace BK618 := kl_ BK618 hb; replace BK635 := kl_ BK635 hb; replace HB := ss_ HB hb; clear hb ho0; obtain ⟨Ao55, co55, eo55⟩ := Kd.R_slice HO639.out; subst eo55) | ((with_reducible refine gq_ 32 55 ?_); refine gc_ 55 Try.func32 (laws_eqHeadS.calls kj12 _ _ t619 _ _ t637 true _ (ch_ HO_8) (cl_ HO_8) (ch_ HO639) (cl_ HO639) A46.out) ?_; rintro e w56 ⟨rfl, hb⟩; refine ⟨_, rfl, ?_⟩; replace HO_8 := rb_ HO_8 hb; replace HO_9 := rb_ HO_9 hb; replace HO_619000 := rb_ HO_619000 hb; replace HO_619003 := rb_ HO_619003 hb; replace HO_636000 := rb_ HO_636000 hb; replace HO_636003 := rb_ HO_636003 hb; replace HO639 := rb_ HO639 hb; replace BK618 := kl_ BK618 hb; replace BK635 := kl_ BK635 hb; replace HB := ss_ HB hb; clear hb) | ((with_reducible refine gq_ 56 59 ?_); refine gc_ 59 Try.func56 (laws_toByteS.calls kj12 _ _ l1 t641 _ (cb_ HR1 HB) HC1.out A48.out) ?_; rintro e w57 ⟨v642, rfl, ho0, hb⟩; refine ⟨_, rfl, ?_⟩; replace HO_8 := rb_ HO_8 hb; replace HO_619000 := rb_ HO_619000 hb; replace HO_636000 := rb_ HO_636000 hb; replace HO639 := rb_ HO639 hb; have HO643 := Aside0.mk (Kd.R_lower (Kd.R_new' (Kd.R_new' (Kd.R_new' ho0 (lt_ HO_9)) (lt_ HO_619003)) (lt_ HO_636003)) (sz_ HB)); replace HO_9 := re_ HO_9 ho0 hb; replace HO_619003 := re_ HO_619003 ho0 hb; replace HO_636003 := re_ HO_636003 ho0 hb; replace BK618 := kl_ BK618 hb; replace BK635 := kl_ BK635 hb; replace HB := ss_ HB hb; clear hb ho0; obtain ⟨Ao58, co58, eo58⟩ := Kd.R_slice HO643.out; subst eo58) | ((with_reducible refine gq_ 57 60 ?_); refine gc_ 60 Try.func57 (laws_eqByteS.calls kj12 _ _ t622 _ _ t641 true _ (ch_ HO_9) (cl_ HO_9) (ch_ HO643) (cl_ HO643) A49.out) ?_; rintro e w' ⟨rfl, ⟨nd, rfl⟩⟩; refine ⟨_, rfl, ?_⟩) | ((with_reducible refine gq_ 35 64 ?_); refine gc_ 64 Try.func35 (laws_markHeadS.calls kj12 (fun k_ => some k_ = (.slice Ao26 t619.length co26 : Value).ownBlock) (.slice Ao26 t619.length co26) t619 1 t645 t646 w _ (bw_ HB) (Kd.R_tight rfl HO_8.out) A51.out) ?_; rintro e w59 ⟨rfl, hy0, hb, hkp⟩; refine ⟨_, rfl, ?_⟩; replace HO_9 := Aside0.mk (Kd.R_mono (ok' := fun k_ => some k_ ≠ (.slice Ao23 t613.length co23 : Value).ownBlock ∧ some k_ ≠ (.slice Ao33 t630.length co33 : Value).ownBlock ∧ some k_ ≠ (.slice Ao58 t641.length co58 : Value).ownBlock) (Kd.R_keptB ((Kd.R_apart' HO_9.out (Kd.R_typed HO_8.out) (by decide))) hkp (fun k_ hk_ hs_ => (hk_.2) hs_)) (fun k_ hk_ => ⟨hk_.1.1.1.1, hk_.1.1.1.2, hk_.1.1.2⟩)); replace HO_619000 := Aside0.mk (Kd.R_mono (ok' := fun k_ => some k_ ≠ (.slice Ao30 t625.length co30 : Value).ownBlock) (Kd.R_keptB ((Kd.R_apart' HO_619000.out (Kd.R_typed HO_8.out) (by decide))) hkp (fun k_ hk_ hs_ => (hk_.2) hs_)) (fun k_ hk_ => hk_.1.1)); replace HO_619003 := Aside0.mk (Kd.R_mono (ok' := fun k_ => some k_ ≠ (.slice Ao27 t622.length co27 : Value).ownBlock ∧ some k_ ≠ (.slice Ao33 t630.length co33 : Value).ownBlock ∧ some k_ ≠ (.slice Ao58 t641.length co58 : Value).ownBlock) (Kd.R_keptB ((Kd.R_apart' HO_619003.out (Kd.R_typed HO_8.out) (by decide))) hkp (fun k_ hk_ hs_ => (hk_.2) hs_)) (fun k_ hk_ => ⟨hk_.1.1.1.1, hk_.1.1.1.2, hk_.1.1.2⟩)); replace HO_636000 := Aside0.mk (Kd.R_mono (ok' := fun k_ => some k_ ≠ (.slice Ao21 t608.length co21 : Value).ownBlock) (Kd.R_keptB ((Kd.R_apart' HO_636000.out (Kd.R_typed HO_8.out) (by decide))) hkp (fun k_ hk_ hs_ => (hk_.2) hs_)) (fun k_ hk_ => hk_.1.1)); replace HO_636003 := Aside0.mk (Kd.R_mono (ok' := fun k_ => some k_ ≠ (.slice Ao27 t622.length co27 : Value).ownBlock ∧ some k_ ≠ (.slice Ao23 t613.length co23 : Value).ownBlock ∧ some k_ ≠ (.slice Ao58 t641.length co58 : Value).ownBlock) (Kd.R_keptB ((Kd.R_apart' HO_636003.out (Kd.R_typed HO_8.out) (by decide))) hkp (fun k_ hk_ hs_ => (hk_.2) hs_)) (fun k_ hk_ => ⟨hk_.1.1.1.1, hk_.1.1.1.2, hk_.1.1.2⟩)); replace BK618 := Aside0.mk (blk_kept (kb_ BK618.out) hkp (fun hs_ => (fun e_ => (Kd.R_ne HO_8.out BK618.out (by decide)) e_) hs_)); replace BK635 := Aside0.mk (blk_kept (kb_ BK635.out) hkp (fun hs_ => (fun e_ => (Kd.R_ne HO_8.out BK635.out (by decide)) e_) hs_)); replace HO639 := Aside0.mk (Kd.R_mono (ok' := fun k_ => some k_ ≠ (.slice Ao26 t619.length co26 : Value).ownBlock) (Kd.R_keptB (HO639.out) hkp (fun k_ hk_ hs_ => (hk_.2) hs_)) (fun k_ hk_ => hk_.1.2)); replace HO643 := Aside0.mk (Kd.R_mono (ok' := fun k_ => some k_ ≠ (.slice Ao27 t622.length co27 : Value).ownBlock ∧ some k_ ≠ (.slice Ao23 t613.length co23 : Value).ownBlock ∧ some k_ ≠ (.slice Ao33 t630.length co33 : Value).ownBlock) (Kd.R_keptB ((Kd.R_apart' HO643.out (Kd.R_typed HO_8.out) (by decide))) hkp (fun k_ hk_ hs_ => (hk_.2) hs_)) (fun k_ hk_ => ⟨hk_.1.1.1.1.2, hk_.1.1.1.2, hk_.1.1.2⟩)); replace HO_8 := Aside0.mk (Kd.R_reok rfl hy0 (fun k_ e_ => HO_8.out.1 k_ e_)); replace HB := Aside0.mk hb; clear hb hkp hy0) | ((with_reducible refine gq_ 58 67 ?_); refine gc_ 67 Try.func58 (laws_markByteS.calls kj12 (fun k_ => some k_ = (.slice Ao27 t622.length co27 : Value).ownBlock) (.slice Ao27 t622.length co27) t622 t645 t647 t648 w _ (bw_ HB) (Kd.R_tight rfl HO_9.out) A52.out) ?_; rintro e w60 ⟨rfl, hy0, hb, hkp⟩; refine ⟨_, rfl, ?_⟩; replace HO_8 := Aside0.mk (Kd.R_mono (ok' := fun k_ => some k_ ≠ (.slice Ao55 t637.length co55 : Value).ownBlock) (Kd.R_keptB ((Kd.R_apart' HO_8.out (Kd.R_typed HO_9.out) (by decide))) hkp (fun k_ hk_ hs_ => (hk_.2) hs_)) (fun k_ hk_ => hk_.1.1.2)); replace HO_619000 := Aside0.mk (Kd.R_mono (ok' := fun k_ => some k_ ≠ (.slice Ao30 t625.length co30 : Value).ownBlock) (Kd.R_keptB ((Kd.R_apart' HO_619000.out (Kd.R_typed HO_9.out) (by decide))) hkp (fun k_ hk_ hs_ => (hk_.2) hs_)) (fun k_ hk_ => hk_.1.1)); replace HO_619003 := Aside0.mk (Kd.R_mono (ok' := fun k_ => some k_ ≠ (.slice Ao27 t622.length co27 : Value).ownBlock ∧ some k_ ≠ (.slice Ao33 t630.length co33 : Value).ownBlock ∧ some k_ ≠ (.slice Ao58 t641.length co58 : Value).ownBlock) (Kd.R_keptB (HO_619003.out) hkp (fun k_ hk_ hs_ => (hk_.1) hs_)) (fun k_ hk_ => ⟨hk_.1.1, hk_.1.2.1, hk_.1.2.2⟩)); replace HO_636000 := Aside0.mk (Kd.R_mono (ok' := fun k_ => some k_ ≠ (.slice Ao21 t608.length co21 : Value).ownBlock) (Kd.R_keptB ((Kd.R_apart' HO_636000.out (Kd.R_typed HO_9.out) (by decide))) hkp (fun k_ hk_ hs_ => (hk_.2) hs_)) (fun k_ hk_ => hk_.1.1)); replace HO_636003 := Aside0.mk (Kd.R_mono (ok' := fun k_ => some k_ ≠ (.slice Ao27 t622.length co27 : Value).ownBlock ∧ some k_ ≠ (.slice Ao23 t613.length co23 : Value).ownBlock ∧ some k_ ≠ (.slice Ao58 t641.length co58 : Value).ownBlock) (Kd.R_keptB (HO_636003.out) hkp (fun k_ hk_ hs_ => (hk_.1) hs_)) (fun k_ hk_ => ⟨hk_.1.1, hk_.1.2.1, hk_.1.2.2⟩)); replace BK618 := Aside0.mk (blk_kept (kb_ BK618.out) hkp (fun hs_ => (fun e_ => (Kd.R_ne HO_9.out BK618.out (by decide)) e_) hs_)); replace BK635 := Aside0.mk (blk_kept (kb_ BK635.out) hkp (fun hs_ => (fun e_ => (Kd.R_ne HO_9.out BK635.out (by decide)) e_) hs_)); replace HO639 := Aside0.mk (Kd.R_mono (ok' := fun k_ => some k_ ≠ (.slice Ao26 t619.length co26 : Value).ownBlock) (Kd.R_keptB ((Kd.R_apart' HO639.out (Kd.R_typed HO_9.out) (by decide))) hkp (fun k_ hk_ hs_ => (hk_.2) hs_)) (fun k_ hk_ => hk_.1.1)); replace HO_9 := Aside0.mk (Kd.R_reok rfl hy0 (fun k_ e_ => HO_9.out.1 k_ e_)); replace HO643 := Aside0.mk (Kd.R_mono (ok' := fun k_ => some k_ ≠ (.slice Ao27 t622.length co27 : Value).ownBlock ∧ some k_ ≠ (.slice Ao23 t613.length co23 : Value).ownBlock ∧ some k_ ≠ (.slice Ao33 t630.length co33 : Value).ownBlock) (Kd.R_keptB (HO643.out) hkp (fun k_ hk_ hs_ => (hk_.1) hs_)) (fun k_ hk_ => ⟨hk_.1.1, hk_.1.2.1, hk_.1.2.2⟩)); replace HB := Aside0.mk hb; clear hb hkp hy0))
     (try simp only [Act.put, List.setIfInBounds_toArray, List.set_cons_zero, List.set_cons_succ])
     go_cut [80] (fun v80 wc => ∃ (kq : Nat) (x80_52 : Bool), v80 = .bool x80_52 ∧ Aside0 (laws_FnExactOpenStore.j1 kq l0 l1 t617 x80_52 t608 t611 t612 t613 t616 t625 t628 t629 t630 t633 = some r) ∧ Aside0 (kq ≤ kj12) ∧ Aside0 (Kd.R Kd.string 9 wc w.heap.size (fun k_ => some k_ ≠ ((.slice Ao30 t625.length co30) : Value).ownBlock) (.slice Ao21 t608.length co21) t608) ∧ Aside0 (Kd.R (Kd.int .u8) 5 wc w.heap.size (fun k_ => some k_ ≠ ((.slice Ao33 t630.length co33) : Value).ownBlock) (.slice Ao23 t613.length co23) t613) ∧ Aside0 (Kd.R Kd.string 9 wc w.heap.size (fun k_ => some k_ ≠ ((.slice Ao21 t608.length co21) : Value).ownBlock) (.slice Ao30 t625.length co30) t625) ∧ Aside0 (Kd.R (Kd.int .u8) 5 wc w.heap.size (fun k_ => some k_ ≠ ((.slice Ao23 t613.length co23) : Value).ownBlock) (.slice Ao33 t630.length co33) t630) ∧ Aside0 (wc.heap[gb618]? = some (.cells #[(.slice Ao21 t608.length co21), .int .i64 t611, .string t612, (.slice Ao23 t613.length co23), .int .i64 t616] 37 (0, 0))) ∧ Aside0 (wc.heap[gb635]? = some (.cells #[(.slice Ao30 t625.length co30), .int .i64 t628, .string t629, (.slice Ao33 t630.length co33), .int .i64 t633] 37 (0, 0))) ∧ Aside0 (Below w.heap.size w wc))
     case first =>
      have H := HC53.out
      clear HC53
      replace H := itd_ H; obtain ⟨c61b0, H⟩ | ⟨c61b0, H⟩ := H
      ·(first | rw [c61b0] | (simp only [i64_w, i32_w]; rw [c61b0]) | skip)
       have H' := Aside0.mk H
       clear H
       go_wp2
       go_meet
       case rel => exact ⟨_, (true), e1_, H', ⟨by have := HJ12.out; first | omega | exact Nat.le_refl _⟩, ⟨kr_ HO_619000.out⟩, ⟨by (with_reducible repeat (first | apply Kd.R_alloc | apply Kd.R_drewN | apply Kd.R_drew)); exact Kd.R_mono HO_619003.out (fun _ hk => hk.2.1)⟩, ⟨kr_ HO_636000.out⟩, ⟨by (with_reducible repeat (first | apply Kd.R_alloc | apply Kd.R_drewN | apply Kd.R_drew)); exact Kd.R_mono HO_636003.out (fun _ hk => hk.2.1)⟩, ⟨kb_ BK618.out⟩, ⟨kb_ BK635.out⟩, ⟨bw_ HB⟩⟩
      ·(first | rw [c61b0] | (simp only [i64_w, i32_w]; rw [c61b0]) | skip)
       replace H := bi_ H; obtain ⟨t649, A62, H⟩ := H
       replace H := itb_ H; obtain ⟨rfl, H⟩ | ⟨rfl, H⟩ := H
       ·have H' := Aside0.mk H
        clear H
        have hnb64 := NB635_618.out
        have hnc64 := NB618_635.out
        have hz65 := cz5_ BK635
        have hz66 := cz5_ BK618
        go_wp2_with (first | (go_at_call 47; (with_reducible refine (laws_eqStore.calls kj12 _ _ t625 t628 t629 _ _ t630 t633 _ _ t608 t611 t612 _ _ t613 t616 true _ ?side1 ?side2 ?side3 ?side4 ?side5 ?side6 ?side7 ?side8 A62.out).mono ?_); (case side1 => exact ch_ HO_636000); (case side2 => exact (cl_ HO_636000)); (case side3 => exact ch_ HO_636003); (case side4 => exact (cl_ HO_636003)); (case side5 => exact ch_ HO_619000); (case side6 => exact (cl_ HO_619000)); (case side7 => exact ch_ HO_619003); (case side8 => exact (cl_ HO_619003)); rintro e w67 ⟨rfl, hb⟩; replace HO_8 := rb_ HO_8 hb; replace HO_9 := rb_ HO_9 hb; replace HO_619000 := rb_ HO_619000 hb; replace HO_619003 := rb_ HO_619003 hb; replace HO_636000 := rb_ HO_636000 hb; replace HO_636003 := rb_ HO_636003 hb; replace HO639 := rb_ HO639 hb; replace HO643 := rb_ HO643 hb; replace BK618 := kl_ BK618 hb; replace BK635 := kl_ BK635 hb; replace HB := ss_ HB hb; clear hb))
        go_meet
        case rel => exact ⟨_, ((t634 != t617)), e1_, H', ⟨by have := HJ12.out; first | omega | exact Nat.le_refl _⟩, ⟨kr_ HO_619000.out⟩, ⟨by (with_reducible repeat (first | apply Kd.R_alloc | apply Kd.R_drewN | apply Kd.R_drew)); exact Kd.R_mono HO_619003.out (fun _ hk => hk.2.1)⟩, ⟨kr_ HO_636000.out⟩, ⟨by (with_reducible repeat (first | apply Kd.R_alloc | apply Kd.R_drewN | apply Kd.R_drew)); exact Kd.R_mono HO_636003.out (fun _ hk => hk.2.1)⟩, ⟨kb_ BK618.out⟩, ⟨kb_ BK635.out⟩, ⟨bw_ HB⟩⟩
       ·have H' := Aside0.mk H
        clear H
        have hnb68 := NB635_618.out
        have hnc68 := NB618_635.out
        have hz69 := cz5_ BK635
        have hz70 := cz5_ BK618
        go_wp2_with (first | (go_at_call 47; (with_reducible refine (laws_eqStore.calls kj12 _ _ t625 t628 t629 _ _ t630 t633 _ _ t608 t611 t612 _ _ t613 t616 false _ ?side1 ?side2 ?side3 ?side4 ?side5 ?side6 ?side7 ?side8 A62.out).mono ?_); (case side1 => exact ch_ HO_636000); (case side2 => exact (cl_ HO_636000)); (case side3 => exact ch_ HO_636003); (case side4 => exact (cl_ HO_636003)); (case side5 => exact ch_ HO_619000); (case side6 => exact (cl_ HO_619000)); (case side7 => exact ch_ HO_619003); (case side8 => exact (cl_ HO_619003)); rintro e w71 ⟨rfl, hb⟩; replace HO_8 := rb_ HO_8 hb; replace HO_9 := rb_ HO_9 hb; replace HO_619000 := rb_ HO_619000 hb; replace HO_619003 := rb_ HO_619003 hb; replace HO_636000 := rb_ HO_636000 hb; replace HO_636003 := rb_ HO_636003 hb; replace HO639 := rb_ HO639 hb; replace HO643 := rb_ HO643 hb; replace BK618 := kl_ BK618 hb; replace BK635 := kl_ BK635 hb; replace HB := ss_ HB hb; clear hb))
        go_meet
        case rel => exact ⟨_, (true), e1_, H', ⟨by have := HJ12.out; first | omega | exact Nat.le_refl _⟩, ⟨kr_ HO_619000.out⟩, ⟨by (with_reducible repeat (first | apply Kd.R_alloc | apply Kd.R_drewN | apply Kd.R_drew)); exact Kd.R_mono HO_619003.out (fun _ hk => hk.2.1)⟩, ⟨kr_ HO_636000.out⟩, ⟨by (with_reducible repeat (first | apply Kd.R_alloc | apply Kd.R_drewN | apply Kd.R_drew)); exact Kd.R_mono HO_636003.out (fun _ hk => hk.2.1)⟩, ⟨kb_ BK618.out⟩, ⟨kb_ BK635.out⟩, ⟨bw_ HB⟩⟩
     case rest =>
      clear HC53
      try clear c1
      try clear c2
      try clear p2
      try clear c3
      try clear c3b0
      try clear c3b1
      try clear c4
      try clear c5
      try clear c5b0
      try clear c9
      try clear c24
      try clear c28
      try clear c31
      try clear c35
      try clear c36
      try clear c39
      try clear c40
      try clear hz22
      try clear hz32
      try clear hz37
      try clear hz38
      try clear hz41
      try clear hz42
      obtain ⟨kq, x80_52, rfl, HA, HJ52, HO_619000, HO_619003, HO_636000, HO_636003, BK618, BK635, HB⟩ := hcut
      cases kq with
      | zero => exact absurd HA.out (by simp [laws_FnExactOpenStore.j1])
      | succ kj52 =>
       have H := HA.out
       clear HA
       simp only [laws_FnExactOpenStore.j1] at H
       replace H := inb_ H; obtain ⟨rfl, H⟩ := H
       replace H := bi_ H; obtain ⟨⟨t650, t651, t652⟩, A73, H⟩ := H
       dsimp only at H
       replace H := bi_ H; obtain ⟨t653, A74, H⟩ := H
       replace H := ind_ H; obtain ⟨c75b0, H⟩ := H
       replace H := ip_ H; obtain ⟨c76, H⟩ := H
       have c76b0 : (t653 == t650) = true := beq_iff_eq.mpr c76
       have c76b1 : (t653 != t650) = false := bne_eq_false_iff_eq.mpr c76
       clear c76
       replace H := bi_ H; obtain ⟨t654, A77, H⟩ := H
       replace H := bi_ H; obtain ⟨t657, A78, H⟩ := H
       replace H := bi_ H; obtain ⟨⟨t660, t663, t664, t665, t668, t669⟩, A79, H⟩ := H
       dsimp only at H
       have HC80 := Aside0.mk H
       clear H
       have hnb81 := NB635_618.out
       have hnc81 := NB618_635.out
       have hz82 := cz5_ BK635
       go_upto_region 31 with (first | ((with_reducible refine gq_ 48 83 ?_); refine gc_ 83 Try.func48 (laws_markStore.calls kj52 (fun k_ => some k_ = (.slice Ao30 t625.length co30 : Value).ownBlock) (.slice Ao30 t625.length co30) t625 t628 t629 (fun k_ => some k_ = (.slice Ao33 t630.length co33 : Value).ownBlock) (.slice Ao33 t630.length co33) t630 t633 1 t650 t651 t652 w _ (bw_ HB) (Kd.R_tight rfl HO_636000.out) (Kd.R_tight rfl HO_636003.out) A73.out) ?_; rintro e w83 ⟨rfl, hy0, hy1, hb, hkp⟩; refine ⟨_, rfl, ?_⟩; replace HO_619000 := Aside0.mk (Kd.R_mono (ok' := fun k_ => some k_ ≠ (.slice Ao30 t625.length co30 : Value).ownBlock) (Kd.R_keptB ((Kd.R_apart' HO_619000.out (Kd.R_typed HO_636003.out) (by decide))) hkp (fun k_ hk_ hs_ => Or.elim hs_ (fun e_ => (hk_.1) e_) (fun e_ => (hk_.2) e_))) (fun k_ hk_ => hk_.1.1)); replace HO_619003 := Aside0.mk (Kd.R_mono (ok' := fun k_ => some k_ ≠ (.slice Ao33 t630.length co33 : Value).ownBlock) (Kd.R_keptB ((Kd.R_apart' HO_619003.out (Kd.R_typed HO_636000.out) (by decide))) hkp (fun k_ hk_ hs_ => Or.elim hs_ (fun e_ => (hk_.2) e_) (fun e_ => (hk_.1) e_))) (fun k_ hk_ => hk_.1.1)); replace BK618 := Aside0.mk (blk_kept (kb_ BK618.out) hkp (fun hs_ => Or.elim hs_ (fun e_ => (fun e_ => (Kd.R_ne HO_636000.out BK618.out (by decide)) e_) e_) (fun e_ => (fun e_ => (Kd.R_ne HO_636003.out BK618.out (by decide)) e_) e_))); replace BK635 := Aside0.mk (blk_kept (kb_ BK635.out) hkp (fun hs_ => Or.elim hs_ (fun e_ => (fun e_ => (Kd.R_ne HO_636000.out BK635.out (by decide)) e_) e_) (fun e_ => (fun e_ => (Kd.R_ne HO_636003.out BK635.out (by decide)) e_) e_))); replace HO_636000 := Aside0.mk (Kd.R_reok rfl hy0 (fun k_ e_ => HO_636000.out.1 k_ e_)); replace HO_636003 := Aside0.mk (Kd.R_reok rfl hy1 (fun k_ e_ => HO_636003.out.1 k_ e_)); replace HB := Aside0.mk hb; clear hb hkp hy0 hy1; have hz84 := cz5_ BK635) | ((with_reducible refine gk_ 49 ?_); refine gl_ 86 Try.func49 #[.agg #[.slice Ao30 t651.length co30, .int .i64 t628, .string t629, .slice Ao33 t652.length co33, .int .i64 t633], .int .i64 1] ?_ (hargs := (by (try simp only [List.map_toArray, List.map_cons, List.map_nil]); first | done | (rw [show t651.length = t625.length from (Kd.R_reads' HO_636000.out).1.symm, show t652.length = t630.length from (Kd.R_reads' HO_636003.out).1.symm] <;> rfl) | rfl | (simp only [List.length_drop, List.length_take]; rfl))); (with_reducible refine (laws_heldStore.calls kj52 _ _ t651 t628 t629 _ _ t652 t633 1 t653 _ ?side1 ?side2 ?side3 ?side4 A74.out).mono ?_); (case side1 => exact ch_ HO_636000); (case side2 => rw [show t651.length = t625.length from (Kd.R_reads' HO_636000.out).1.symm]; exact (cl_ HO_636000)); (case side3 => exact ch_ HO_636003); (case side4 => rw [show t652.length = t630.length from (Kd.R_reads' HO_636003.out).1.symm]; exact (cl_ HO_636003)); rintro e w85 ⟨rfl, hb⟩; refine ⟨_, rfl, ?_⟩; replace HO_619000 := rb_ HO_619000 hb; replace HO_619003 := rb_ HO_619003 hb; replace HO_636000 := rb_ HO_636000 hb; replace HO_636003 := rb_ HO_636003 hb; replace BK618 := kl_ BK618 hb; replace BK635 := kl_ BK635 hb; replace HB := ss_ HB hb; clear hb) | ((with_reducible refine gq_ 28 94 ?_); refine gc_ 94 Try.func28 (laws_toHeadS.calls kj52 _ _ l0 t654 _ (cb_ HR0 HB) HC0.out A77.out) ?_; rintro e w86 ⟨v655, rfl, ho0, hb⟩; refine ⟨_, rfl, ?_⟩; replace HO_619000 := rb_ HO_619000 hb; replace HO_619003 := rb_ HO_619003 hb; replace HO_636000 := rb_ HO_636000 hb; replace HO_636003 := rb_ HO_636003 hb; have HO656 := Aside0.mk (Kd.R_lower ho0 (sz_ HB)); replace BK618 := kl_ BK618 hb; replace BK635 := kl_ BK635 hb; replace HB := ss_ HB hb; clear hb ho0) | ((with_reducible refine gq_ 56 96 ?_); refine gc_ 96 Try.func56 (laws_toByteS.calls kj52 _ _ l1 t657 _ (cb_ HR1 HB) HC1.out A78.out) ?_; rintro e w87 ⟨v658, rfl, ho0, hb⟩; refine ⟨_, rfl, ?_⟩; replace HO_619000 := rb_ HO_619000 hb; replace HO_636000 := rb_ HO_636000 hb; replace HO656 := rb_ HO656 hb; have HO659 := Aside0.mk (Kd.R_lower (Kd.R_new' (Kd.R_new' ho0 (lt_ HO_619003)) (lt_ HO_636003)) (sz_ HB)); replace HO_619003 := re_ HO_619003 ho0 hb; replace HO_636003 := re_ HO_636003 ho0 hb; replace BK618 := kl_ BK618 hb; replace BK635 := kl_ BK635 hb; replace HB := ss_ HB hb; clear hb ho0; obtain ⟨Ao88, co88, eo88⟩ := Kd.R_slice HO656.out; subst eo88; obtain ⟨Ao89, co89, eo89⟩ := Kd.R_slice HO659.out; subst eo89) | ((with_reducible refine gq_ 39 97 ?_); refine gc_ 97 Try.func39 (impl_OpenStore.calls kj52 _ _ t654 _ _ t657 t660 t663 t664 t665 t668 t669 _ (ch_ HO656) (cl_ HO656) (ch_ HO659) (cl_ HO659) A79.out) ?_; rintro e w90 ⟨v661, v666, rfl, ho0, ho1, hb⟩; refine ⟨_, rfl, ?_⟩; replace HO656 := rb_ HO656 hb; have HO662 := Aside0.mk (Kd.R_lower (Kd.R_new' (Kd.R_new' ho0 (lt_ HO_619000)) (lt_ HO_636000)) (sz_ HB)); replace HO_619000 := re_ HO_619000 ho0 hb; replace HO_636000 := re_ HO_636000 ho0 hb; have HO667 := Aside0.mk (Kd.R_lower (Kd.R_new' (Kd.R_new' (Kd.R_new' ho1 (lt_ HO_619003)) (lt_ HO_636003)) (lt_ HO659)) (sz_ HB)); replace HO_619003 := re_ HO_619003 ho1 hb; replace HO_636003 := re_ HO_636003 ho1 hb; replace HO659 := re_ HO659 ho1 hb; replace BK618 := kl_ BK618 hb; replace BK635 := kl_ BK635 hb; replace HB := ss_ HB hb; clear hb ho0 ho1) | ((with_reducible refine gd_ 15 ?_); refine bx_ 15 37 #[.slice none 0 0, .int .i64 0, .string (⟨#[]⟩ : ByteArray), .slice none 0 0, .int .i64 0] ?_; intro gb670 hg w91 hbox hb; replace HO_619000 := rb_ HO_619000 hb; replace HO_619003 := rb_ HO_619003 hb; replace HO_636000 := rb_ HO_636000 hb; replace HO_636003 := rb_ HO_636003 hb; replace HO656 := rb_ HO656 hb; replace HO659 := rb_ HO659 hb; replace HO662 := rb_ HO662 hb; replace HO667 := rb_ HO667 hb; have BK670 := Aside0.mk hbox; have GW670 := gg_ hg HB; have GE670 := GW670; replace HB := ss_ HB hb; have NB618_670 := nla_ hg BK618; have NB670_618 := nga_ hg BK618; replace BK618 := kl_ BK618 hb; have NB635_670 := nla_ hg BK635; have NB670_635 := nga_ hg BK635; replace BK635 := kl_ BK635 hb; clear hb hbox hg; obtain ⟨Ao92, co92, eo92⟩ := Kd.R_slice HO662.out; subst eo92; have hnb93 := NB670_618.out; have hnc93 := NB618_670.out; have hnb94 := NB670_635.out; have hnc94 := NB635_670.out; have hz95 := cz5_ BK670; obtain ⟨Ao96, co96, eo96⟩ := Kd.R_slice HO667.out; subst eo96))
       (try simp only [Act.put, List.setIfInBounds_toArray, List.set_cons_zero, List.set_cons_succ])
       go_cut [108] (fun v108 wc => ∃ (kq : Nat) (x108_79 : Bool), v108 = .bool x108_79 ∧ Aside0 (laws_FnExactOpenStore.j2 kq t650 x108_79 t651 t628 t629 t652 t633 = some r) ∧ Aside0 (kq ≤ kj52) ∧ Aside0 (Kd.R Kd.string 9 wc w.heap.size (fun k_ => some k_ ≠ ((.slice Ao30 t625.length co30) : Value).ownBlock ∧ some k_ ≠ ((.slice Ao92 t660.length co92) : Value).ownBlock) (.slice Ao21 t608.length co21) t608) ∧ Aside0 (Kd.R (Kd.int .u8) 5 wc w.heap.size (fun k_ => some k_ ≠ ((.slice Ao33 t630.length co33) : Value).ownBlock ∧ some k_ ≠ ((.slice Ao96 t665.length co96) : Value).ownBlock) (.slice Ao23 t613.length co23) t613) ∧ Aside0 (Kd.R Kd.string 9 wc w.heap.size (fun k_ => some k_ ≠ ((.slice Ao21 t608.length co21) : Value).ownBlock ∧ some k_ ≠ ((.slice Ao92 t660.length co92) : Value).ownBlock) (.slice Ao30 t625.length co30) t651) ∧ Aside0 (Kd.R (Kd.int .u8) 5 wc w.heap.size (fun k_ => some k_ ≠ ((.slice Ao23 t613.length co23) : Value).ownBlock ∧ some k_ ≠ ((.slice Ao96 t665.length co96) : Value).ownBlock) (.slice Ao33 t630.length co33) t652) ∧ Aside0 (Kd.R Kd.string 9 wc w.heap.size (fun k_ => some k_ ≠ ((.slice Ao21 t608.length co21) : Value).ownBlock ∧ some k_ ≠ ((.slice Ao30 t625.length co30) : Value).ownBlock) (.slice Ao92 t660.length co92) t660) ∧ Aside0 (Kd.R (Kd.int .u8) 5 wc w.heap.size (fun k_ => some k_ ≠ ((.slice Ao23 t613.length co23) : Value).ownBlock ∧ some k_ ≠ ((.slice Ao33 t630.length co33) : Value).ownBlock) (.slice Ao96 t665.length co96) t665) ∧ Aside0 (wc.heap[gb618]? = some (.cells #[(.slice Ao21 t608.length co21), .int .i64 t611, .string t612, (.slice Ao23 t613.length co23), .int .i64 t616] 37 (0, 0))) ∧ Aside0 (wc.heap[gb635]? = some (.cells #[(.slice Ao30 t625.length co30), .int .i64 t628, .string t629, (.slice Ao33 t630.length co33), .int .i64 t633] 37 (0, 0))) ∧ Aside0 (wc.heap[gb670]? = some (.cells #[(.slice Ao92 t660.length co92), .int .i64 t663, .string t664, (.slice Ao96 t665.length co96), .int .i64 t668] 37 (0, 0))) ∧ Aside0 (Below w.heap.size w wc))
       case first =>
        have H := HC80.out
        clear HC80
        replace H := bi_ H; obtain ⟨t671, A97, H⟩ := H
        replace H := itb_ H; obtain ⟨rfl, H⟩ | ⟨rfl, H⟩ := H
        ·have H' := Aside0.mk H
         clear H
         have hnb99 := NB670_618.out
         have hnc99 := NB618_670.out
         have hnb100 := NB670_635.out
         have hnc100 := NB635_670.out
         have hz101 := cz5_ BK670
         have hnb102 := NB618_635.out
         have hnc102 := NB635_618.out
         have hz103 := cz5_ BK618
         go_wp2_with (first | ((with_reducible refine gq_ 47 102 ?_); refine gc_ 102 Try.func47 (laws_eqStore.calls kj52 _ _ t660 t663 t664 _ _ t665 t668 _ _ t608 t611 t612 _ _ t613 t616 true _ (chf_ HO662 BK670) (cl_ HO662) (chf_ HO667 BK670) (cl_ HO667) (chf_ HO_619000 BK670) (cl_ HO_619000) (chf_ HO_619003 BK670) (cl_ HO_619003) A97.out) ?_; rintro e w104 ⟨rfl, hb⟩; refine ⟨_, rfl, ?_⟩; replace HO_619000 := rbf_ HO_619000 BK670 hb; replace HO_619003 := rbf_ HO_619003 BK670 hb; replace HO_636000 := rbf_ HO_636000 BK670 hb; replace HO_636003 := rbf_ HO_636003 BK670 hb; replace HO656 := rbf_ HO656 BK670 hb; replace HO659 := rbf_ HO659 BK670 hb; replace HO662 := rbf_ HO662 BK670 hb; replace HO667 := rbf_ HO667 BK670 hb; replace BK618 := kp_ BK618 hb; replace BK635 := kp_ BK635 hb; replace BK670 := kp_ BK670 hb; replace HB := ss_ HB hb; clear hb))
         go_meet
         case rel => exact ⟨_, ((t669 != t617)), e1_, H', ⟨by have := HJ12.out; have := HJ52.out; first | omega | exact Nat.le_refl _⟩, ⟨kr_ HO_619000.out⟩, ⟨by (with_reducible repeat (first | apply Kd.R_alloc | apply Kd.R_drewN | apply Kd.R_drew)); exact Kd.R_mono HO_619003.out (fun _ hk => ⟨hk.1.1, hk.2⟩)⟩, ⟨kr_ HO_636000.out⟩, ⟨by (with_reducible repeat (first | apply Kd.R_alloc | apply Kd.R_drewN | apply Kd.R_drew)); exact Kd.R_mono HO_636003.out (fun _ hk => ⟨hk.1.1, hk.2⟩)⟩, ⟨by (with_reducible repeat (first | apply Kd.R_alloc | apply Kd.R_drewN | apply Kd.R_drew)); exact Kd.R_mono HO662.out (fun _ hk => ⟨hk.1.2, hk.2⟩)⟩, ⟨by (with_reducible repeat (first | apply Kd.R_alloc | apply Kd.R_drewN | apply Kd.R_drew)); exact Kd.R_mono HO667.out (fun _ hk => ⟨hk.1.1.2, hk.1.2⟩)⟩, ⟨kb_ BK618.out⟩, ⟨kb_ BK635.out⟩, ⟨kb_ BK670.out⟩, ⟨bw_ HB⟩⟩
        ·have H' := Aside0.mk H
         clear H
         have hnb105 := NB670_618.out
         have hnc105 := NB618_670.out
         have hnb106 := NB670_635.out
         have hnc106 := NB635_670.out
         have hz107 := cz5_ BK670
         have hnb108 := NB618_635.out
         have hnc108 := NB635_618.out
         have hz109 := cz5_ BK618
         go_wp2_with (first | ((with_reducible refine gq_ 47 102 ?_); refine gc_ 102 Try.func47 (laws_eqStore.calls kj52 _ _ t660 t663 t664 _ _ t665 t668 _ _ t608 t611 t612 _ _ t613 t616 false _ (chf_ HO662 BK670) (cl_ HO662) (chf_ HO667 BK670) (cl_ HO667) (chf_ HO_619000 BK670) (cl_ HO_619000) (chf_ HO_619003 BK670) (cl_ HO_619003) A97.out) ?_; rintro e w110 ⟨rfl, hb⟩; refine ⟨_, rfl, ?_⟩; replace HO_619000 := rbf_ HO_619000 BK670 hb; replace HO_619003 := rbf_ HO_619003 BK670 hb; replace HO_636000 := rbf_ HO_636000 BK670 hb; replace HO_636003 := rbf_ HO_636003 BK670 hb; replace HO656 := rbf_ HO656 BK670 hb; replace HO659 := rbf_ HO659 BK670 hb; replace HO662 := rbf_ HO662 BK670 hb; replace HO667 := rbf_ HO667 BK670 hb; replace BK618 := kp_ BK618 hb; replace BK635 := kp_ BK635 hb; replace BK670 := kp_ BK670 hb; replace HB := ss_ HB hb; clear hb))
         go_meet
         case rel => exact ⟨_, (true), e1_, H', ⟨by have := HJ12.out; have := HJ52.out; first | omega | exact Nat.le_refl _⟩, ⟨kr_ HO_619000.out⟩, ⟨by (with_reducible repeat (first | apply Kd.R_alloc | apply Kd.R_drewN | apply Kd.R_drew)); exact Kd.R_mono HO_619003.out (fun _ hk => ⟨hk.1.1, hk.2⟩)⟩, ⟨kr_ HO_636000.out⟩, ⟨by (with_reducible repeat (first | apply Kd.R_alloc | apply Kd.R_drewN | apply Kd.R_drew)); exact Kd.R_mono HO_636003.out (fun _ hk => ⟨hk.1.1, hk.2⟩)⟩, ⟨by (with_reducible repeat (first | apply Kd.R_alloc | apply Kd.R_drewN | apply Kd.R_drew)); exact Kd.R_mono HO662.out (fun _ hk => ⟨hk.1.2, hk.2⟩)⟩, ⟨by (with_reducible repeat (first | apply Kd.R_alloc | apply Kd.R_drewN | apply Kd.R_drew)); exact Kd.R_mono HO667.out (fun _ hk => ⟨hk.1.1.2, hk.1.2⟩)⟩, ⟨kb_ BK618.out⟩, ⟨kb_ BK635.out⟩, ⟨kb_ BK670.out⟩, ⟨bw_ HB⟩⟩
       case rest =>
        clear HC80
        try clear c1
        try clear c2
        try clear p2
        try clear c3
        try clear c3b0
        try clear c3b1
        try clear c4
        try clear c5
        try clear c5b0
        try clear c6
        try clear c9
        try clear c24
        try clear c28
        try clear c31
        try clear c32
        try clear c35
        try clear c36
        try clear c39
        try clear c40
        try clear c44
        try clear c47
        try clear c50
        try clear c55
        try clear c56
        try clear c57
        try clear c58
        try clear c61
        try clear c61b0
        try clear c63
        try clear c64
        try clear c68
        try clear c75b0
        try clear c76
        try clear c76b0
        try clear c76b1
        try clear hz22
        try clear hz32
        try clear hz37
        try clear hz38
        try clear hz41
        try clear hz42
        try clear hz65
        try clear hz66
        try clear hz69
        try clear hz70
        try clear hz82
        try clear hz84
        try clear hz95
        obtain ⟨kq, x108_79, rfl, HA, HJ79, HO_619000, HO_619003, HO_636000, HO_636003, HO_671000, HO_671003, BK618, BK635, BK670, HB⟩ := hcut
        have hl636000_79 := (Kd.R_reads' HO_636000.out).1
        rw [hl636000_79] at HO_636000
        (try simp only [hl636000_79])
        (try simp only [hl636000_79] at BK618)
        (try simp only [hl636000_79] at BK635)
        (try simp only [hl636000_79] at BK670)
        (try simp only [hl636000_79] at HO_619000)
        (try simp only [hl636000_79] at HO_619003)
        (try simp only [hl636000_79] at HO_636003)
        (try simp only [hl636000_79] at HO_671000)
        (try simp only [hl636000_79] at HO_671003)
        have hl636003_79 := (Kd.R_reads' HO_636003.out).1
        rw [hl636003_79] at HO_636003
        (try simp only [hl636003_79])
        (try simp only [hl636003_79] at BK618)
        (try simp only [hl636003_79] at BK635)
        (try simp only [hl636003_79] at BK670)
        (try simp only [hl636003_79] at HO_619000)
        (try simp only [hl636003_79] at HO_619003)
        (try simp only [hl636003_79] at HO_636000)
        (try simp only [hl636003_79] at HO_671000)
        (try simp only [hl636003_79] at HO_671003)
        cases kq with
        | zero => exact absurd HA.out (by simp [laws_FnExactOpenStore.j2])
        | succ kj79 =>
         have H := HA.out
         clear HA
         simp only [laws_FnExactOpenStore.j2] at H
         replace H := inb_ H; obtain ⟨rfl, H⟩ := H
         replace H := bi_ H; obtain ⟨t672, A112, H⟩ := H
         replace H := ind_ H; obtain ⟨c113b0, H⟩ := H
         replace H := ip_ H; obtain ⟨c114, H⟩ := H
         have c114b0 : (t672 == t650) = true := beq_iff_eq.mpr c114
         have c114b1 : (t672 != t650) = false := bne_eq_false_iff_eq.mpr c114
         clear c114
         obtain rfl := Option.some.inj H
         have hnb115 := NB635_618.out
         have hnc115 := NB618_635.out
         have hnb116 := NB635_670.out
         have hnc116 := NB670_635.out
         have hz117 := cz5_ BK635
         go_wp2_with (first | ((with_reducible refine gq_ 49 111 ?_); refine gc_ 111 Try.func49 (laws_heldStore.calls kj79 _ _ t651 t628 t629 _ _ t652 t633 1 t672 _ (ch_ HO_636000) (cl_ HO_636000) (ch_ HO_636003) (cl_ HO_636003) A112.out) ?_; rintro e w118 ⟨rfl, hb⟩; refine ⟨_, rfl, ?_⟩; replace HO_619000 := rb_ HO_619000 hb; replace HO_619003 := rb_ HO_619003 hb; replace HO_636000 := rb_ HO_636000 hb; replace HO_636003 := rb_ HO_636003 hb; replace HO_671000 := rb_ HO_671000 hb; replace HO_671003 := rb_ HO_671003 hb; replace BK618 := kl_ BK618 hb; replace BK635 := kl_ BK635 hb; replace BK670 := kl_ BK670 hb; replace HB := ss_ HB hb; clear hb))
         go_ret
         exact ⟨e2_, bw_ HB⟩
end Go.Proofs.Ytjnnglphdaemaaa.Q
end

section
/- The row of the law FnExactOpenStore out of its pure statement and the printed walk. -/
namespace Go.Proofs.Ytjnnglphdaemaaa.Q
open Go.RowKit Go.Proofs.Ytjnnglphdaemaaa.XO Go.Proofs.YtjnnglphdaemaaaW.PrintWords Go.ChangeShapes Go.WideShapes Go.ChangeAt
set_option linter.unusedVariables false
set_option linter.unusedSimpArgs false
def laws_FnExactOpenStore.Pure : Prop := ∀ (x0 : List (S47)) (x1 : List Int), (x0.length ≤ 9223372036854775807 ∧ ∀ y0 ∈ x0, G47 y0) → (x1.length ≤ 9223372036854775807 ∧ ∀ y0 ∈ x1, (Lit.int .u8 y0).wf = true) → ∃ k, laws_FnExactOpenStore.f k x0 x1 = some true
namespace RFnExactOpenStore
theorem own : ownKnob Try.prog.godebug = none := by kernel_rfl
theorem laidOut : laidOutB Try.prog = true := by kernel_rfl
set_option maxRecDepth 100000 in
theorem lifted (PU : laws_FnExactOpenStore.Pure) (os : Os) (started : os.Started) (H : Type) (enc : TypeId × Value → H) :
    ReturnsInHanded {} Try.checked os 9 .any (Rows.fnExactOpenStoreSpec.pre6 enc Try.prog Try.f9 Rows.fnExactOpenStoreRow.domain false) (Rows.fnExactOpenStoreSpec.post enc Try.prog Try.f9 false true false false) := by
  refine returnsInHanded_of_change_sized (C := Try.checked) own started (by kernel_rfl) Try.func9
    (ChangeSpec.witness6 (enc := enc) (C := Try.checked) false ⟨#[], #[.slice none 0 0, .slice none 0 0], []⟩ 8 (by kernel_rfl) (by kernel_rfl) (by kernel_rfl) (by kernel_rfl)) ?_
  intro W base args ds gs before hval0 hW hcnd hsz0 _
  have hval : ∀ (j : Nat) t v, Try.f9.params[j]? = some t → args[j]? = some v → Value.okWide Try.prog W .any base t v := hval0
  have hW' := hW
  obtain ⟨p, q, hA0, hV, rfl, hfz, hnd⟩ := hW
  have hA : DataW.TrodAll enc Try.prog W 0 (fun _ => true) true Try.f9.params.toList args.toList ds p := hA0
  rw [Try.params9] at hA hval
  obtain ⟨v0, vs0, d0, ds0, p0, q0, hargs, rfl, rfl, h0, r0⟩ := trodAll_cons hA
  obtain ⟨v1, vs1, d1, ds1, p1, q1, rfl, rfl, rfl, h1, r1⟩ := trodAll_cons r0
  obtain ⟨rfl, rfl, rfl⟩ := trodAll_nil r1
  obtain rfl : args = #[v0, v1] := by cases args; simp_all
  obtain ⟨rfl, rfl⟩ := trodVars_none hV
  have kk0 := h0
  have lt0 : ∀ x ∈ p0, x.block < W.heap.size := by obtain ⟨m, hm⟩ := kk0; exact DataW.trod_lt m _ _ _ hm
  obtain ⟨A0, len0, c0, rfl⟩ := okWide_slice Try.underlying50 (hval 0 50 v0 rfl rfl)
  obtain ⟨fu0, hf0⟩ := h0
  obtain ⟨x0, ⟨A0', c0', he0, hc0, hr0⟩, g0⟩ := (opens_slice Try.underlying50 (by kernel_rfl) opens47) hf0
  obtain ⟨rfl, rfl, rfl⟩ : A0 = A0' ∧ len0 = x0.length ∧ c0 = c0' := by simpa [Value.cells] using he0
  have kk1 := h1
  have lt1 : ∀ x ∈ p1, x.block < W.heap.size := by obtain ⟨m, hm⟩ := kk1; exact DataW.trod_lt m _ _ _ hm
  obtain ⟨A1, len1, c1, rfl⟩ := okWide_slice Try.underlying22 (hval 1 22 v1 rfl rfl)
  obtain ⟨fu1, hf1⟩ := h1
  obtain ⟨x1, ⟨A1', c1', he1, hc1, hr1⟩, g1⟩ := (opens_slice Try.underlying22 (by kernel_rfl) (opens_int Try.underlying5)) hf1
  obtain ⟨rfl, rfl, rfl⟩ : A1 = A1' ∧ len1 = x1.length ∧ c1 = c1' := by simpa [Value.cells] using he1
  clear hA0 hval0 hsz0
  obtain ⟨k, hp⟩ := PU x0 x1 g0 g1
  refine (laws_FnExactOpenStore.calls k _ _ x0 _ _ x1 true W hr0 hc0 hr1 hc1 hp).mono fun e W' ⟨he, bel0⟩ => ?_
  have bel : Below W.heap.size W W' := bel0
  subst he
  exact ⟨_, rfl, _, _, _, [], _, [], hW', trodAll_mk1 (shut_bool Try.underlying4 _), (trodAll_cons_mk (Below.trod laidOut (by kernel_rfl) (of_decide_eq_true (by kernel_rfl)) kk0 bel lt0) (trodAll_cons_mk (Below.trod laidOut (by kernel_rfl) (of_decide_eq_true (by kernel_rfl)) kk1 bel lt1) trodAll_mk0)), rfl, bel.frame _, fun h => by cases h⟩
theorem over (PU : laws_FnExactOpenStore.Pure) : Rows.fnExactOpenStoreRow.holds Try.pinned (OpenSpec.ofChange Rows.fnExactOpenStoreSpec) :=
  OpenClaim.holds_of_wide 9 Try.f9 rfl rfl rfl rfl rfl rfl rfl ⟨rfl, rfl, rfl, rfl, rfl⟩ rfl rfl rfl rfl rfl (by kernel_rfl) Try.func9 (by kernel_rfl)
    (of_decide_eq_true (by kernel_rfl)) (by unfold Func.isWrapper; first | (rw [if_pos (by decide +kernel)]; kernel_rfl) | (rw [if_neg (by decide +kernel)]; exact ⟨rfl, rfl⟩))
    (fun os started H enc _ => lifted PU os started H enc)
end RFnExactOpenStore
theorem FnExactOpenStore_row (PU : laws_FnExactOpenStore.Pure) : Rows.FnExactOpenStoreSaid := RFnExactOpenStore.over PU
end Go.Proofs.Ytjnnglphdaemaaa.Q
end

section
/- The program's OpenStore and the reference's return the same for every list of heads and all bytes; no condition. -/
namespace Go.Proofs.Ytjnnglphdaemaaa.Q
open Go.RowKit Go.Proofs.Ytjnnglphdaemaaa.B Go.Proofs.YtjnnglphdaemaaaW.PrintWords
set_option linter.unusedVariables false

theorem pure_FnExactOpenStore : laws_FnExactOpenStore.Pure := by
  intro T b gT gb
  refine Ev.rounds (g := fun k => laws_FnExactOpenStore.f k T b) ?_
  have hb : InB b := int_bytes gb.2
  unfold laws_FnExactOpenStore.f
  by_cases hbig : (b.length : Int) > 1048576
  · exact Ev.pos hbig (Ev.now _)
  · refine Ev.neg hbig ?_
    obtain ⟨r2, hr2, hc2⟩ := szHeadS_ev T 1048576 (by omega) (by omega) gT.1 (fun y hy => (gT.2 y hy).2)
    refine Ev.bind hr2 ?_
    rcases hc2 with hc2 | ⟨hc2, hc3, _⟩
    · exact Ev.pos hc2 (Ev.now _)
    · have hH := toHeadS_ev T (by omega)
      have hY := toByteS_ev b (by omega)
      have hEH := eqHeadS_ev (T.map cvHead) (by simp; omega)
      have hEY := eqByteS_ev b (by omega)
      obtain ⟨L, m, c, o⟩ := opened_some (T.map cvHead) (firstB b).length [] (firstB b) (Nat.le_refl _)
      obtain ⟨q1, q2, h1, h2, h3⟩ := openStore_ev (T.map cvHead) (by simp; omega) b hb o
      generalize (headOf L).1 = N at *
      generalize (headOf L).2 = Z at *
      have hER := eqStore_ev L N Z m (m.length : Int) (by omega) (by omega)
      obtain ⟨M2, hM2⟩ := markHeadS_ev (T.map cvHead) 1 (by omega) (by simp; omega)
      have hM3 := markByteS_ev b (1 + 2 * ((T.map cvHead).length : Int)) (by omega) (by simp; omega)
      obtain ⟨M, hM, hl, hm⟩ := markStore_ev L N Z m (m.length : Int) 1 (by omega) (by omega)
      have hh := heldStore_ev M N Z m.length (m.length : Int) 1 (by omega) (by omega) hm
      rw [hl] at hh
      refine Ev.neg (by omega) (Ev.bind hH (Ev.bind hY (Ev.bind q1 (Ev.bind hH (Ev.bind hY (Ev.bind q2 (Ev.bind hER (Ev.pos rfl ?_))))))))
      refine Ev.step (fun k => by simp only [laws_FnExactOpenStore.j0]; rfl) ?_
      refine Ev.neg (by simp) (Ev.bind hH (Ev.bind hEH (Ev.pos rfl (Ev.bind hY (Ev.bind hEY (Ev.pos rfl (Ev.bind hM2 (Ev.bind hM3 (Ev.neg (by simp only; omega) (Ev.bind hER (Ev.pos rfl ?_)))))))))))
      refine Ev.step (fun k => by simp only [laws_FnExactOpenStore.j1]; rfl) ?_
      refine Ev.neg (by simp) (Ev.bind hM (Ev.bind hh (Ev.neg (by omega) (Ev.pos rfl (Ev.bind hH (Ev.bind hY (Ev.bind q2 (Ev.bind hER (Ev.pos rfl ?_)))))))))
      refine Ev.step (fun k => by simp only [laws_FnExactOpenStore.j2]; rfl) ?_
      exact Ev.neg (by simp) (Ev.bind hh (Ev.neg (by omega) (Ev.pos rfl (Ev.now _))))
end Go.Proofs.Ytjnnglphdaemaaa.Q
namespace Go.Proofs.Ytjnnglphdaemaaa
theorem fnExactOpenStore_holds : Rows.FnExactOpenStoreSaid := Q.FnExactOpenStore_row Q.pure_FnExactOpenStore
end Go.Proofs.Ytjnnglphdaemaaa
end
